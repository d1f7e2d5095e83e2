/- The walks of the laws JournalPuts and JournalGets. -/
import Derived.Test.YtobdibhadgfldaaJW13
namespace Go.Proofs.Ytobdibhadgfldaa
open Go.RowKit

theorem fine_wf : ∀ (l : List J.Act), (∀ x ∈ l, x.Wf) → ∀ x ∈ J.comms l, x.Wf := fun _ h x hx => h x (List.mem_filter.1 hx).1

set_option maxHeartbeats 1000000 in
set_option maxRecDepth 100000 in
theorem puts_law (a : Option Addr) (c : Nat) (l : List J.Act) (hwf : ∀ x ∈ l, x.Wf) (w : World) (hs : Sl w w.heap.size a l.length c 5 (avs l)) :
    Calls Try.prog 8 #[.slice a l.length c] w fun e w' => e = .returned (.bool true) ∧ Below w.heap.size w w' := by
  go_enter Try.func8, Try.ntmps8
  by_cases hl : 2000 < l.length
  · have g : decide ((2000 : Int) < (l.length : Int)) = true := by simp; omega
    go_wp2_with fail
    refine (awake_any w).mono ?_
    rintro e w' ⟨rfl, hb⟩
    go_wp2
    go_ret
    exact ⟨rfl, hb⟩
  · have g : decide ((2000 : Int) < (l.length : Int)) = false := by simp; omega
    have hle : l.length ≤ 2000 := by omega
    clear hl
    go_wp2_with fail
    refine (cloneA_any a l.length c l (by omega) w hs).mono ?_
    rintro e w1 ⟨a1, c1, rfl, ho1, hb1⟩
    have hs1 := hs.later hb1
    go_wp2_with fail
    refine (Put_any a1 c1 l (by omega) hwf w1 (Sl.of_owns ho1)).mono ?_
    rintro e w2 ⟨a2, n2, c2, r2, rfl, hp2, hb2⟩
    have hs2 := hs1.later hb2
    have hbb2 : Below w.heap.size w w2 := hb1.trans (hb2.mono hb1.size)
    have HP2 := Lib.hid hp2
    clear hp2 ho1 hs1 hb1 hb2 hs
    go_wp2_with fail
    refine (rPut_any a c l (by omega) hwf w2 hs2).mono ?_
    rintro e w3 ⟨a3, n3, c3, r3, rfl, hp3, hb3⟩
    have hs3 := hs2.later hb3
    have hbb3 : Below w.heap.size w w3 := hbb2.trans (hb3.mono hbb2.size)
    have hcomp : ∃ x y : List UInt8, x = y ∧ Sl w3 w3.heap.size a2 n2 c2 1 (x.map bv) ∧ Sl w3 w3.heap.size a3 n3 c3 1 (y.map bv) ∧ r2 = r3 := by
      have hp2 := HP2.out
      unfold PutRes at hp2 hp3
      split at hp2
      · rename_i hk
        rw [if_pos hk] at hp3
        exact ⟨_, _, rfl, hp2.2.later hb3, hp3.2, hp2.1.trans hp3.1.symm⟩
      · rename_i hk
        rw [if_neg hk] at hp3
        obtain ⟨rfl, rfl, rfl, rfl⟩ := hp2
        obtain ⟨rfl, rfl, rfl, rfl⟩ := hp3
        exact ⟨[], [], rfl, Sl.of_nil _ _ _, Sl.of_nil _ _ _, rfl⟩
    obtain ⟨x, y, hxy, hx, hy, rfl⟩ := hcomp
    subst hxy
    clear HP2 hp3 hs2 hb3 hbb2
    go_wp2_with fail
    refine (equal_any a2 a3 n2 c2 n3 c3 x x w3 hx hy).mono ?_
    rintro e w4 ⟨rfl, hb4⟩
    have hs4 := hs3.later hb4
    have hbb4 : Below w.heap.size w w4 := hbb3.trans (hb4.mono hbb3.size)
    clear hx hy hs3 hb4 hbb3
    go_wp2_with fail
    refine (comms_any a c l (by omega) w4 hs4).mono ?_
    rintro e w5 ⟨a5, c5, rfl, hs5, hb5⟩
    have hsa5 := hs4.later hb5
    have hbb5 : Below w.heap.size w w5 := hbb4.trans (hb5.mono hbb4.size)
    clear hs4 hb5 hbb4
    go_wp2_with fail
    refine (rcomms_any a c l (by omega) w5 hsa5).mono ?_
    rintro e w6 ⟨a6, c6, rfl, hs6, hb6⟩
    have hs56 := hs5.later hb6
    have hbb6 : Below w.heap.size w w6 := hbb5.trans (hb6.mono hbb5.size)
    have hcl : (J.comms l).length ≤ 10000000 := Nat.le_trans (List.length_filter_le _ _) (by omega)
    clear hs5 hb6 hbb5 hsa5
    go_wp2_with fail
    refine (same_any a5 a6 c5 c6 _ _ (J.comms l) (J.comms l) hcl hcl w6 hs56 hs6).mono ?_
    rintro e w7 ⟨rfl, hb7⟩
    have hbb7 : Below w.heap.size w w7 := hbb6.trans (hb7.mono hbb6.size)
    clear hs56 hs6 hb7 hbb6
    go_wp2_with fail
    refine (awake_any w7).mono ?_
    rintro e w8 ⟨rfl, hb8⟩
    have hbb8 : Below w.heap.size w w8 := hbb7.trans (hb8.mono hbb7.size)
    go_wp2
    go_ret
    exact ⟨rfl, hbb8⟩

set_option maxHeartbeats 1000000 in
set_option maxRecDepth 100000 in
theorem gets_law (a : Option Addr) (c : Nat) (b : List UInt8) (w : World) (hs : Sl w w.heap.size a b.length c 1 (b.map bv)) :
    Calls Try.prog 3 #[.slice a b.length c] w fun e w' => e = .returned (.bool true) ∧ Below w.heap.size w w' := by
  go_enter Try.func3, Try.ntmps3
  by_cases hl : 40000 < b.length
  · have g : decide ((40000 : Int) < (b.length : Int)) = true := by simp; omega
    go_wp2_with fail
    refine (awake_any w).mono ?_
    rintro e w' ⟨rfl, hb⟩
    go_wp2
    go_ret
    exact ⟨rfl, hb⟩
  · have g : decide ((40000 : Int) < (b.length : Int)) = false := by simp; omega
    have hle : b.length ≤ 40000 := by omega
    clear hl
    go_wp2_with fail
    refine (cloneB_any a b.length c b (by omega) w hs).mono ?_
    rintro e w1 ⟨a1, c1, rfl, ho1, hb1⟩
    have hs1 := hs.later hb1
    go_wp2_with fail
    refine (Get_any a1 c1 b (by omega) w1 (Sl.of_owns ho1)).mono ?_
    rintro e w2 ⟨a2, c2, rfl, hg2, hb2⟩
    have hs2 := hs1.later hb2
    have hbb2 : Below w.heap.size w w2 := hb1.trans (hb2.mono hb1.size)
    clear ho1 hs1 hb1 hb2 hs
    go_wp2_with fail
    refine (rGet_any a c b (by omega) w2 hs2).mono ?_
    rintro e w3 ⟨a3, c3, rfl, hg3, hb3⟩
    have hs3 := hs2.later hb3
    have hg23 := hg2.later hb3
    have hbb3 : Below w.heap.size w w3 := hbb2.trans (hb3.mono hbb2.size)
    clear hs2 hb3 hbb2 hg2
    go_wp2_with fail
    refine (Whole_any a c b (by omega) w3 hs3).mono ?_
    rintro e w4 ⟨a4, c4, rfl, hg4, hb4⟩
    have hs4 := hs3.later hb4
    have hg24 := hg23.later hb4
    have hg34 := hg3.later hb4
    have hbb4 : Below w.heap.size w w4 := hbb3.trans (hb4.mono hbb3.size)
    clear hs3 hb4 hbb3 hg23 hg3
    go_wp2_with fail
    refine (rWhole_any a c b (by omega) w4 hs4).mono ?_
    rintro e w5 ⟨a5, c5, rfl, hg5, hb5⟩
    have hg25 := hg24.later hb5
    have hg35 := hg34.later hb5
    have hg45 := hg4.later hb5
    have hbb5 : Below w.heap.size w w5 := hbb4.trans (hb5.mono hbb4.size)
    have hL : (J.wholes b).length ≤ 10000000 := by have := J.wholes_length b; omega
    have hG : (J.getL b).length ≤ 10000000 := by unfold J.getL; split; exact hL; exact Nat.zero_le _
    clear hs4 hb5 hbb4 hg24 hg34 hg4
    go_wp2_with fail
    refine (same_any a2 a3 c2 c3 _ _ (J.getL b) (J.getL b) hG hG w5 hg25 hg35).mono ?_
    rintro e w6 ⟨rfl, hb6⟩
    have hg46 := hg45.later hb6
    have hg56 := hg5.later hb6
    have hbb6 : Below w.heap.size w w6 := hbb5.trans (hb6.mono hbb5.size)
    clear hb6 hbb5 hg25 hg35 hg45 hg5
    go_wp2_with fail
    refine (same_any a4 a5 c4 c5 _ _ (J.wholes b) (J.wholes b) hL hL w6 hg46 hg56).mono ?_
    rintro e w7 ⟨rfl, hb7⟩
    have hbb7 : Below w.heap.size w w7 := hbb6.trans (hb7.mono hbb6.size)
    clear hb7 hbb6 hg46 hg56
    go_wp2_with fail
    refine (awake_any w7).mono ?_
    rintro e w8 ⟨rfl, hb8⟩
    have hbb8 : Below w.heap.size w w8 := hbb7.trans (hb8.mono hbb7.size)
    go_wp2
    go_ret
    exact ⟨rfl, hbb8⟩

end Go.Proofs.Ytobdibhadgfldaa
