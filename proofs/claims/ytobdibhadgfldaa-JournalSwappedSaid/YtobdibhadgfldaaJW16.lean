/- The contracts of the journal's functions as the laws want them; the walk of the law JournalBack. -/
import Derived.Test.YtobdibhadgfldaaJW15
namespace Go.Proofs.Ytobdibhadgfldaa
open Go.RowKit

theorem fine_n (a : Option Addr) (n c : Nat) (l : List J.Act) (hn : l.length = n) (hl : n ≤ 10000000) (hwf : ∀ x ∈ l, x.Wf) (w : World) (hs : Sl w w.heap.size a n c 5 (avs l)) :
    Calls Try.prog 17 #[.slice a n c] w fun e w' => ∃ F a' c', e = .returned (.slice a' n c') ∧ F.length = n ∧ J.okFrom 0 F = true ∧ (∀ x ∈ F, x.Wf) ∧
      w'.ownsRow w.heap.size 44 5 (.slice a' n c') n (avs F) ∧ Below w.heap.size w w' := by
  subst hn
  refine (fine_any a c l hl hwf w hs).mono ?_
  rintro e w' ⟨a', c', rfl, ho, hb⟩
  exact ⟨_, a', c', rfl, J.fine_length l 0, (J.fine_fine hwf).1, (J.fine_fine hwf).2, ho, hb⟩
theorem put_ok (a : Option Addr) (n c m : Nat) (l : List J.Act) (hn : l.length = n) (hm : 18 * n = m) (hl : n ≤ 400000) (hok : J.okFrom 0 l = true) (hwf : ∀ x ∈ l, x.Wf) (w : World) (hs : Sl w w.heap.size a n c 5 (avs l)) :
    Calls Try.prog 18 #[.slice a n c] w fun e w' => ∃ a' c', e = .returned (.tuple #[.slice a' m c', .int .i64 0]) ∧ w'.ownsRow w.heap.size 5 1 (.slice a' m c') m ((J.recs 0 l).map bv) ∧ Below w.heap.size w w' := by
  subst hn hm
  refine (Put_own a c l hl hwf w hs).mono ?_
  rintro e w' ⟨a', n', c', r, rfl, h, hb⟩
  unfold PutOwn at h
  rw [if_pos hok] at h
  obtain ⟨rfl, rfl, ho⟩ := h
  exact ⟨a', c', rfl, ho, hb⟩
theorem get_is (a : Option Addr) (n c m : Nat) (r : Int) (b : List UInt8) (L : List J.Act) (hn : b.length = n) (hL : J.getL b = L) (hr : J.getE b = r) (hm : L.length = m) (hl : n ≤ 8000000) (w : World) (hs : Sl w w.heap.size a n c 1 (b.map bv)) :
    Calls Try.prog 11 #[.slice a n c] w fun e w' => ∃ a' c', e = .returned (.tuple #[.slice a' m c', .int .i64 r]) ∧ Sl w' w'.heap.size a' m c' 5 (avs L) ∧ Below w.heap.size w w' := by
  subst hn hL hr hm
  exact Get_any a c b hl w hs
theorem whole_is (a : Option Addr) (n c m q : Nat) (b : List UInt8) (L : List J.Act) (hn : b.length = n) (hL : J.wholes b = L) (hm : L.length = m) (hq : 18 * m = q) (hl : n ≤ 8000000) (w : World) (hs : Sl w w.heap.size a n c 1 (b.map bv)) :
    Calls Try.prog 14 #[.slice a n c] w fun e w' => ∃ a' c', e = .returned (.tuple #[.slice a' m c', .int .i64 (q : Nat)]) ∧ Sl w' w'.heap.size a' m c' 5 (avs L) ∧ Below w.heap.size w w' := by
  subst hn hL hm hq
  exact Whole_any a c b hl w hs
theorem same_yes (a a2 : Option Addr) (n c c2 : Nat) (L : List J.Act) (hn : L.length = n) (hl : n ≤ 10000000) (w : World) (hs : Sl w w.heap.size a n c 5 (avs L)) (hs2 : Sl w w.heap.size a2 n c2 5 (avs L)) :
    Calls Try.prog 16 #[.slice a n c, .slice a2 n c2] w fun e w' => e = .returned (.bool true) ∧ Below w.heap.size w w' := by
  refine (same_any a a2 c c2 n n L L (by omega) (by omega) w hs hs2).mono ?_
  rintro e w' ⟨rfl, hb⟩
  exact ⟨by rw [decide_eq_true rfl], hb⟩
theorem equal_yes (a a2 : Option Addr) (n c n2 c2 : Nat) (l m : List UInt8) (h : l = m) (w : World) (hs : Sl w w.heap.size a n c 1 (l.map bv)) (hs2 : Sl w w.heap.size a2 n2 c2 1 (m.map bv)) :
    Calls Try.prog 19 #[.slice a n c, .slice a2 n2 c2] w fun e w' => e = .returned (.bool true) ∧ Below w.heap.size w w' := by
  refine (equal_any a a2 n c n2 c2 l m w hs hs2).mono ?_
  rintro e w' ⟨rfl, hb⟩
  exact ⟨by rw [decide_eq_true h], hb⟩
theorem getE_all {l : List J.Act} (hok : J.okFrom 0 l = true) (hw : ∀ x ∈ l, x.Wf) : J.getL (J.recs 0 l) = l ∧ J.getE (J.recs 0 l) = 0 := by
  have h := J.wholes_all hok hw
  have hi : J.isAll (J.recs 0 l) = true := by unfold J.isAll; rw [h, J.recs_length]; exact decide_eq_true rfl
  exact ⟨by unfold J.getL; rw [if_pos hi, h], by unfold J.getE; rw [if_pos hi]⟩

theorem avs_take (l : List J.Act) (j : Nat) : (avs l).take (j * 5) = avs (l.take j) := by
  induction l generalizing j with
  | nil => simp [avs]
  | cons x l ih =>
    cases j with
    | zero => simp [avs]
    | succ j =>
      rw [show avs (x :: l) = av x ++ avs l from rfl, List.take_succ_cons, show avs (x :: l.take j) = av x ++ avs (l.take j) from rfl, ← ih j]
      have e : (j + 1) * 5 = (av x).length + j * 5 := by show (j + 1) * 5 = 5 + j * 5; omega
      rw [e, List.take_length_add_append]

set_option maxHeartbeats 2000000 in
set_option maxRecDepth 100000 in
theorem back_law (a : Option Addr) (n c : Nat) (l : List J.Act) (hn : l.length = n) (hwf : ∀ x ∈ l, x.Wf) (a2 : Option Addr) (m c2 : Nat) (b : List UInt8) (hm : b.length = m) (w : World) (hs : Sl w w.heap.size a n c 5 (avs l)) (hs2 : Sl w w.heap.size a2 m c2 1 (b.map bv)) :
    Calls Try.prog 4 #[.slice a n c, .slice a2 m c2] w fun e w' => e = .returned (.bool true) ∧ Below w.heap.size w w' := by
  have hn := Lib.hid hn
  have hm := Lib.hid hm
  go_enter Try.func4, Try.ntmps4
  by_cases hl : 2000 < n ∨ 40000 < m
  · rcases (show (decide ((2000 : Int) < (n : Int)) = true) ∨ (decide ((2000 : Int) < (n : Int)) = false ∧ decide ((40000 : Int) < (m : Int)) = true) by simp; omega) with g | ⟨g, g'⟩
    all_goals
      go_wp2_with fail
      refine (awake_any w).mono ?_
      rintro e w' ⟨rfl, hb⟩
      go_wp2
      go_ret
      exact ⟨rfl, hb⟩
  · have g : decide ((2000 : Int) < (n : Int)) = false := by simp; omega
    have g' : decide ((40000 : Int) < (m : Int)) = false := by simp; omega
    have hn2 : n ≤ 2000 := by omega
    have hm2 : m ≤ 40000 := by omega
    clear hl
    go_wp2_with fail
    refine (fine_n a n c l hn.out (by omega) hwf w hs).mono ?_
    rintro e w1 ⟨F, a1, c1, rfl, hF, hok, hwF, ho1, hb1⟩
    have hF := Lib.hid hF
    have hok := Lib.hid hok
    have hs21 := hs2.later hb1
    clear hs hs2
    go_wp2_with fail
    refine (put_ok a1 n c1 (18 * n) F hF.out rfl (by omega) hok.out hwF w1 (Sl.of_owns ho1)).mono ?_
    rintro e w2 ⟨a3, c3, rfl, ho2, hb2⟩
    have hF2 := (Sl.of_owns ho1).later hb2
    have hs22 := hs21.later hb2
    have hB2 := Sl.of_owns ho2
    have hw2 := hb1.trans (hb2.mono hb1.size)
    have hG := Lib.hid (getE_all hok.out hwF)
    clear ho1 ho2 hs21 hb1 hb2
    go_wp2_with fail
    refine (get_is a3 (18 * n) c3 n 0 _ F (by rw [J.recs_length, hF.out]) hG.out.1 hG.out.2 hF.out (by omega) w2 hB2).mono ?_
    rintro e w3 ⟨a4, c4, rfl, hs3, hb3⟩
    have hF3 := hF2.later hb3
    have hs23 := hs22.later hb3
    have hw3 := hw2.trans (hb3.mono hw2.size)
    clear hB2 hs22 hb3 hw2 hF2
    go_wp2_with fail
    refine (same_yes a1 a4 n c1 c4 F hF.out (by omega) w3 hF3 hs3).mono ?_
    rintro e w4 ⟨rfl, hb4⟩
    have hs24 := hs23.later hb4
    have hw4 := hw3.trans (hb4.mono hw3.size)
    clear hs23 hb4 hw3 hF3 hs3
    cases hall : J.isAll b with
    | false =>
      have hL := Lib.hid (show J.getL b = [] from by unfold J.getL; rw [if_neg (by rw [hall]; exact Bool.false_ne_true)])
      have hE := Lib.hid (show J.getE b = 370 from by unfold J.getE; rw [if_neg (by rw [hall]; exact Bool.false_ne_true)])
      clear hall
      go_wp2_with fail
      refine (get_is a2 m c2 0 370 b [] hm.out hL.out hE.out rfl (by omega) w4 hs24).mono ?_
      rintro e w5 ⟨a5, c5, rfl, hs5, hb5⟩
      have hw5 := hw4.trans (hb5.mono hw4.size)
      clear hs24 hb5 hw4 hs5
      go_wp2_with fail
      refine (awake_any w5).mono ?_
      rintro e w6 ⟨rfl, hb6⟩
      go_wp2
      go_ret
      exact ⟨rfl, hw5.trans (hb6.mono hw5.size)⟩
    | true =>
      have hL := Lib.hid (show J.getL b = J.wholes b from by unfold J.getL; rw [if_pos hall])
      have hE := Lib.hid (show J.getE b = 0 from by unfold J.getE; rw [if_pos hall])
      obtain ⟨k1, k2, k3⟩ := J.wholes_back hall
      have hle := J.wholes_length b
      obtain ⟨q, hq⟩ : ∃ q, (J.wholes b).length = q := ⟨_, rfl⟩
      have hq2 : q ≤ 40000 := by have := hm.out; omega
      generalize J.wholes b = L at *
      have k1 := Lib.hid k1
      have k3 := Lib.hid k3
      have hq := Lib.hid hq
      clear hall hle
      go_wp2_with fail
      refine (get_is a2 m c2 q 0 b L hm.out hL.out hE.out hq.out (by omega) w4 hs24).mono ?_
      rintro e w5 ⟨a5, c5, rfl, hs5, hb5⟩
      have hs25 := hs24.later hb5
      have hw5 := hw4.trans (hb5.mono hw4.size)
      clear hs24 hb5 hw4
      go_wp2_with fail
      refine (put_ok a5 q c5 (18 * q) L hq.out rfl (by omega) k1.out k2 w5 hs5).mono ?_
      rintro e w6 ⟨a6, c6, rfl, ho6, hb6⟩
      have hs26 := hs25.later hb6
      have hw6 := hw5.trans (hb6.mono hw5.size)
      have hs6 := Sl.of_owns ho6
      clear hs25 hb6 hw5 ho6 hs5
      go_wp2_with fail
      refine (equal_yes a2 a6 m c2 (18 * q) c6 b _ k3.out.symm w6 hs26 hs6).mono ?_
      rintro e w7 ⟨rfl, hb7⟩
      have hw7 := hw6.trans (hb7.mono hw6.size)
      clear hs26 hb7 hw6 hs6
      go_wp2_with fail
      refine (awake_any w7).mono ?_
      rintro e w8 ⟨rfl, hb8⟩
      go_wp2
      go_ret
      exact ⟨rfl, hw7.trans (hb8.mono hw7.size)⟩

end Go.Proofs.Ytobdibhadgfldaa
