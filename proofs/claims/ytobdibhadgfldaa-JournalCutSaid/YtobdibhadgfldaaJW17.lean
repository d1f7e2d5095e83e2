/- The walk of the law JournalCut. -/
import Derived.Test.YtobdibhadgfldaaJW16
namespace Go.Proofs.Ytobdibhadgfldaa
open Go.RowKit

theorem avs_take (l : List J.Act) (j : Nat) : (avs l).take (j * 5) = avs (l.take j) := by
  induction l generalizing j with
  | nil => simp [avs]
  | cons x l ih =>
    cases j with
    | zero => simp [avs]
    | succ j =>
      rw [show avs (x :: l) = av x ++ avs l from rfl, List.take_succ_cons, show avs (x :: l.take j) = av x ++ avs (l.take j) from rfl, ← ih j]
      have e : (j + 1) * 5 = (av x).length + j * 5 := by show (j + 1) * 5 = 5 + j * 5; omega
      rw [e, List.take_length_add_append]

set_option maxHeartbeats 2000000 in
set_option maxRecDepth 100000 in
theorem cut_law (a : Option Addr) (n c : Nat) (l : List J.Act) (hn : l.length = n) (hwf : ∀ x ∈ l, x.Wf) (q : Nat) (hq : q ≤ 65535) (a2 : Option Addr) (m c2 : Nat) (b : List UInt8) (hm : b.length = m) (w : World) (hs : Sl w w.heap.size a n c 5 (avs l)) (hs2 : Sl w w.heap.size a2 m c2 1 (b.map bv)) :
    Calls Try.prog 5 #[.slice a n c, .int .u16 (q : Nat), .slice a2 m c2] w fun e w' => e = .returned (.bool true) ∧ Below w.heap.size w w' := by
  replace hn := Lib.hid hn
  replace hm := Lib.hid hm
  go_enter Try.func5, Try.ntmps5
  by_cases hl : 500 < n ∨ 17 < m
  · rcases (show (decide ((500 : Int) < (n : Int)) = true) ∨ (decide ((500 : Int) < (n : Int)) = false ∧ decide ((17 : Int) < (m : Int)) = true) by simp; omega) with g | ⟨g, g'⟩
    all_goals
      go_wp2_with fail
      refine (awake_any w).mono ?_
      rintro e w' ⟨rfl, hb⟩
      go_wp2
      go_ret
      exact ⟨rfl, hb⟩
  · have g : decide ((500 : Int) < (n : Int)) = false := by simp; omega
    have g' : decide ((17 : Int) < (m : Int)) = false := by simp; omega
    have hn2 : n ≤ 500 := by omega
    have hm2 : m ≤ 17 := by omega
    clear hl
    go_wp2_with fail
    refine (fine_n a n c l hn.out (by omega) hwf w hs).mono ?_
    rintro e w1 ⟨F, a1, c1, rfl, hF, hok, hwF, ho1, hb1⟩
    replace hF := Lib.hid hF
    replace hok := Lib.hid hok
    have hs21 := hs2.later hb1
    clear hs hs2
    go_wp2_with fail
    refine (put_ok a1 n c1 (18 * n) F hF.out rfl (by omega) hok.out hwF w1 (Sl.of_owns ho1)).mono ?_
    rintro e w2 ⟨a3, c3, rfl, ho2, hb2⟩
    have hF2 := (Sl.of_owns ho1).later hb2
    have hs22 := hs21.later hb2
    have hB2 := Sl.of_owns ho2
    have hw2 := hb1.trans (hb2.mono hb1.size)
    clear ho1 ho2 hs21 hb1 hb2
    go_upto_region 8 with (fail)
    obtain ⟨k, hk⟩ : ∃ k : Nat, k = q % (18 * n + 1) := ⟨_, rfl⟩
    have hk2 : k ≤ 18 * n := by rw [hk]; have := Nat.mod_lt q (show 18 * n + 1 > 0 by omega); omega
    have e : ((q : Nat) : Int) % (18 * (n : Int) + 1) = (k : Int) := by rw [hk]; push_cast; rfl
    rw [e]
    clear e hk
    obtain ⟨j, hj⟩ : ∃ j, j = k / 18 := ⟨_, rfl⟩
    have hj0 := Lib.hid hj
    have hjn : j ≤ n := by omega
    have hcap := hB2.cap
    have hmx := hB2.max
    have hcap1 := hF2.cap
    unfold maxLen at hmx
    have hkc : k ≤ c3 := by omega
    have hjc : j ≤ c1 := by omega
    have hjc3 : j * 18 ≤ c3 := by omega
    have hL := Lib.hid (J.cut_at hok.out hwF k (by rw [hF.out]; exact hk2))
    have hLj : Hid ((F.take j).length = j) := by show (F.take j).length = j; rw [List.length_take, hF.out]; omega
    rw [← hj] at hL
    have q1 : ((k : Nat) : Int) / 18 = (j : Int) := by omega
    have hlk : Hid (((J.recs 0 F).take k).length = k) := by show ((J.recs 0 F).take k).length = k; rw [List.length_take, J.recs_length, hF.out]; omega
    have hG : Hid (∃ L r, J.getL ((J.recs 0 F).take k) = L ∧ J.getE ((J.recs 0 F).take k) = r ∧ ((k % 18 = 0 ∧ L.length = j ∧ r = 0) ∨ (k % 18 ≠ 0 ∧ L.length = 0 ∧ r = 370))) := by
      refine ⟨_, _, rfl, rfl, ?_⟩
      have hw := hL.out
      by_cases hz : k % 18 = 0
      · have hi : J.isAll ((J.recs 0 F).take k) = true := by unfold J.isAll; rw [hw, hLj.out, hlk.out]; exact decide_eq_true (by omega)
        refine .inl ⟨hz, ?_, ?_⟩
        · unfold J.getL; rw [if_pos hi, hw, hLj.out]
        · unfold J.getE; rw [if_pos hi]
      · have hi : ¬ J.isAll ((J.recs 0 F).take k) = true := by unfold J.isAll; rw [hw, hLj.out, hlk.out]; simp; omega
        refine .inr ⟨hz, ?_, ?_⟩
        · unfold J.getL; rw [if_neg hi]; rfl
        · unfold J.getE; rw [if_neg hi]
    have hC := Lib.hid (J.cut hok.out hwF j (by rw [hF.out]; omega) b (by rw [hm.out]; omega))
    have hbk := Lib.hid (show Sl w2 w2.heap.size a3 k c3 1 (((J.recs 0 F).take k).map bv) by rw [List.map_take]; exact hB2.upto1 k hk2)
    have HB2 := Lib.hid hB2
    clear hB2 hj
    go_wp2_with fail
    refine (whole_is a3 k c3 j (j * 18) _ _ hlk.out hL.out hLj.out (by omega) (by omega) w2 hbk.out).mono ?_
    rintro e w3 ⟨a4, c4, rfl, hs4, hb3⟩
    have HB3 := Lib.hid (HB2.out.later hb3)
    have hbk3 := Lib.hid (hbk.out.later hb3)
    have hF3 := hF2.later hb3
    have hs23 := hs22.later hb3
    have hw3 := hw2.trans (hb3.mono hw2.size)
    clear HB2 hbk hF2 hs22 hb3 hw2
    obtain ⟨L, r, hGL, hGr, hGc⟩ := hG.out
    replace hGL := Lib.hid hGL
    replace hGr := Lib.hid hGr
    have hFj := hF3.upto j hjn
    rw [show (avs F).take (j * 5) = avs (F.take j) from avs_take F j] at hFj
    rcases hGc with ⟨hz, hLl, rfl⟩ | ⟨hz, hLl, rfl⟩
    · replace hLl := Lib.hid hLl
      have q2 : ((k : Nat) : Int) % 18 = 0 := by omega
      clear hG hz
      go_wp2_with fail
      refine (get_is a3 k c3 j 0 _ L hlk.out hGL.out hGr.out hLl.out (by omega) w3 hbk3.out).mono ?_
      rintro e w4 ⟨a5, c5, rfl, hs5, hb4⟩
      have HB4 := Lib.hid (HB3.out.later hb4)
      have hs44 := hs4.later hb4
      have hFj4 := hFj.later hb4
      have hs24 := hs23.later hb4
      have hw4 := hw3.trans (hb4.mono hw3.size)
      clear HB3 hbk3 hF3 hs23 hb4 hw3 hs5 hFj hs4
      go_wp2_with fail
      refine (same_yes a4 a1 j c4 c1 _ hLj.out (by omega) w4 hs44 hFj4).mono ?_
      rintro e w5 ⟨rfl, hb5⟩
      have HB5 := Lib.hid (HB4.out.later hb5)
      have hFj5 := hFj4.later hb5
      have hs25 := hs24.later hb5
      have hw5 := hw4.trans (hb5.mono hw4.size)
      have hbj := Lib.hid (show Sl w5 w5.heap.size a3 (j * 18) c3 1 (((J.recs 0 F).take (j * 18)).map bv) by rw [List.map_take]; exact HB5.out.upto1 (j * 18) (by omega))
      clear HB4 hs44 hFj4 hs24 hb5 hw4
      go_wp2_with fail
      refine (cloneB_any a3 (j * 18) c3 _ (by omega) w5 hbj.out).mono ?_
      rintro e w6 ⟨a6, c6, rfl, ho6, hb6⟩
      have hs26 := hs25.later hb6
      clear HB5 hs25 hbj
      go_wp2_with (at_builtin; go_must (refine app_own rfl (.tmp 78) (.tmp 79) 22 rfl Try.elB rfl ho6 rfl hs26 (oneCell_bytes _) (by omega) (by omega) hb6.size ?_))
      intro a7 c7 w7 ho7 _ hb7
      have hFj7 := hFj5.later (hb6.trans hb7)
      have hw7 := hw5.trans ((hb6.trans hb7).mono hw5.size)
      rw [← List.map_take, ← List.map_append] at ho7
      have hs7 := Lib.hid (Sl.of_owns ho7)
      clear ho6 hFj5 hs26 ho7 hb7 hb6 hw5
      go_wp2_with fail
      refine (whole_is a7 (j * 18 + m) c7 j (j * 18) _ _ (by rw [List.length_append, hm.out, List.length_take, J.recs_length, hF.out]; omega) (by rw [Nat.mul_comm]; exact hC.out) hLj.out (by omega) (by omega) w7 hs7.out).mono ?_
      rintro e w8 ⟨a8, c8, rfl, hs8, hb8⟩
      have hFj8 := hFj7.later hb8
      have hw8 := hw7.trans (hb8.mono hw7.size)
      clear hFj7 hs7 hw7 hb8
      go_wp2_with fail
      refine (same_yes a8 a1 j c8 c1 _ hLj.out (by omega) w8 hs8 hFj8).mono ?_
      rintro e w9 ⟨rfl, hb9⟩
      have hw9 := hw8.trans (hb9.mono hw8.size)
      clear hFj8 hs8 hw8 hb9
      go_wp2_with fail
      refine (awake_any w9).mono ?_
      rintro e wa ⟨rfl, hba⟩
      go_wp2
      go_ret
      exact ⟨rfl, hw9.trans (hba.mono hw9.size)⟩
    · replace hLl := Lib.hid hLl
      have q2 : ((((k : Nat) : Int) % 18) == 0) = false := by simp; omega
      clear hG hz
      go_wp2_with fail
      refine (get_is a3 k c3 0 370 _ L hlk.out hGL.out hGr.out hLl.out (by omega) w3 hbk3.out).mono ?_
      rintro e w4 ⟨a5, c5, rfl, hs5, hb4⟩
      have HB4 := Lib.hid (HB3.out.later hb4)
      have hs44 := hs4.later hb4
      have hFj4 := hFj.later hb4
      have hs24 := hs23.later hb4
      have hw4 := hw3.trans (hb4.mono hw3.size)
      clear HB3 hbk3 hF3 hs23 hb4 hw3 hs5 hFj hs4
      go_wp2_with fail
      refine (same_yes a4 a1 j c4 c1 _ hLj.out (by omega) w4 hs44 hFj4).mono ?_
      rintro e w5 ⟨rfl, hb5⟩
      have HB5 := Lib.hid (HB4.out.later hb5)
      have hFj5 := hFj4.later hb5
      have hs25 := hs24.later hb5
      have hw5 := hw4.trans (hb5.mono hw4.size)
      have hbj := Lib.hid (show Sl w5 w5.heap.size a3 (j * 18) c3 1 (((J.recs 0 F).take (j * 18)).map bv) by rw [List.map_take]; exact HB5.out.upto1 (j * 18) (by omega))
      clear HB4 hs44 hFj4 hs24 hb5 hw4
      go_wp2_with fail
      refine (cloneB_any a3 (j * 18) c3 _ (by omega) w5 hbj.out).mono ?_
      rintro e w6 ⟨a6, c6, rfl, ho6, hb6⟩
      have hs26 := hs25.later hb6
      clear HB5 hs25 hbj
      go_wp2_with (at_builtin; go_must (refine app_own rfl (.tmp 78) (.tmp 79) 22 rfl Try.elB rfl ho6 rfl hs26 (oneCell_bytes _) (by omega) (by omega) hb6.size ?_))
      intro a7 c7 w7 ho7 _ hb7
      have hFj7 := hFj5.later (hb6.trans hb7)
      have hw7 := hw5.trans ((hb6.trans hb7).mono hw5.size)
      rw [← List.map_take, ← List.map_append] at ho7
      have hs7 := Lib.hid (Sl.of_owns ho7)
      clear ho6 hFj5 hs26 ho7 hb7 hb6 hw5
      go_wp2_with fail
      refine (whole_is a7 (j * 18 + m) c7 j (j * 18) _ _ (by rw [List.length_append, hm.out, List.length_take, J.recs_length, hF.out]; omega) (by rw [Nat.mul_comm]; exact hC.out) hLj.out (by omega) (by omega) w7 hs7.out).mono ?_
      rintro e w8 ⟨a8, c8, rfl, hs8, hb8⟩
      have hFj8 := hFj7.later hb8
      have hw8 := hw7.trans (hb8.mono hw7.size)
      clear hFj7 hs7 hw7 hb8
      go_wp2_with fail
      refine (same_yes a8 a1 j c8 c1 _ hLj.out (by omega) w8 hs8 hFj8).mono ?_
      rintro e w9 ⟨rfl, hb9⟩
      have hw9 := hw8.trans (hb9.mono hw8.size)
      clear hFj8 hs8 hw8 hb9
      go_wp2_with fail
      refine (awake_any w9).mono ?_
      rintro e wa ⟨rfl, hba⟩
      go_wp2
      go_ret
      exact ⟨rfl, hw9.trans (hba.mono hw9.size)⟩

end Go.Proofs.Ytobdibhadgfldaa
