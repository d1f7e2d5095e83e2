/- The walk of the law JournalSwapped. -/
import Derived.Test.YtobdibhadgfldaaJW16
import Derived.Test.YtobdibhadgfldaaJW19
import Derived.Test.YtobdibhadgfldaaMix
namespace Go.Proofs.Ytobdibhadgfldaa
open Go.RowKit

/-- A piece of bytes. -/
theorem Sl.piece {w : World} {B b o n c : Nat} {l : List UInt8} (h : Sl w B (some ⟨b, o, none⟩) n c 1 (l.map bv)) (i m : Nat) (hi : i + m ≤ n) :
    Sl w B (some ⟨b, o + i, none⟩) m (c - i) 1 (((l.drop i).take m).map bv) := by
  have h1 := (h.from1 i (by omega)).upto1 m (by omega)
  rw [← List.map_drop, ← List.map_take] at h1
  exact h1

set_option maxHeartbeats 2000000 in
set_option maxRecDepth 100000 in
theorem swapped_law (a : Option Addr) (n c : Nat) (l : List J.Act) (hn : l.length = n) (hwf : ∀ x ∈ l, x.Wf) (q : Nat) (hq : q ≤ 65535) (w : World) (hs : Sl w w.heap.size a n c 5 (avs l)) :
    Calls Try.prog 9 #[.slice a n c, .int .u16 (q : Nat)] w fun e w' => e = .returned (.bool true) ∧ Below w.heap.size w w' := by
  replace hn := Lib.hid hn
  go_enter Try.func9, Try.ntmps9
  by_cases hl : n < 2 ∨ 500 < n
  · rcases (show (decide ((n : Int) < 2) = true) ∨ (decide ((n : Int) < 2) = false ∧ decide ((500 : Int) < (n : Int)) = true) by simp; omega) with g | ⟨g, g'⟩
    all_goals
      go_wp2_with fail
      refine (awake_any w).mono ?_
      rintro e w' ⟨rfl, hb⟩
      go_wp2
      go_ret
      exact ⟨rfl, hb⟩
  · have g : decide ((n : Int) < 2) = false := by simp; omega
    have g' : decide ((500 : Int) < (n : Int)) = false := by simp; omega
    have hn2 : n ≤ 500 := by omega
    have hn0 : 2 ≤ n := by omega
    clear hl
    go_wp2_with fail
    refine (fine_n a n c l hn.out (by omega) hwf w hs).mono ?_
    rintro e w1 ⟨F, a1, c1, rfl, hF, hok, hwF, ho1, hb1⟩
    replace hF := Lib.hid hF
    replace hok := Lib.hid hok
    clear hs
    go_wp2_with fail
    refine (put_ok a1 n c1 (18 * n) F hF.out rfl (by omega) hok.out hwF w1 (Sl.of_owns ho1)).mono ?_
    rintro e w2 ⟨a3, c3, rfl, ho2, hb2⟩
    have hF2 := (Sl.of_owns ho1).later hb2
    have hB2 := Sl.of_owns ho2
    have hw2 := hb1.trans (hb2.mono hb1.size)
    have hz2 := hw2.size
    obtain ⟨gb, rfl, _, _, _⟩ := owns_at ho2 (by omega)
    clear ho1 ho2 hb1 hb2
    have m0 : 0 ≤ (q : Int) % ((n : Int) - 1) := Int.emod_nonneg _ (by omega)
    have m1 : (q : Int) % ((n : Int) - 1) ≤ 500 := by have := Int.emod_lt_of_pos (q : Int) (show 0 < (n : Int) - 1 by omega); omega
    go_upto_region 8 with (fail)
    obtain ⟨j, hj⟩ : ∃ j : Nat, j = q % (n - 1) := ⟨_, rfl⟩
    have hjn : j + 1 < n := by rw [hj]; have := Nat.mod_lt q (show n - 1 > 0 by omega); omega
    obtain ⟨i, hi⟩ : ∃ i : Nat, i = 18 * j := ⟨_, rfl⟩
    have e : (18 : Int) * ((q : Int) % ((n : Int) - 1)) = (i : Int) := by
      rw [hi, hj]
      have : ((n : Int) - 1) = ((n - 1 : Nat) : Int) := by omega
      rw [this]; push_cast; rfl
    rw [e]
    clear e hj m0 m1
    have hcap := hB2.cap
    have hmx := hB2.max
    unfold maxLen at hmx
    have hcap1 := hF2.cap
    have ei : (i : Int) / 18 = (j : Int) := by omega
    have hS14 := hB2.piece (i + 14) 4 (by omega)
    rw [show i + 14 = 18 * j + 14 by omega, J.sum_at F j (by rw [hF.out]; omega)] at hS14
    rw [show 18 * j + 14 = i + 14 by omega] at hS14
    replace hS14 := Lib.hid hS14
    have HB2 := Lib.hid hB2
    have HF2 := Lib.hid hF2
    have hi36 : i + 36 ≤ 18 * n := by omega
    -- the checksum before
    have hbef : ∃ gi : Bool, decide (0 < i) = gi ∧ (gi = false → j = 0) ∧ (gi = true → 18 ≤ i) := by
      by_cases h0 : i = 0
      · exact ⟨false, by simp; omega, fun _ => by omega, fun h => by cases h⟩
      · exact ⟨true, by simp; omega, fun h => (by cases h), fun _ => by omega⟩
    obtain ⟨gi, hgi, hg0, hg1⟩ := hbef
    replace hi := Lib.hid hi
    clear hB2 hF2
    obtain ⟨W3, hW3⟩ : ∃ W3, w2.alloc (Obj.cells #[Value.int IntKind.u8 0, Value.int IntKind.u8 0, Value.int IntKind.u8 0, Value.int IntKind.u8 0] 5) = W3 := ⟨_, rfl⟩
    have hb3 : Below w2.heap.size w2 W3 := by rw [← hW3]; exact (Below.refl _ _).alloc (Nat.le_refl _) _
    have hnew : Sl W3 W3.heap.size (some ⟨w2.heap.size, 0, none⟩) 4 4 1 (([0, 0, 0, 0] : List UInt8).map bv) := by
      rw [← hW3]; exact (sl_new w2 (([0, 0, 0, 0] : List UInt8).map bv) 5 4 1 rfl (by unfold maxLen; omega)).size
    have hB3 := HB2.out.later hb3
    have hF3 := HF2.out.later hb3
    have hw3 := hw2.trans (hb3.mono hz2)
    have hc14 : ¬ (c3 = i + 14) := by omega
    have hc18 : ¬ (c3 = i + 18) := by omega
    have hci : ¬ (c3 = i) := by omega
    clear HB2 HF2
    have HN := Lib.hid hnew
    have HB := Lib.hid hB3
    have HF := Lib.hid hF3
    have HW := Lib.hid hw3
    have hS := hS14.out.later hb3
    rw [Nat.zero_add] at hS
    replace hS := Lib.hid hS
    clear hnew hB3 hF3 hw3 hb3 hS14
    have hseen : ∃ (ad : Option Addr) (cd : Nat), Hid (Sl W3 W3.heap.size ad 4 cd 1 ((J.four (J.sums 0 (F.take j))).map bv)) ∧ (gi = false → ad = some ⟨w2.heap.size, 0, none⟩ ∧ cd = 4) ∧ (gi = true → ad = some ⟨gb, i - 4, none⟩ ∧ cd = c3 - (i - 4)) := by
      cases gi with
      | false =>
        obtain rfl : j = 0 := hg0 rfl
        exact ⟨_, _, Lib.hid (by rw [show J.four (J.sums 0 (F.take 0)) = [0, 0, 0, 0] from by rw [List.take_zero]; decide]; exact HN.out), fun _ => ⟨rfl, rfl⟩, fun h => by cases h⟩
      | true =>
        have hi18 := hg1 rfl
        have h := HB.out.piece (i - 4) 4 (by omega)
        have hij := hi.out
        have e : i - 4 = 18 * (j - 1) + 14 := by omega
        rw [e, J.sum_at F (j - 1) (by rw [hF.out]; omega), ← e, show j - 1 + 1 = j by omega, Nat.zero_add] at h
        exact ⟨_, _, Lib.hid h, fun h => (by cases h), fun _ => ⟨rfl, rfl⟩⟩
    obtain ⟨ad, cd, hD, hd0, hd1⟩ := hseen
    clear HN
    cases gi with
    | false =>
      obtain ⟨rfl, rfl⟩ := hd0 rfl
      clear hd0 hd1 hg0 hg1
      go_upto_region 11 with (fail)
      go_wp2_with fail
      rw [show i + 18 - (i + 14) = 4 by omega]
      refine (equal_any _ _ _ _ _ _ _ _ W3 hD.out hS.out).mono ?_
      rintro e w4 ⟨rfl, hb4⟩
      have HB4 := Lib.hid (HB.out.later hb4)
      have HF4 := Lib.hid (HF.out.later hb4)
      have hw4 := HW.out.trans (hb4.mono HW.out.size)
      clear HB HF hb4
      by_cases heq : J.four (J.sums 0 (F.take j)) = J.four (J.sums 0 (F.take (j + 1)))
      · rw [decide_eq_true heq]
        clear heq
        go_wp2_with fail
        refine (awake_any w4).mono ?_
        rintro e w5 ⟨rfl, hb5⟩
        go_wp2
        go_ret
        exact ⟨rfl, hw4.trans (hb5.mono hw4.size)⟩
      · rw [decide_eq_false heq]
        replace heq := Lib.hid heq
        go_upto_region 13 with (fail)
        have hRl : (J.recs 0 F).length = 18 * n := by rw [J.recs_length, hF.out]
        have hlen : Hid ((joined [⟨some ⟨gb, 0, none⟩, i, c3, (J.recs 0 F).take i⟩, ⟨some ⟨gb, i + 18, none⟩, 18, c3 - (i + 18), ((J.recs 0 F).drop (i + 18)).take 18⟩, ⟨some ⟨gb, i, none⟩, 18, c3 - i, ((J.recs 0 F).drop i).take 18⟩, ⟨(if c3 = i + 36 then some ⟨gb, 0, none⟩ else some ⟨gb, i + 36, none⟩), 18 * n - (i + 36), c3 - (i + 36), (J.recs 0 F).drop (i + 36)⟩]).length = 18 * n) := by
          show List.length _ = _
          simp only [joined, List.flatMap_cons, List.flatMap_nil, List.length_append, List.length_take, List.length_drop, List.length_nil, hRl]
          omega
        have hwh : Hid (J.wholes (joined [⟨some ⟨gb, 0, none⟩, i, c3, (J.recs 0 F).take i⟩, ⟨some ⟨gb, i + 18, none⟩, 18, c3 - (i + 18), ((J.recs 0 F).drop (i + 18)).take 18⟩, ⟨some ⟨gb, i, none⟩, 18, c3 - i, ((J.recs 0 F).drop i).take 18⟩, ⟨(if c3 = i + 36 then some ⟨gb, 0, none⟩ else some ⟨gb, i + 36, none⟩), 18 * n - (i + 36), c3 - (i + 36), (J.recs 0 F).drop (i + 36)⟩]) = F.take j) := by
          show J.wholes _ = _
          simp only [joined, List.flatMap_cons]
          rw [hi.out]
          refine J.swapped hok.out hwF j (by rw [hF.out]; exact hjn) ?_ _
          intro h
          exact heq.out (by rw [h])
        have hLj : Hid ((F.take j).length = j) := by show (F.take j).length = j; rw [List.length_take, hF.out]; omega
        have HP1 : Hid (Sl w4 w4.heap.size (some ⟨gb, 0, none⟩) i c3 1 (((J.recs 0 F).take i).map bv)) := by
          show Sl _ _ _ _ _ _ _
          have := HB4.out.upto1 i (by omega)
          rwa [← List.map_take] at this
        have HP2 : Hid (Sl w4 w4.heap.size (some ⟨gb, i + 18, none⟩) 18 (c3 - (i + 18)) 1 ((((J.recs 0 F).drop (i + 18)).take 18).map bv)) := by
          show Sl _ _ _ _ _ _ _
          have := HB4.out.piece (i + 18) 18 (by omega)
          rwa [Nat.zero_add] at this
        have HP3 : Hid (Sl w4 w4.heap.size (some ⟨gb, i, none⟩) 18 (c3 - i) 1 ((((J.recs 0 F).drop i).take 18).map bv)) := by
          show Sl _ _ _ _ _ _ _
          have := HB4.out.piece i 18 (by omega)
          rwa [Nat.zero_add] at this
        have HP4 : Hid (Sl w4 w4.heap.size (if c3 = i + 36 then some ⟨gb, 0, none⟩ else some ⟨gb, i + 36, none⟩) (18 * n - (i + 36)) (c3 - (i + 36)) 1 (((J.recs 0 F).drop (i + 36)).map bv)) := by
          show Sl _ _ _ _ _ _ _
          split
          · have h0 : 18 * n - (i + 36) = 0 := by omega
            rw [List.drop_eq_nil_of_le (by omega), h0]
            exact ⟨by simp, Rd.nil _ _ _, by omega, by unfold maxLen; omega, fun h => by cases h⟩
          · have := HB4.out.from1 (i + 36) (by omega)
            rwa [← List.map_drop, Nat.zero_add] at this
        clear hRl
        have b1 : i ≤ c3 := by omega
        have b2 : i + 18 ≤ c3 := by omega
        have b3 : i + 36 ≤ c3 := by omega
        have b4 : i + 18 ≤ i + 36 := by omega
        have b5 : i ≤ i + 18 := by omega
        have b6 : (i : Int) ≤ c3 := by omega
        have b7 : (i : Int) + 18 ≤ c3 := by omega
        have b8 : (i : Int) + 36 ≤ c3 := by omega
        have b9 : (i : Int) + 36 ≤ 18 * (n : Int) := by omega
        have b10 : (0 : Int) ≤ (i : Int) + 18 := by omega
        have b11 : (0 : Int) ≤ (i : Int) + 36 := by omega
        have b12 : IntKind.i64.wrap ((i : Int) + 18) = (i : Int) + 18 := IntWalk.i64_in _ (by omega)
        have b13 : IntKind.i64.wrap ((i : Int) + 36) = (i : Int) + 36 := IntWalk.i64_in _ (by omega)
        have b14 : ((i : Int) + 18).toNat = i + 18 := by omega
        have b15 : ((i : Int) + 36).toNat = i + 36 := by omega
        refine wp_region_mix [] [(0, .quiet), (1, .quiet), (2, .quiet), (3, .quiet), (4, .quiet), (5, .quiet), (6, .quiet), (7, .quiet), (8, .quiet), (9, .quiet), (10, .quiet), (11, .quiet), (12, .quiet), (13, .quiet), (14, .quiet), (15, .quiet), (16, .quiet), (17, .quiet), (18, .grow), (19, .grow), (20, .quiet)] (by kernel_rfl) (by kernel_rfl) (by kernel_rfl) (by kernel_rfl) (fun _ _ d _ _ h => by cases d <;> exact h) ?_
        simp only [planOps, List.getElem?_toArray, List.getElem?_cons_zero, List.getElem?_cons_succ]
        repeat ((with_reducible refine mix_quiet (fun K hK => ?_)); go_simp; first | (refine hK _ ?_; clear hK K) | (apply Exists.intro; refine ⟨fun lt => ?_, hK _ ?_⟩; (first | fail); clear hK K))
        refine mix_grow (fun lt K hK => ?_)
        go_simp
        refine hK _ _ (Grows.alloc _ _) ?_
        clear hK K
        refine mix_grow (fun lt2 K hK => ?_)
        go_simp
        refine (concat_any [⟨_, i, c3, (J.recs 0 F).take i⟩, ⟨_, 18, c3 - (i + 18), ((J.recs 0 F).drop (i + 18)).take 18⟩, ⟨_, 18, c3 - i, ((J.recs 0 F).drop i).take 18⟩, ⟨_, 18 * n - (i + 36), c3 - (i + 36), (J.recs 0 F).drop (i + 36)⟩] _ 4 4 (18 * n) rfl hlen.out (by omega) lt2.w
          (((sl_new lt.w _ 22 4 1 rfl (by unfold maxLen; omega)).size).later lt2.grows) ?_).mono ?_
        · intro p hp
          have hg4 : Grows w4 lt2.w := Grows.trans lt.grows (Grows.trans (Grows.alloc _ _) lt2.grows)
          simp only [List.mem_cons, List.not_mem_nil, or_false] at hp
          rcases hp with rfl | rfl | rfl | rfl
          · exact HP1.out.later hg4
          · exact HP2.out.later hg4
          · exact HP3.out.later hg4
          · exact HP4.out.later hg4
        rintro e w5 ⟨a5, c5, rfl, ho5, hb5⟩
        refine hK _ _ hb5 ?_
        clear hK K
        repeat ((with_reducible refine mix_quiet (fun K hK => ?_)); go_simp; first | (refine hK _ ?_; clear hK K) | (apply Exists.intro; refine ⟨fun lt => ?_, hK _ ?_⟩; (first | fail); clear hK K))
        refine mix_nil (fun lt3 => ?_)
        have hg5 : Below w4.heap.size w4 lt3.w := Grows.trans lt.grows (Grows.trans (Grows.alloc _ _) (Grows.trans lt2.grows (Grows.trans hb5 lt3.grows)))
        have hC5 := (Sl.of_owns ho5).later lt3.grows
        have hF5 := HF4.out.later hg5
        have hw5 := hw4.trans (hg5.mono hw4.size)
        clear ho5 hb5 hw4 HB4 HF4 HP1 HP2 HP3 HP4 b12 b13 b14 b15
        generalize lt3.w = W5 at *
        generalize (if c3 = i + 36 then some (⟨gb, 0, none⟩ : Addr) else some ⟨gb, i + 36, none⟩) = X4 at *
        go_wp2_with fail
        refine (whole_is a5 (18 * n) c5 j i _ _ hlen.out hwh.out hLj.out hi.out.symm (by omega) W5 hC5).mono ?_
        rintro e w6 ⟨a6, c6, rfl, hs6, hb6⟩
        have hF6 := (hF5.later hb6).upto j (by omega)
        rw [avs_take F j] at hF6
        have hw6 := hw5.trans (hb6.mono hw5.size)
        have hj1 : j ≤ c1 := by omega
        clear hF5 hC5 hb6 hw5 hg5
        go_wp2_with fail
        refine (same_yes a6 a1 j c6 c1 _ hLj.out (by omega) w6 hs6 hF6).mono ?_
        rintro e w7 ⟨rfl, hb7⟩
        have hw7 := hw6.trans (hb7.mono hw6.size)
        clear hF6 hs6 hb7 hw6
        go_wp2_with fail
        refine (awake_any w7).mono ?_
        rintro e w8 ⟨rfl, hb8⟩
        go_wp2
        go_ret
        exact ⟨rfl, hw7.trans (hb8.mono hw7.size)⟩
    | true =>
      obtain ⟨rfl, rfl⟩ := hd1 rfl
      have hi18 := hg1 rfl
      have hi4 : 4 ≤ i := by omega
      have hne : ¬ (c3 = i - 4) := by omega
      clear hd0 hd1 hg0 hg1
      go_upto_region 11 with (fail)
      rw [show i - (i - 4) = 4 by omega]
      go_wp2_with fail
      rw [show i + 18 - (i + 14) = 4 by omega]
      refine (equal_any _ _ _ _ _ _ _ _ W3 hD.out hS.out).mono ?_
      rintro e w4 ⟨rfl, hb4⟩
      have HB4 := Lib.hid (HB.out.later hb4)
      have HF4 := Lib.hid (HF.out.later hb4)
      have hw4 := HW.out.trans (hb4.mono HW.out.size)
      clear HB HF hb4
      by_cases heq : J.four (J.sums 0 (F.take j)) = J.four (J.sums 0 (F.take (j + 1)))
      · rw [decide_eq_true heq]
        clear heq
        go_wp2_with fail
        refine (awake_any w4).mono ?_
        rintro e w5 ⟨rfl, hb5⟩
        go_wp2
        go_ret
        exact ⟨rfl, hw4.trans (hb5.mono hw4.size)⟩
      · rw [decide_eq_false heq]
        replace heq := Lib.hid heq
        go_upto_region 13 with (fail)
        have hRl : (J.recs 0 F).length = 18 * n := by rw [J.recs_length, hF.out]
        have hlen : Hid ((joined [⟨some ⟨gb, 0, none⟩, i, c3, (J.recs 0 F).take i⟩, ⟨some ⟨gb, i + 18, none⟩, 18, c3 - (i + 18), ((J.recs 0 F).drop (i + 18)).take 18⟩, ⟨some ⟨gb, i, none⟩, 18, c3 - i, ((J.recs 0 F).drop i).take 18⟩, ⟨(if c3 = i + 36 then some ⟨gb, 0, none⟩ else some ⟨gb, i + 36, none⟩), 18 * n - (i + 36), c3 - (i + 36), (J.recs 0 F).drop (i + 36)⟩]).length = 18 * n) := by
          show List.length _ = _
          simp only [joined, List.flatMap_cons, List.flatMap_nil, List.length_append, List.length_take, List.length_drop, List.length_nil, hRl]
          omega
        have hwh : Hid (J.wholes (joined [⟨some ⟨gb, 0, none⟩, i, c3, (J.recs 0 F).take i⟩, ⟨some ⟨gb, i + 18, none⟩, 18, c3 - (i + 18), ((J.recs 0 F).drop (i + 18)).take 18⟩, ⟨some ⟨gb, i, none⟩, 18, c3 - i, ((J.recs 0 F).drop i).take 18⟩, ⟨(if c3 = i + 36 then some ⟨gb, 0, none⟩ else some ⟨gb, i + 36, none⟩), 18 * n - (i + 36), c3 - (i + 36), (J.recs 0 F).drop (i + 36)⟩]) = F.take j) := by
          show J.wholes _ = _
          simp only [joined, List.flatMap_cons]
          rw [hi.out]
          refine J.swapped hok.out hwF j (by rw [hF.out]; exact hjn) ?_ _
          intro h
          exact heq.out (by rw [h])
        have hLj : Hid ((F.take j).length = j) := by show (F.take j).length = j; rw [List.length_take, hF.out]; omega
        have HP1 : Hid (Sl w4 w4.heap.size (some ⟨gb, 0, none⟩) i c3 1 (((J.recs 0 F).take i).map bv)) := by
          show Sl _ _ _ _ _ _ _
          have := HB4.out.upto1 i (by omega)
          rwa [← List.map_take] at this
        have HP2 : Hid (Sl w4 w4.heap.size (some ⟨gb, i + 18, none⟩) 18 (c3 - (i + 18)) 1 ((((J.recs 0 F).drop (i + 18)).take 18).map bv)) := by
          show Sl _ _ _ _ _ _ _
          have := HB4.out.piece (i + 18) 18 (by omega)
          rwa [Nat.zero_add] at this
        have HP3 : Hid (Sl w4 w4.heap.size (some ⟨gb, i, none⟩) 18 (c3 - i) 1 ((((J.recs 0 F).drop i).take 18).map bv)) := by
          show Sl _ _ _ _ _ _ _
          have := HB4.out.piece i 18 (by omega)
          rwa [Nat.zero_add] at this
        have HP4 : Hid (Sl w4 w4.heap.size (if c3 = i + 36 then some ⟨gb, 0, none⟩ else some ⟨gb, i + 36, none⟩) (18 * n - (i + 36)) (c3 - (i + 36)) 1 (((J.recs 0 F).drop (i + 36)).map bv)) := by
          show Sl _ _ _ _ _ _ _
          split
          · have h0 : 18 * n - (i + 36) = 0 := by omega
            rw [List.drop_eq_nil_of_le (by omega), h0]
            exact ⟨by simp, Rd.nil _ _ _, by omega, by unfold maxLen; omega, fun h => by cases h⟩
          · have := HB4.out.from1 (i + 36) (by omega)
            rwa [← List.map_drop, Nat.zero_add] at this
        clear hRl
        have b1 : i ≤ c3 := by omega
        have b2 : i + 18 ≤ c3 := by omega
        have b3 : i + 36 ≤ c3 := by omega
        have b4 : i + 18 ≤ i + 36 := by omega
        have b5 : i ≤ i + 18 := by omega
        have b6 : (i : Int) ≤ c3 := by omega
        have b7 : (i : Int) + 18 ≤ c3 := by omega
        have b8 : (i : Int) + 36 ≤ c3 := by omega
        have b9 : (i : Int) + 36 ≤ 18 * (n : Int) := by omega
        have b10 : (0 : Int) ≤ (i : Int) + 18 := by omega
        have b11 : (0 : Int) ≤ (i : Int) + 36 := by omega
        have b12 : IntKind.i64.wrap ((i : Int) + 18) = (i : Int) + 18 := IntWalk.i64_in _ (by omega)
        have b13 : IntKind.i64.wrap ((i : Int) + 36) = (i : Int) + 36 := IntWalk.i64_in _ (by omega)
        have b14 : ((i : Int) + 18).toNat = i + 18 := by omega
        have b15 : ((i : Int) + 36).toNat = i + 36 := by omega
        refine wp_region_mix [] [(0, .quiet), (1, .quiet), (2, .quiet), (3, .quiet), (4, .quiet), (5, .quiet), (6, .quiet), (7, .quiet), (8, .quiet), (9, .quiet), (10, .quiet), (11, .quiet), (12, .quiet), (13, .quiet), (14, .quiet), (15, .quiet), (16, .quiet), (17, .quiet), (18, .grow), (19, .grow), (20, .quiet)] (by kernel_rfl) (by kernel_rfl) (by kernel_rfl) (by kernel_rfl) (fun _ _ d _ _ h => by cases d <;> exact h) ?_
        simp only [planOps, List.getElem?_toArray, List.getElem?_cons_zero, List.getElem?_cons_succ]
        repeat ((with_reducible refine mix_quiet (fun K hK => ?_)); go_simp; first | (refine hK _ ?_; clear hK K) | (apply Exists.intro; refine ⟨fun lt => ?_, hK _ ?_⟩; (first | fail); clear hK K))
        refine mix_grow (fun lt K hK => ?_)
        go_simp
        refine hK _ _ (Grows.alloc _ _) ?_
        clear hK K
        refine mix_grow (fun lt2 K hK => ?_)
        go_simp
        refine (concat_any [⟨_, i, c3, (J.recs 0 F).take i⟩, ⟨_, 18, c3 - (i + 18), ((J.recs 0 F).drop (i + 18)).take 18⟩, ⟨_, 18, c3 - i, ((J.recs 0 F).drop i).take 18⟩, ⟨_, 18 * n - (i + 36), c3 - (i + 36), (J.recs 0 F).drop (i + 36)⟩] _ 4 4 (18 * n) rfl hlen.out (by omega) lt2.w
          (((sl_new lt.w _ 22 4 1 rfl (by unfold maxLen; omega)).size).later lt2.grows) ?_).mono ?_
        · intro p hp
          have hg4 : Grows w4 lt2.w := Grows.trans lt.grows (Grows.trans (Grows.alloc _ _) lt2.grows)
          simp only [List.mem_cons, List.not_mem_nil, or_false] at hp
          rcases hp with rfl | rfl | rfl | rfl
          · exact HP1.out.later hg4
          · exact HP2.out.later hg4
          · exact HP3.out.later hg4
          · exact HP4.out.later hg4
        rintro e w5 ⟨a5, c5, rfl, ho5, hb5⟩
        refine hK _ _ hb5 ?_
        clear hK K
        repeat ((with_reducible refine mix_quiet (fun K hK => ?_)); go_simp; first | (refine hK _ ?_; clear hK K) | (apply Exists.intro; refine ⟨fun lt => ?_, hK _ ?_⟩; (first | fail); clear hK K))
        refine mix_nil (fun lt3 => ?_)
        have hg5 : Below w4.heap.size w4 lt3.w := Grows.trans lt.grows (Grows.trans (Grows.alloc _ _) (Grows.trans lt2.grows (Grows.trans hb5 lt3.grows)))
        have hC5 := (Sl.of_owns ho5).later lt3.grows
        have hF5 := HF4.out.later hg5
        have hw5 := hw4.trans (hg5.mono hw4.size)
        clear ho5 hb5 hw4 HB4 HF4 HP1 HP2 HP3 HP4 b12 b13 b14 b15
        generalize lt3.w = W5 at *
        generalize (if c3 = i + 36 then some (⟨gb, 0, none⟩ : Addr) else some ⟨gb, i + 36, none⟩) = X4 at *
        go_wp2_with fail
        refine (whole_is a5 (18 * n) c5 j i _ _ hlen.out hwh.out hLj.out hi.out.symm (by omega) W5 hC5).mono ?_
        rintro e w6 ⟨a6, c6, rfl, hs6, hb6⟩
        have hF6 := (hF5.later hb6).upto j (by omega)
        rw [avs_take F j] at hF6
        have hw6 := hw5.trans (hb6.mono hw5.size)
        have hj1 : j ≤ c1 := by omega
        clear hF5 hC5 hb6 hw5 hg5
        go_wp2_with fail
        refine (same_yes a6 a1 j c6 c1 _ hLj.out (by omega) w6 hs6 hF6).mono ?_
        rintro e w7 ⟨rfl, hb7⟩
        have hw7 := hw6.trans (hb7.mono hw6.size)
        clear hF6 hs6 hb7 hw6
        go_wp2_with fail
        refine (awake_any w7).mono ?_
        rintro e w8 ⟨rfl, hb8⟩
        go_wp2
        go_ret
        exact ⟨rfl, hw7.trans (hb8.mono hw7.size)⟩

end Go.Proofs.Ytobdibhadgfldaa
