/- The walk of the law JournalTorn. -/
import Derived.Test.YtobdibhadgfldaaJW16
namespace Go.Proofs.Ytobdibhadgfldaa
open Go.RowKit

theorem tear_get (f M i : Nat) (b : List UInt8) (h : M / 2 ^ i % 2 = 1 ∧ f + i < 8 * b.length) : J.tear f M (i + 1) b = J.flip1 (J.tear f M i b) (f + i) := by rw [J.tear, if_pos h]
theorem tear_not (f M i : Nat) (b : List UInt8) (h : ¬ (M / 2 ^ i % 2 = 1 ∧ f + i < 8 * b.length)) : J.tear f M (i + 1) b = J.tear f M i b := by rw [J.tear, if_neg h]

theorem or_one_odd (K : Nat) : (K ||| 1) % 2 = 1 := by
  have h := Nat.and_one_is_mod (K ||| 1)
  rw [← h, Nat.and_or_distrib_right]
  have : (K &&& 1) ≤ 1 := Nat.and_le_right
  have h2 : K &&& 1 = 0 ∨ K &&& 1 = 1 := by omega
  rcases h2 with q | q <;> rw [q] <;> rfl
theorem flip_val (x : UInt8) (r : Nat) (hr : r < 8) : Value.int .u8 (bits .xor .u8 (x.toNat : Int) ((2 : Int) ^ r % 256)) = bv (UInt8.ofNat (x.toNat ^^^ 2 ^ r)) := by
  have hx := x.toNat_lt
  have h2 : (2 : Nat) ^ r < 2 ^ 8 := Nat.pow_lt_pow_right (by omega) hr
  have e : ((2 : Int) ^ r % 256) = ((2 ^ r : Nat) : Int) := by
    have : ((2 : Int) ^ r) = ((2 ^ r : Nat) : Int) := by push_cast; rfl
    rw [this]
    generalize 2 ^ r = z at *
    omega
  rw [e, u8_xor_nat _ _ (by omega) (by omega)]
  have hlt : x.toNat ^^^ 2 ^ r < 2 ^ 8 := Nat.xor_lt_two_pow hx h2
  unfold bv
  rw [UInt8.toNat_ofNat', Nat.mod_eq_of_lt hlt]

set_option maxHeartbeats 2000000 in
set_option maxRecDepth 100000 in
theorem torn_law (a : Option Addr) (n c : Nat) (l : List J.Act) (hn : l.length = n) (hwf : ∀ x ∈ l, x.Wf) (p : Nat) (hp : p ≤ 4294967295) (K : Nat) (hK : K ≤ 4294967295) (w : World) (hs : Sl w w.heap.size a n c 5 (avs l)) :
    Calls Try.prog 6 #[.slice a n c, .int .u32 (p : Nat), .int .u32 (K : Nat)] w fun e w' => e = .returned (.bool true) ∧ Below w.heap.size w w' := by
  replace hn := Lib.hid hn
  go_enter Try.func6, Try.ntmps6
  by_cases hl : 500 < n ∨ n = 0
  · rcases (show (decide ((500 : Int) < (n : Int)) = true) ∨ (decide ((500 : Int) < (n : Int)) = false ∧ n = 0) by simp; omega) with g | ⟨g, rfl⟩
    all_goals
      go_wp2_with fail
      refine (awake_any w).mono ?_
      rintro e w' ⟨rfl, hb⟩
      go_wp2
      go_ret
      exact ⟨rfl, hb⟩
  · have g : decide ((500 : Int) < (n : Int)) = false := by simp; omega
    have g' : (((n : Nat) : Int) == 0) = false := by simp; omega
    have hn2 : n ≤ 500 := by omega
    have hn0 : 1 ≤ n := by omega
    clear hl
    go_wp2_with fail
    refine (fine_n a n c l hn.out (by omega) hwf w hs).mono ?_
    rintro e w1 ⟨F, a1, c1, rfl, hF, hok, hwF, ho1, hb1⟩
    replace hF := Lib.hid hF
    replace hok := Lib.hid hok
    clear hs
    go_wp2_with fail
    refine (put_ok a1 n c1 (18 * n) F hF.out rfl (by omega) hok.out hwF w1 (Sl.of_owns ho1)).mono ?_
    rintro e w2 ⟨a3, c3, rfl, ho2, hb2⟩
    have hF1 := Lib.hid (Sl.of_owns ho1)
    clear ho1
    go_upto_region 8 with (fail)
    obtain ⟨f, hf⟩ : ∃ f : Nat, f = p % (144 * n) := ⟨_, rfl⟩
    have hf2 : f < 144 * n := by rw [hf]; exact Nat.mod_lt p (by omega)
    have e : ((p : Nat) : Int) % (8 * (18 * (n : Int))) = (f : Int) := by rw [hf]; push_cast; congr 1; omega
    rw [e]
    clear e hf
    obtain ⟨M, hM⟩ : ∃ M : Nat, M = K ||| 1 := ⟨_, rfl⟩
    have hM2 : M < 4294967296 := by rw [hM]; exact Nat.or_lt_two_pow (n := 32) (by omega) (by omega)
    have hMo : Hid (M % 2 = 1) := by show M % 2 = 1; rw [hM]; exact or_one_odd K
    have hMb : bits .or .u32 (K : Int) 1 = (M : Int) := by rw [hM]; exact u32_or_nat K 1 (by omega) (by omega)
    clear hM
    have hz1 := hb1.size
    have hz2 := hb2.size
    go_wp2_with fail
    go_loopw [10, 11, 49] (fun _ _ i wr => ∃ t : Nat, t ≤ 32 ∧ i = .int .u32 (t : Nat) ∧
        wr.ownsRow w1.heap.size 5 1 (.slice a3 (18 * n) c3) (18 * n) ((J.tear f M t (J.recs 0 F)).map bv) ∧ Below w1.heap.size w1 wr) (fun _ _ i _ => 32 - (intOf i).toNat)
    case atStart => exact ⟨0, by omega, rfl, ho2, hb2⟩
    case round =>
      obtain ⟨t, ht, rfl, ho, hb⟩ := hrel
      by_cases hlt : t < 32
      · have hbit : bits .and .u32 ((M : Int) / 2 ^ t) 1 = ((M / 2 ^ t % 2 : Nat) : Int) := by
          have e : (M : Int) / 2 ^ t = ((M / 2 ^ t : Nat) : Int) := by push_cast; rfl
          rw [e, show (1 : Int) = ((1 : Nat) : Int) from rfl, u32_and_nat _ 1 (Nat.lt_of_le_of_lt (Nat.div_le_self _ _) hM2) (by omega), Nat.and_one_is_mod]
        have hln : (J.recs 0 F).length = 18 * n := by rw [J.recs_length, hF.out]
        obtain ⟨k, hk⟩ : ∃ k, k = f + t := ⟨_, rfl⟩
        have ek : (f : Int) + (t : Int) = (k : Int) := by omega
        by_cases hc : M / 2 ^ t % 2 = 1 ∧ k < 144 * n
        · have HS : Hid (J.tear f M (t + 1) (J.recs 0 F) = J.flip1 (J.tear f M t (J.recs 0 F)) k) := by
            show J.tear f M (t + 1) (J.recs 0 F) = _
            rw [tear_get _ _ _ _ ⟨hc.1, by rw [hln]; omega⟩, hk]
          have hTl : (J.tear f M t (J.recs 0 F)).length = 18 * n := by rw [J.tear_length, hln]
          obtain ⟨hc1, hc2⟩ := hc
          rw [hc1] at hbit
          generalize J.tear f M t (J.recs 0 F) = T at *
          obtain ⟨q, hq⟩ : ∃ q, q = k / 8 := ⟨_, rfl⟩
          obtain ⟨r, hr⟩ : ∃ r, r = k % 8 := ⟨_, rfl⟩
          have hqT : q < T.length := by omega
          obtain ⟨g, rfl, hg, _, _⟩ := owns_at ho (by omega)
          have hfz := fun j => ho.frozenAt j
          have hcell : wr.cell? ⟨g, q, none⟩ = some (bv T[q]) := by
            rw [ho.cellAt _ (by omega), List.getElem?_map, List.getElem?_eq_getElem hqT]; rfl
          have hqn : q < 18 * n := by omega
          have hqe := Lib.hid hq
          have hre := Lib.hid hr
          have hr8 : r < 8 := by omega
          have e1 : (k : Int) / 8 = (q : Int) := by omega
          have e2 : (k : Int) % 8 = (r : Int) := by omega
          have hk144 : (k : Int) < 8 * (18 * (n : Int)) := by omega
          have HT := Lib.hid hTl
          have hkk := Lib.hid hk
          clear hTl hln hq hr hk
          go_wp2_with fail
          go_roundw
          case rel =>
            have hst := (ho.stored q (bv (UInt8.ofNat (T[q].toNat ^^^ 2 ^ r)))).1
            rw [flip_val _ _ hr8]
            refine ⟨t + 1, by omega, by go_num, ?_, hb.setCell (p := ⟨g, q, none⟩) hg _⟩
            have hfl : J.flip1 T k = T.set q (UInt8.ofNat (T[q].toNat ^^^ 2 ^ r)) := by
              unfold J.flip1
              rw [← hqe.out, ← hre.out, List.getD_eq_getElem?_getD, List.getElem?_eq_getElem hqT, Option.getD_some]
            rw [HS.out, hfl, List.map_set]
            exact hst
          case measure => simp [intOf]; omega
        · have HS : Hid (J.tear f M (t + 1) (J.recs 0 F) = J.tear f M t (J.recs 0 F)) := by
            show J.tear f M (t + 1) (J.recs 0 F) = _
            rw [tear_not]
            rintro ⟨h1, h2⟩
            exact hc ⟨h1, by rw [hln] at h2; omega⟩
          rcases (show M / 2 ^ t % 2 = 0 ∨ (M / 2 ^ t % 2 = 1 ∧ 144 * n ≤ k) by omega) with h0 | ⟨h1, h2⟩
          · rw [h0] at hbit
            replace hbit : bits .and .u32 ((M : Int) / 2 ^ t) 1 = 0 := hbit
            have hk2 := Lib.hid hk
            have hln2 := Lib.hid hln
            clear h0 hk hln hc
            go_wp2_with fail
            go_roundw
            case rel => exact ⟨t + 1, by omega, by go_num, by rw [HS.out]; exact ho, hb⟩
            case measure => simp [intOf]; omega
          · rw [h1] at hbit
            replace hbit : bits .and .u32 ((M : Int) / 2 ^ t) 1 = 1 := hbit
            have hk144 : 8 * (18 * (n : Int)) ≤ (k : Int) := by omega
            have hk2 := Lib.hid hk
            have hln2 := Lib.hid hln
            clear h1 h2 hk hln hc
            go_wp2_with fail
            go_roundw
            case rel => exact ⟨t + 1, by omega, by go_num, by rw [HS.out]; exact ho, hb⟩
            case measure => simp [intOf]; omega
      · obtain rfl : t = 32 := by omega
        clear ho2 hb2
        obtain ⟨j, hj⟩ : ∃ j, j = f / 144 := ⟨_, rfl⟩
        have hjn : j < n := by omega
        obtain ⟨y, hy⟩ : ∃ y, y = f / 8 := ⟨_, rfl⟩
        have e1 : (f : Int) / 8 = (y : Int) := by omega
        have e2 : (y : Int) / 18 = (j : Int) := by omega
        have hT := J.torn hok.out hwF f M hM2 hMo.out (by rw [hF.out]; exact hf2)
        rw [← hj] at hT
        have hTl : (J.tear f M 32 (J.recs 0 F)).length = 18 * n := by rw [J.tear_length, J.recs_length, hF.out]
        have hG : J.getL (J.tear f M 32 (J.recs 0 F)) = [] ∧ J.getE (J.tear f M 32 (J.recs 0 F)) = 370 := by
          have hi : ¬ J.isAll (J.tear f M 32 (J.recs 0 F)) = true := by unfold J.isAll; rw [hT, hTl, List.length_take, hF.out]; simp; omega
          exact ⟨by unfold J.getL; rw [if_neg hi], by unfold J.getE; rw [if_neg hi]⟩
        have hLj : Hid ((F.take j).length = j) := by show (F.take j).length = j; rw [List.length_take, hF.out]; omega
        generalize J.tear f M 32 (J.recs 0 F) = T at *
        replace hT := Lib.hid hT
        replace hTl := Lib.hid hTl
        replace hG := Lib.hid hG
        have hF2 := hF1.out.later hb
        have hcap1 := hF2.cap
        have hs2 := Sl.of_owns ho
        have hw2 := hb1.trans (hb.mono hz1)
        have HJ := Lib.hid hj
        have HY := Lib.hid hy
        clear hj hy ho hb hb1
        go_wp2_with fail
        refine (whole_is a3 (18 * n) c3 j (j * 18) _ _ hTl.out hT.out hLj.out (by omega) (by omega) wr hs2).mono ?_
        rintro e w3 ⟨a4, c4, rfl, hs4, hb3⟩
        have hF3 := hF2.later hb3
        have hs3 := hs2.later hb3
        have hw3 := hw2.trans (hb3.mono hw2.size)
        clear hF2 hs2 hb3 hw2
        go_wp2_with fail
        refine (get_is a3 (18 * n) c3 0 370 _ [] hTl.out hG.out.1 hG.out.2 rfl (by omega) w3 hs3).mono ?_
        rintro e w4 ⟨a5, c5, rfl, _, hb4⟩
        have hF4 := (hF3.later hb4).upto j (by omega)
        rw [avs_take F j] at hF4
        have hs44 := hs4.later hb4
        have hw4 := hw3.trans (hb4.mono hw3.size)
        have hj1 : j ≤ c1 := by omega
        clear hF3 hs3 hb4 hw3 hs4
        go_wp2_with fail
        refine (same_yes a4 a1 j c4 c1 _ hLj.out (by omega) w4 hs44 hF4).mono ?_
        rintro e w5 ⟨rfl, hb5⟩
        have hw5 := hw4.trans (hb5.mono hw4.size)
        clear hF4 hs44 hb5 hw4
        go_wp2_with fail
        refine (awake_any w5).mono ?_
        rintro e w6 ⟨rfl, hb6⟩
        go_wp2
        go_ret
        exact ⟨rfl, hw5.trans (hb6.mono hw5.size)⟩

end Go.Proofs.Ytobdibhadgfldaa
