/- The walk of the reference's Whole. -/
import Derived.Test.YtobdibhadgfldaaJW7
import Derived.Test.YtobdibhadgfldaaMix
import Derived.Test.YtobdibhadgfldaaJPlain2
import Derived.Deep.DeepCutAuto
namespace Go.Proofs.Ytobdibhadgfldaa
open Go.RowKit

/-- What Whole answers. -/
def WholeOf (b : List UInt8) (w : World) (e : Ending) (w' : World) : Prop :=
  ∃ a c, e = .returned (.tuple #[.slice a (J.wholes b).length c, .int .i64 (18 * (J.wholes b).length : Nat)]) ∧ Sl w' w'.heap.size a (J.wholes b).length c 5 (avs (J.wholes b)) ∧ Below w.heap.size w w'

theorem last_cell {W : World} {base : Nat} {va : Option Addr} {n vc : Nat} {m : List J.Act} (h : W.ownsRow base 44 5 (.slice va n vc) n (avs m)) (hn : n = m.length) (h0 : 0 < n) :
    ∃ g, va = some ⟨g, 0, none⟩ ∧ ∃ T, J.lastT 0 m = T ∧ W.cell? ⟨g, (n - 1) * 5, none⟩ = some (.int .i32 T) := by
  subst hn
  obtain ⟨g', rfl, _⟩ := owns_at h h0
  obtain ⟨g, og, e, _, p0, _⟩ := (Sl.of_owns h).act (m.length - 1) (by omega)
  simp only [Option.some.injEq, Addr.mk.injEq, and_true] at e
  obtain ⟨rfl, rfl⟩ := e
  exact ⟨g', rfl, _, J.lastT_last m h0, by rw [Nat.zero_add] at p0; exact p0⟩

set_option maxHeartbeats 1000000 in
set_option maxRecDepth 100000 in
theorem rWhole_any (a : Option Addr) (c : Nat) (b : List UInt8) (hl : b.length ≤ 8000000) (w : World) (hs : Sl w w.heap.size a b.length c 1 (b.map bv)) :
    Calls Try.prog 15 #[.slice a b.length c] w (WholeOf b w) := by
  go_enter Try.func15, Try.ntmps15
  go_wp2
  go_loopw [4, 5, 6, 7, 8] (fun v s i _ _ wr => ∃ (m : List J.Act) (va : Option Addr) (vc q n : Nat), n = m.length ∧ q = 18 * n ∧ q ≤ b.length ∧ i = .int .i64 (q : Nat) ∧ s = .int .u32 (J.sums 0 m : Nat) ∧ v = .slice va n vc ∧
      wr.ownsRow w.heap.size 44 5 (.slice va n vc) n (avs m) ∧ J.wholes b = m ++ J.whole (b.length + 1 - n) (J.sums 0 m) (J.lastT 0 m) (b.drop q) ∧ Below w.heap.size w wr)
    (fun _ _ i _ _ _ => b.length - (intOf i).toNat)
  case atStart => exact ⟨[], none, 0, 0, 0, rfl, rfl, by simp, rfl, rfl, rfl, World.ownsRow_nil _ _ _ _, by simp [J.wholes, J.sums, J.lastT], Below.refl _ _⟩
  case round =>
    obtain ⟨m, va, vc, q, n, hn, hq, hm, rfl, rfl, rfl, hown, hspec, hb⟩ := hrel
    have hml : n ≤ 450000 := by omega
    have HQ := Lib.hid hq
    have HN := Lib.hid hn
    have HS := Lib.hid hspec
    clear hspec hq hn
    have hz := hb.size
    by_cases hlt : q + 18 ≤ b.length
    · obtain ⟨bb, o, rfl, hbb⟩ := hs.at (by omega)
      have hcb := hs.cap
      have hcm : c ≤ 9223372036854775807 := by have := hs.max; unfold maxLen at this; omega
      have g1 : q < c := by omega
      have t1 : decide ((q : Int) + 18 ≤ (b.length : Int)) = true := by simp; omega
      have t2 : decide ((n : Int) < 500000) = true := by simp; omega
      go_wp2_with fail
      rw [Nat.add_sub_cancel_left]
      clear t1 t2
      obtain ⟨R, hR⟩ : ∃ R, R = (b.drop q).take 18 := ⟨_, rfl⟩
      have hRl : R.length = 18 := by rw [hR, List.length_take, List.length_drop]; omega
      have hsr : Sl wr wr.heap.size (some ⟨bb, o + q, none⟩) 18 (c - q) 1 (R.map bv) := by
        have h1 := ((hs.below hb (Nat.le_refl _)).from1 q hm).upto1 18 (by omega)
        rw [← List.map_drop, ← List.map_take, ← hR] at h1
        exact h1.size
      obtain ⟨y4, hy4⟩ : ∃ y, y = R.getD 4 0 := ⟨_, rfl⟩
      obtain ⟨y5, hy5⟩ : ∃ y, y = R.getD 5 0 := ⟨_, rfl⟩
      have hR4 : ∀ lt : Late wr, lt.w.cell? ⟨bb, o + q + 4, none⟩ = some (bv y4) := late_cell (by
        obtain ⟨b', o', e, _, hc⟩ := hsr.rd.byte 4 (by omega)
        cases e
        rw [hy4, List.getD_eq_getElem?_getD, List.getElem?_eq_getElem (by omega)]; exact hc)
      have hR5 : ∀ lt : Late wr, lt.w.cell? ⟨bb, o + q + 5, none⟩ = some (bv y5) := late_cell (by
        obtain ⟨b', o', e, _, hc⟩ := hsr.rd.byte 5 (by omega)
        cases e
        rw [hy5, List.getD_eq_getElem?_getD, List.getElem?_eq_getElem (by omega)]; exact hc)
      have HY4 := Lib.hid hy4
      have HY5 := Lib.hid hy5
      clear hy4 hy5
      have hN0 := Lib.hid (fun lt : Late wr => toG (rnumber_any _ R (c - q) 18 hRl.symm (by omega) (by omega) lt.w (hsr.late lt).rd))
      have hN6 := Lib.hid (fun lt : Late wr => toG (rnumber_any _ (R.drop 6) (c - q - 6) 12 (by rw [List.length_drop]; omega) (by rw [List.length_drop]; omega) (by rw [List.length_drop]; omega) lt.w (by rw [List.map_drop]; exact ((hsr.late lt).from1 6 (by omega)).rd)))
      have hN10 := Lib.hid (fun lt : Late wr => toG (rnumber_any _ (R.drop 10) (c - q - 10) 8 (by rw [List.length_drop]; omega) (by rw [List.length_drop]; omega) (by rw [List.length_drop]; omega) lt.w (by rw [List.map_drop]; exact ((hsr.late lt).from1 10 (by omega)).rd)))
      obtain ⟨A, hA⟩ : ∃ A, A = J.act R := ⟨_, rfl⟩
      have k1 : IntKind.i32.wrap ((J.num R : Nat) : Int) = A.t := by rw [hA]; simp [IntKind.wrap, IntKind.bits, IntKind.signed, J.act, J.i32]; omega
      have k2 : IntKind.i64.wrap (IntKind.i64.wrap (y4.toNat : Int) - 1) = A.n := by
        have := y4.toNat_lt
        rw [hA]
        show _ = ((R.getD 4 0).toNat : Int) - 1
        rw [← HY4.out, IntWalk.i64_in (y4.toNat : Int) (by omega), IntWalk.i64_in _ (by omega)]
      have k3 : (y5.toNat : Int) = A.k := by
        rw [hA]
        show _ = ((R.getD 5 0).toNat : Int)
        rw [← HY5.out]
      have k4 : IntKind.i32.wrap ((J.num (R.drop 6) : Nat) : Int) = A.c := by rw [hA]; simp [IntKind.wrap, IntKind.bits, IntKind.signed, J.act, J.i32]; omega
      have k5 : IntKind.i32.wrap ((J.num (R.drop 10) : Nat) : Int) = A.x := by rw [hA]; simp [IntKind.wrap, IntKind.bits, IntKind.signed, J.act, J.i32]; omega
      have HA := Lib.hid hA
      have HR := Lib.hid hR
      have HRl := Lib.hid hRl
      have g2 : 18 ≤ c - q := by omega
      have g3 : c - q ≤ 9223372036854775807 := by omega
      have g6 : ¬ (c - q = 6) := by omega
      have g10 : ¬ (c - q = 10) := by omega
      clear hR hRl hA
      refine wp_region_mix [21] [(0, .quiet), (1, .quiet), (2, .quiet), (3, .quiet), (4, .quiet), (5, .quiet), (6, .quiet), (7, .quiet), (8, .quiet), (9, .quiet), (10, .quiet), (11, .quiet), (12, .quiet), (13, .quiet), (14, .quiet), (15, .quiet), (16, .quiet), (17, .quiet), (18, .quiet), (19, .quiet), (20, .grow), (21, .bar)] (by kernel_rfl) (by kernel_rfl) (by kernel_rfl) (by kernel_rfl) (fun _ _ d _ _ h => by cases d <;> exact h) ?_
      simp only [planOps, List.getElem?_toArray, List.getElem?_cons_zero, List.getElem?_cons_succ]
      repeat ((with_reducible refine mix_quiet (fun K hK => ?_)); go_simp; first | (refine hK _ ?_; clear hK K) | (apply Exists.intro; refine ⟨fun lt => ?_, hK _ ?_⟩; (first | with_reducible exact hN0.out lt | with_reducible exact hN6.out lt | with_reducible exact hN10.out lt); clear hK K))
      refine mix_grow (fun lt K hK => ?_)
      go_simp
      refine hK _ _ (Grows.alloc _ _) ?_
      clear hK K
      refine mix_bar (fun lt2 K hK => ?_)
      have hfz := late_new_frozen lt2
      have q0 := late_new_cell (xs := [.int .i32 0, .int .i64 0, .int .u8 0, .int .i32 0, .int .i32 0]) (j := 0) rfl lt2
      have q1 := late_new_cell (xs := [.int .i32 0, .int .i64 0, .int .u8 0, .int .i32 0, .int .i32 0]) (j := 1) rfl lt2
      have q2 := late_new_cell (xs := [.int .i32 0, .int .i64 0, .int .u8 0, .int .i32 0, .int .i32 0]) (j := 2) rfl lt2
      have q3 := late_new_cell (xs := [.int .i32 0, .int .i64 0, .int .u8 0, .int .i32 0, .int .i32 0]) (j := 3) rfl lt2
      have q4 := late_new_cell (xs := [.int .i32 0, .int .i64 0, .int .u8 0, .int .i32 0, .int .i32 0]) (j := 4) rfl lt2
      go_simp
      refine hK _ _ ?_
      clear hK K
      refine mix_nil (fun lt3 => ?_)
      have hg8 : wr.heap.size ≤ lt.w.heap.size := lt.grows.size
      have hb7 : Below wr.heap.size wr lt3.w := Below.trans lt.grows (((Below.refl _ _).alloc hg8 _).trans ((Below.mono lt2.grows (by simp; omega)).trans
        ((((((((Below.refl _ _).setCell (p := ⟨lt.w.heap.size, 0, none⟩) hg8 _).setCell (p := ⟨lt.w.heap.size, 1, none⟩) hg8 _).setCell (p := ⟨lt.w.heap.size, 2, none⟩) hg8 _).setCell (p := ⟨lt.w.heap.size, 3, none⟩) hg8 _).setCell (p := ⟨lt.w.heap.size, 4, none⟩) hg8 _)).trans (Below.mono lt3.grows (by
          have := lt2.grows.size
          simp [World.setCell] at this ⊢; omega)))))
      have c0 := late_cell (show _ = some (.int .i32 A.t) by go_simp) lt3 (b := lt.w.heap.size) (o := 0)
      have c1 := late_cell (show _ = some (.int .i64 A.n) by go_simp) lt3 (b := lt.w.heap.size) (o := 1)
      have c2 := late_cell (show _ = some (.int .u8 A.k) by go_simp) lt3 (b := lt.w.heap.size) (o := 2)
      have c3 := late_cell (show _ = some (.int .i32 A.c) by go_simp) lt3 (b := lt.w.heap.size) (o := 3)
      have c4 := late_cell (show _ = some (.int .i32 A.x) by go_simp) lt3 (b := lt.w.heap.size) (o := 4)
      clear hfz q0 q1 q2 q3 q4
      generalize lt3.w = W7 at *
      clear lt3 lt2
      generalize lt.w.heap.size = g8 at *
      clear lt
      have hsl7 := J.sums_lt m 0 (by omega)
      have hown7 := owns_later hown hb7 (Nat.le_refl _)
      have hb7w : Below w.heap.size w W7 := hb.trans (hb7.mono hz)
      have hsr7 := hsr.below hb7 (Nat.le_refl _)
      have hwfA : A.Wf := by rw [HA.out]; exact J.act_wf R
      have hcomp : ∀ x : List J.Act, J.wholes b = m ++ x → n = m.length → x = [] → (J.wholes b = m ∧ (J.wholes b).length = n) := by
        intro x h1 h2 h3; subst h3; rw [h1, List.append_nil]; exact ⟨rfl, h2.symm⟩
      have hbr : R = (b.drop q).take 18 := HR.out
      have hstr7 : ∀ lt : Late W7, (convert 22 9 (.slice (some ⟨bb, o + q, none⟩) 18 (c - q))).run Try.prog lt.w = .ok (.string ⟨R.toArray⟩) lt.w := fun lt =>
        conv_bytes ((Sl.size hsr7).late lt) 22 9 5 Try.underlying22 Try.underlying5 Try.underlying9
      have HBR := Lib.hid hbr
      clear hN0 hN6 hN10 hR4 hR5 k1 k2 k3 k4 k5 hbr hsr hs
      have l0 := late_cell c0
      have l1 := late_cell c1
      have l2 := late_cell c2
      have l3 := late_cell c3
      have l4 := late_cell c4
      have hend : ∀ h : (J.may A && decide (J.lastT 0 m ≤ A.t) && decide (J.rec A (J.sums 0 m) = R)) = false, J.wholes b = m ∧ (J.wholes b).length = n := by
        intro h
        refine hcomp _ HS.out HN.out (J.whole_no ?_)
        rw [← HBR.out, ← HA.out]
        exact h
      have g8lt : g8 < W7.heap.size := World.block_lt_of_cell? W7 ⟨g8, 0, none⟩ c0
      cases hmay : J.may A with
      | false =>
        have hmay2 := Lib.hid (fun lt : Late W7 => toG (rmay_val hmay lt.w))
        have HRES : Hid (J.wholes b = m ∧ (J.wholes b).length = n) := hend (by rw [hmay]; simp)
        clear hend hcomp hmay hstr7
        go_wp2_with fail
        refine wp_region_mix [] [(0, .quiet), (1, .quiet), (2, .quiet), (3, .quiet), (4, .quiet), (5, .quiet), (6, .quiet), (7, .quiet), (8, .quiet), (9, .quiet), (10, .quiet), (11, .quiet), (12, .quiet), (13, .quiet), (14, .quiet), (15, .quiet), (16, .quiet), (17, .quiet), (18, .quiet), (19, .quiet), (20, .quiet), (21, .quiet), (22, .quiet), (23, .quiet), (24, .quiet), (25, .quiet), (26, .quiet), (27, .quiet), (28, .quiet)] (by kernel_rfl) (by kernel_rfl) (by kernel_rfl) (by kernel_rfl) (fun _ _ d _ _ h => by cases d <;> exact h) ?_
        simp only [planOps, List.getElem?_toArray, List.getElem?_cons_zero, List.getElem?_cons_succ]
        repeat ((with_reducible refine mix_quiet (fun K hK => ?_)); go_simp; first | (refine hK _ ?_; clear hK K) | (apply Exists.intro; refine ⟨fun lt => ?_, hK _ ?_⟩; (first | with_reducible exact hmay2.out lt); clear hK K))
        with_reducible refine mix_nil (fun lt => ?_)
        go_wp2
        go_ret2
        refine ⟨va, vc, ?_, ?_, hb7w.trans (Below.mono lt.grows hb7w.size)⟩
        · rw [HRES.out.2, ← HQ.out]; rfl
        · rw [HRES.out.1, ← HN.out]; exact Sl.of_owns (owns_later hown7 lt.grows (Nat.le_refl _))
      | true =>
        have hmay2 := Lib.hid (fun lt : Late W7 => toG (rmay_val hmay lt.w))
        obtain ⟨m0, m1, m2, m3, m4⟩ := J.may_t hmay
        have hcall := Lib.hid (fun W => record_any A.t A.n A.k A.c A.x hwfA m1 m2 (J.sums 0 m) hsl7 W)
        have HMAY := Lib.hid hmay
        clear hmay m0 m1 m2 m3 m4
        by_cases hn0 : 0 < n
        · have g0 : decide ((0 : Int) < (n : Int)) = true := by simp; omega
          have g1 : decide (0 < n) = true := by simp; omega
          have w1 : IntKind.i64.wrap ((n : Int) - 1) = (n : Int) - 1 := IntWalk.i64_in _ (by omega)
          have w2 : (0 : Int) ≤ (n : Int) - 1 := by omega
          have w3 : (n : Int) - 1 < (n : Int) := by omega
          have w4 : ((n : Int) - 1).toNat = n - 1 := by omega
          have w5 : (1 : Int) ≤ (n : Int) := by omega
          obtain ⟨g', rfl, T, hlast, p0⟩ := last_cell hown7 HN.out hn0
          have lp := late_cell p0
          clear p0 hn0
          by_cases ht : A.t < T
          · have HRES : Hid (J.wholes b = m ∧ (J.wholes b).length = n) := hend (by rw [hlast, decide_eq_false (by omega)]; simp)
            clear hend hcomp hstr7 hlast
            go_wp2_with fail
            refine wp_region_mix [] [(0, .quiet), (1, .quiet), (2, .quiet), (3, .quiet), (4, .quiet), (5, .quiet), (6, .quiet), (7, .quiet), (8, .quiet), (9, .quiet), (10, .quiet), (11, .quiet), (12, .quiet), (13, .quiet), (14, .quiet), (15, .quiet), (16, .quiet), (17, .quiet), (18, .quiet), (19, .quiet), (20, .quiet), (21, .quiet), (22, .quiet), (23, .quiet), (24, .quiet), (25, .quiet), (26, .quiet), (27, .quiet), (28, .quiet)] (by kernel_rfl) (by kernel_rfl) (by kernel_rfl) (by kernel_rfl) (fun _ _ d _ _ h => by cases d <;> exact h) ?_
            simp only [planOps, List.getElem?_toArray, List.getElem?_cons_zero, List.getElem?_cons_succ]
            repeat ((with_reducible refine mix_quiet (fun K hK => ?_)); go_simp; first | (refine hK _ ?_; clear hK K) | (apply Exists.intro; refine ⟨fun lt => ?_, hK _ ?_⟩; (first | with_reducible exact hmay2.out lt); clear hK K))
            with_reducible refine mix_nil (fun lt => ?_)
            go_wp2
            go_ret2
            refine ⟨some ⟨g', 0, none⟩, vc, ?_, ?_, hb7w.trans (Below.mono lt.grows hb7w.size)⟩
            · rw [HRES.out.2, ← HQ.out]; rfl
            · rw [HRES.out.1, ← HN.out]; exact Sl.of_owns (owns_later hown7 lt.grows (Nat.le_refl _))
          · have HT : Hid (J.lastT 0 m ≤ A.t) := by show J.lastT 0 m ≤ A.t; omega
            have ht1 : decide (A.t < T) = false := by simp; omega
            have ht2 : T ≤ A.t := by omega
            clear ht hlast
            by_cases hrec : J.rec A (J.sums 0 m) = R
            · have hq1 : (J.rec A (J.sums 0 m) == R) = true := by simp [hrec]
              have HREC := Lib.hid hrec
              have HOK : Hid ((J.may A && decide (J.lastT 0 m ≤ A.t) && decide (J.rec A (J.sums 0 m) = R)) = true) := by
                show (J.may A && decide (J.lastT 0 m ≤ A.t) && decide (J.rec A (J.sums 0 m) = R)) = true
                rw [HMAY.out, decide_eq_true HT.out, decide_eq_true hrec]; rfl
              clear hrec hend hcomp
              go_wp2_with fail
              refine wp_region_mix [] [(0, .quiet), (1, .quiet), (2, .quiet), (3, .quiet), (4, .quiet), (5, .quiet), (6, .quiet), (7, .quiet), (8, .quiet), (9, .quiet), (10, .quiet), (11, .quiet), (12, .quiet), (13, .quiet), (14, .quiet), (15, .quiet), (16, .quiet), (17, .quiet), (18, .quiet), (19, .quiet), (20, .quiet), (21, .quiet), (22, .quiet), (25, .quiet), (26, .quiet), (23, .grow), (24, .quiet), (27, .quiet), (28, .quiet)] (by kernel_rfl) (by kernel_rfl) (by kernel_rfl) (by kernel_rfl) (fun _ _ d _ _ h => by cases d <;> exact h) ?_
              simp only [planOps, List.getElem?_toArray, List.getElem?_cons_zero, List.getElem?_cons_succ]
              repeat ((with_reducible refine mix_quiet (fun K hK => ?_)); go_simp; first | (refine hK _ ?_; clear hK K) | (apply Exists.intro; refine ⟨fun lt => ?_, hK _ ?_⟩; (first | with_reducible exact hmay2.out lt); clear hK K))
              with_reducible refine mix_grow (fun lt K hK => ?_)
              go_simp
              refine (hcall.out lt.w).mono ?_
              rintro e w2 ⟨v2, c2', rfl, hs2, hb2⟩
              refine hK _ _ hb2 ?_
              clear hK K
              have hstr2 : ∀ lt : Late w2, (convert 22 9 (.slice v2 18 c2')).run Try.prog lt.w = .ok (.string ⟨(J.rec A (J.sums 0 m)).toArray⟩) lt.w := fun lt =>
                conv_bytes (hs2.late lt) 22 9 5 Try.underlying22 Try.underlying5 Try.underlying9
              repeat ((with_reducible refine mix_quiet (fun K hK => ?_)); go_simp; first | (refine hK _ ?_; clear hK K) | (apply Exists.intro; refine ⟨fun lt => ?_, hK _ ?_⟩; (first | fail); clear hK K))
              with_reducible refine mix_nil (fun lt2 => ?_)
              have hb8 : Below W7.heap.size W7 lt2.w := (Grows.trans lt.grows (Grows.trans hb2 lt2.grows))
              clear hstr2 hs2 hstr7 hq1
              generalize lt2.w = W8 at *
              clear lt2 hb2
              have g8l : g8 < W8.heap.size := Nat.lt_of_lt_of_le g8lt hb8.size
              have d0 := (hb8.cell (p := ⟨g8, 0, none⟩) g8lt).trans c0
              have d1 := (hb8.cell (p := ⟨g8, 1, none⟩) g8lt).trans c1
              have d2 := (hb8.cell (p := ⟨g8, 2, none⟩) g8lt).trans c2
              have d3 := (hb8.cell (p := ⟨g8, 3, none⟩) g8lt).trans c3
              have d4 := (hb8.cell (p := ⟨g8, 4, none⟩) g8lt).trans c4
              clear lt l0 l1 l2 l3 l4 c0 c1 c2 c3 c4
              have hs8 := ((hsr7.below hb8 hb7.size).from1 14 (by omega)).rd.size
              rw [← List.map_drop] at hs8
              have hb8w : Below w.heap.size w W8 := hb7w.trans (Below.mono hb8 hb7w.size)
              have hown8 := owns_later hown7 hb8 (Nat.le_refl _)
              obtain ⟨M, hM⟩ : ∃ M, M = m ++ [A] := ⟨_, rfl⟩
              have hN := rnumber_any _ (R.drop 14) (c - q - 14) 4 (by rw [List.length_drop, HRl.out]) (by rw [List.length_drop, HRl.out]; omega) (by rw [List.length_drop, HRl.out]; omega) W8 hs8
              rw [show J.num (R.drop 14) = J.sums 0 M by rw [hM, J.sums_snoc, ← HREC.out, J.rec_drop, J.num_four _ (J.sum_lt _ _)]] at hN
              have hst := J.wholes_step HN.out HQ.out hlt HS.out (by rw [← HBR.out, ← HA.out]; exact HOK.out)
              rw [← HBR.out, ← HA.out, ← hM] at hst
              have hMl : n + 1 = M.length := by rw [hM, List.length_append, ← HN.out]; rfl
              have HM := Lib.hid hM
              have HST := Lib.hid hst
              have HML := Lib.hid hMl
              clear hM hst hMl
              go_wp2_with fail
              refine hN.mono ?_
              clear hN
              rintro e w9 ⟨rfl, hb9⟩
              have e0 := (hb9.cell (p := ⟨g8, 0, none⟩) g8l).trans d0
              have e1 := (hb9.cell (p := ⟨g8, 1, none⟩) g8l).trans d1
              have e2 := (hb9.cell (p := ⟨g8, 2, none⟩) g8l).trans d2
              have e3 := (hb9.cell (p := ⟨g8, 3, none⟩) g8l).trans d3
              have e4 := (hb9.cell (p := ⟨g8, 4, none⟩) g8l).trans d4
              clear d0 d1 d2 d3 d4 hs8
              have hown9 := owns_later hown8 hb9 (Nat.le_refl _)
              have hb9w : Below w.heap.size w w9 := hb8w.trans (Below.mono hb9 hb8w.size)
              have hz9 := hb9w.size
              have hsn := sl_new w9 (avs [A]) 44 1 5 rfl (by unfold maxLen; omega)
              go_wp2_with (at_builtin; go_must (refine app_own rfl (.tmp 76) (.tmp 78) 24 rfl Try.elA rfl (hown9.alloc _) rfl hsn (oneCell_acts [A]) (by omega) (by omega) (by simp; omega) ?_))
              intro a' c' w' h1 _ h3
              have h4 : w'.ownsRow w.heap.size 44 5 (.slice a' (n + 1) c') (n + 1) (avs M) := by rw [HM.out, avs_append]; exact h1
              clear h1 e0 e1 e2 e3 e4 hsn
              go_wp2
              go_roundw
              case rel => exact ⟨M, a', c', q + 18, n + 1, HML.out, by have := HQ.out; omega, by omega, by go_num, rfl, rfl, h4, HST.out, hb9w.trans (((Below.refl _ _).alloc hz9 _).trans h3)⟩
              case measure => simp [intOf]; omega
            · have hq1 : (J.rec A (J.sums 0 m) == R) = false := by simp [hrec]
              have HRES : Hid (J.wholes b = m ∧ (J.wholes b).length = n) := hend (by rw [decide_eq_false hrec]; simp)
              clear hrec hend hcomp
              go_wp2_with fail
              refine wp_region_mix [] [(0, .quiet), (1, .quiet), (2, .quiet), (3, .quiet), (4, .quiet), (5, .quiet), (6, .quiet), (7, .quiet), (8, .quiet), (9, .quiet), (10, .quiet), (11, .quiet), (12, .quiet), (13, .quiet), (14, .quiet), (15, .quiet), (16, .quiet), (17, .quiet), (18, .quiet), (19, .quiet), (20, .quiet), (21, .quiet), (22, .quiet), (25, .quiet), (26, .quiet), (23, .grow), (24, .quiet), (27, .quiet), (28, .quiet)] (by kernel_rfl) (by kernel_rfl) (by kernel_rfl) (by kernel_rfl) (fun _ _ d _ _ h => by cases d <;> exact h) ?_
              simp only [planOps, List.getElem?_toArray, List.getElem?_cons_zero, List.getElem?_cons_succ]
              repeat ((with_reducible refine mix_quiet (fun K hK => ?_)); go_simp; first | (refine hK _ ?_; clear hK K) | (apply Exists.intro; refine ⟨fun lt => ?_, hK _ ?_⟩; (first | with_reducible exact hmay2.out lt); clear hK K))
              with_reducible refine mix_grow (fun lt K hK => ?_)
              go_simp
              refine (hcall.out lt.w).mono ?_
              rintro e w2 ⟨v2, c2', rfl, hs2, hb2⟩
              refine hK _ _ hb2 ?_
              clear hK K
              have hstr2 : ∀ lt : Late w2, (convert 22 9 (.slice v2 18 c2')).run Try.prog lt.w = .ok (.string ⟨(J.rec A (J.sums 0 m)).toArray⟩) lt.w := fun lt =>
                conv_bytes (hs2.late lt) 22 9 5 Try.underlying22 Try.underlying5 Try.underlying9
              repeat ((with_reducible refine mix_quiet (fun K hK => ?_)); go_simp; first | (refine hK _ ?_; clear hK K) | (apply Exists.intro; refine ⟨fun lt => ?_, hK _ ?_⟩; (first | fail); clear hK K))
              with_reducible refine mix_nil (fun lt2 => ?_)
              have hb8 : Below W7.heap.size W7 lt2.w := (Grows.trans lt.grows (Grows.trans hb2 lt2.grows))
              clear hstr2 hs2 hstr7 hq1
              generalize lt2.w = W8 at *
              clear lt2 hb2
              go_wp2
              go_ret2
              refine ⟨some ⟨g', 0, none⟩, vc, ?_, ?_, hb7w.trans (Below.mono hb8 hb7w.size)⟩
              · rw [HRES.out.2, ← HQ.out]; rfl
              · rw [HRES.out.1, ← HN.out]; exact Sl.of_owns (owns_later hown7 hb8 (Nat.le_refl _))
        · have g0 : decide ((0 : Int) < (n : Int)) = false := by simp; omega
          have g1 : decide (0 < n) = false := by simp; omega
          have HT : Hid (J.lastT 0 m ≤ A.t) := by
            show J.lastT 0 m ≤ A.t
            have := HN.out
            have : m = [] := List.eq_nil_of_length_eq_zero (by omega)
            rw [this]
            exact (J.may_t HMAY.out).1
          clear hn0
          by_cases hrec : J.rec A (J.sums 0 m) = R
          · have hq1 : (J.rec A (J.sums 0 m) == R) = true := by simp [hrec]
            have HREC := Lib.hid hrec
            have HOK : Hid ((J.may A && decide (J.lastT 0 m ≤ A.t) && decide (J.rec A (J.sums 0 m) = R)) = true) := by
              show (J.may A && decide (J.lastT 0 m ≤ A.t) && decide (J.rec A (J.sums 0 m) = R)) = true
              rw [HMAY.out, decide_eq_true HT.out, decide_eq_true hrec]; rfl
            clear hrec hend hcomp
            go_wp2_with fail
            refine wp_region_mix [] [(0, .quiet), (1, .quiet), (2, .quiet), (3, .quiet), (4, .quiet), (5, .quiet), (6, .quiet), (7, .quiet), (8, .quiet), (9, .quiet), (10, .quiet), (11, .quiet), (12, .quiet), (13, .quiet), (14, .quiet), (15, .quiet), (16, .quiet), (17, .quiet), (18, .quiet), (19, .quiet), (20, .quiet), (21, .quiet), (22, .quiet), (25, .quiet), (26, .quiet), (23, .grow), (24, .quiet), (27, .quiet), (28, .quiet)] (by kernel_rfl) (by kernel_rfl) (by kernel_rfl) (by kernel_rfl) (fun _ _ d _ _ h => by cases d <;> exact h) ?_
            simp only [planOps, List.getElem?_toArray, List.getElem?_cons_zero, List.getElem?_cons_succ]
            repeat ((with_reducible refine mix_quiet (fun K hK => ?_)); go_simp; first | (refine hK _ ?_; clear hK K) | (apply Exists.intro; refine ⟨fun lt => ?_, hK _ ?_⟩; (first | with_reducible exact hmay2.out lt); clear hK K))
            with_reducible refine mix_grow (fun lt K hK => ?_)
            go_simp
            refine (hcall.out lt.w).mono ?_
            rintro e w2 ⟨v2, c2', rfl, hs2, hb2⟩
            refine hK _ _ hb2 ?_
            clear hK K
            have hstr2 : ∀ lt : Late w2, (convert 22 9 (.slice v2 18 c2')).run Try.prog lt.w = .ok (.string ⟨(J.rec A (J.sums 0 m)).toArray⟩) lt.w := fun lt =>
              conv_bytes (hs2.late lt) 22 9 5 Try.underlying22 Try.underlying5 Try.underlying9
            repeat ((with_reducible refine mix_quiet (fun K hK => ?_)); go_simp; first | (refine hK _ ?_; clear hK K) | (apply Exists.intro; refine ⟨fun lt => ?_, hK _ ?_⟩; (first | fail); clear hK K))
            with_reducible refine mix_nil (fun lt2 => ?_)
            have hb8 : Below W7.heap.size W7 lt2.w := (Grows.trans lt.grows (Grows.trans hb2 lt2.grows))
            clear hstr2 hs2 hstr7 hq1
            generalize lt2.w = W8 at *
            clear lt2 hb2
            have g8l : g8 < W8.heap.size := Nat.lt_of_lt_of_le g8lt hb8.size
            have d0 := (hb8.cell (p := ⟨g8, 0, none⟩) g8lt).trans c0
            have d1 := (hb8.cell (p := ⟨g8, 1, none⟩) g8lt).trans c1
            have d2 := (hb8.cell (p := ⟨g8, 2, none⟩) g8lt).trans c2
            have d3 := (hb8.cell (p := ⟨g8, 3, none⟩) g8lt).trans c3
            have d4 := (hb8.cell (p := ⟨g8, 4, none⟩) g8lt).trans c4
            clear lt l0 l1 l2 l3 l4 c0 c1 c2 c3 c4
            have hs8 := ((hsr7.below hb8 hb7.size).from1 14 (by omega)).rd.size
            rw [← List.map_drop] at hs8
            have hb8w : Below w.heap.size w W8 := hb7w.trans (Below.mono hb8 hb7w.size)
            have hown8 := owns_later hown7 hb8 (Nat.le_refl _)
            obtain ⟨M, hM⟩ : ∃ M, M = m ++ [A] := ⟨_, rfl⟩
            have hN := rnumber_any _ (R.drop 14) (c - q - 14) 4 (by rw [List.length_drop, HRl.out]) (by rw [List.length_drop, HRl.out]; omega) (by rw [List.length_drop, HRl.out]; omega) W8 hs8
            rw [show J.num (R.drop 14) = J.sums 0 M by rw [hM, J.sums_snoc, ← HREC.out, J.rec_drop, J.num_four _ (J.sum_lt _ _)]] at hN
            have hst := J.wholes_step HN.out HQ.out hlt HS.out (by rw [← HBR.out, ← HA.out]; exact HOK.out)
            rw [← HBR.out, ← HA.out, ← hM] at hst
            have hMl : n + 1 = M.length := by rw [hM, List.length_append, ← HN.out]; rfl
            have HM := Lib.hid hM
            have HST := Lib.hid hst
            have HML := Lib.hid hMl
            clear hM hst hMl
            go_wp2_with fail
            refine hN.mono ?_
            clear hN
            rintro e w9 ⟨rfl, hb9⟩
            have e0 := (hb9.cell (p := ⟨g8, 0, none⟩) g8l).trans d0
            have e1 := (hb9.cell (p := ⟨g8, 1, none⟩) g8l).trans d1
            have e2 := (hb9.cell (p := ⟨g8, 2, none⟩) g8l).trans d2
            have e3 := (hb9.cell (p := ⟨g8, 3, none⟩) g8l).trans d3
            have e4 := (hb9.cell (p := ⟨g8, 4, none⟩) g8l).trans d4
            clear d0 d1 d2 d3 d4 hs8
            have hown9 := owns_later hown8 hb9 (Nat.le_refl _)
            have hb9w : Below w.heap.size w w9 := hb8w.trans (Below.mono hb9 hb8w.size)
            have hz9 := hb9w.size
            have hsn := sl_new w9 (avs [A]) 44 1 5 rfl (by unfold maxLen; omega)
            go_wp2_with (at_builtin; go_must (refine app_own rfl (.tmp 76) (.tmp 78) 24 rfl Try.elA rfl (hown9.alloc _) rfl hsn (oneCell_acts [A]) (by omega) (by omega) (by simp; omega) ?_))
            intro a' c' w' h1 _ h3
            have h4 : w'.ownsRow w.heap.size 44 5 (.slice a' (n + 1) c') (n + 1) (avs M) := by rw [HM.out, avs_append]; exact h1
            clear h1 e0 e1 e2 e3 e4 hsn
            go_wp2
            go_roundw
            case rel => exact ⟨M, a', c', q + 18, n + 1, HML.out, by have := HQ.out; omega, by omega, by go_num, rfl, rfl, h4, HST.out, hb9w.trans (((Below.refl _ _).alloc hz9 _).trans h3)⟩
            case measure => simp [intOf]; omega
          · have hq1 : (J.rec A (J.sums 0 m) == R) = false := by simp [hrec]
            have HRES : Hid (J.wholes b = m ∧ (J.wholes b).length = n) := hend (by rw [decide_eq_false hrec]; simp)
            clear hrec hend hcomp
            go_wp2_with fail
            refine wp_region_mix [] [(0, .quiet), (1, .quiet), (2, .quiet), (3, .quiet), (4, .quiet), (5, .quiet), (6, .quiet), (7, .quiet), (8, .quiet), (9, .quiet), (10, .quiet), (11, .quiet), (12, .quiet), (13, .quiet), (14, .quiet), (15, .quiet), (16, .quiet), (17, .quiet), (18, .quiet), (19, .quiet), (20, .quiet), (21, .quiet), (22, .quiet), (25, .quiet), (26, .quiet), (23, .grow), (24, .quiet), (27, .quiet), (28, .quiet)] (by kernel_rfl) (by kernel_rfl) (by kernel_rfl) (by kernel_rfl) (fun _ _ d _ _ h => by cases d <;> exact h) ?_
            simp only [planOps, List.getElem?_toArray, List.getElem?_cons_zero, List.getElem?_cons_succ]
            repeat ((with_reducible refine mix_quiet (fun K hK => ?_)); go_simp; first | (refine hK _ ?_; clear hK K) | (apply Exists.intro; refine ⟨fun lt => ?_, hK _ ?_⟩; (first | with_reducible exact hmay2.out lt); clear hK K))
            with_reducible refine mix_grow (fun lt K hK => ?_)
            go_simp
            refine (hcall.out lt.w).mono ?_
            rintro e w2 ⟨v2, c2', rfl, hs2, hb2⟩
            refine hK _ _ hb2 ?_
            clear hK K
            have hstr2 : ∀ lt : Late w2, (convert 22 9 (.slice v2 18 c2')).run Try.prog lt.w = .ok (.string ⟨(J.rec A (J.sums 0 m)).toArray⟩) lt.w := fun lt =>
              conv_bytes (hs2.late lt) 22 9 5 Try.underlying22 Try.underlying5 Try.underlying9
            repeat ((with_reducible refine mix_quiet (fun K hK => ?_)); go_simp; first | (refine hK _ ?_; clear hK K) | (apply Exists.intro; refine ⟨fun lt => ?_, hK _ ?_⟩; (first | fail); clear hK K))
            with_reducible refine mix_nil (fun lt2 => ?_)
            have hb8 : Below W7.heap.size W7 lt2.w := (Grows.trans lt.grows (Grows.trans hb2 lt2.grows))
            clear hstr2 hs2 hstr7 hq1
            generalize lt2.w = W8 at *
            clear lt2 hb2
            go_wp2
            go_ret2
            refine ⟨va, vc, ?_, ?_, hb7w.trans (Below.mono hb8 hb7w.size)⟩
            · rw [HRES.out.2, ← HQ.out]; rfl
            · rw [HRES.out.1, ← HN.out]; exact Sl.of_owns (owns_later hown7 hb8 (Nat.le_refl _))
    · have hw : J.wholes b = m := by
        have h1 := HS.out
        rw [J.whole_short (by rw [List.length_drop]; omega), List.append_nil] at h1
        exact h1
      have HW := Lib.hid (show J.wholes b = m ∧ (J.wholes b).length = n from ⟨hw, by rw [hw]; exact HN.out.symm⟩)
      clear hw
      have t1 : decide ((q : Int) + 18 ≤ (b.length : Int)) = false := by simp; omega
      go_wp2_with fail
      go_ret2
      refine ⟨va, vc, ?_, ?_, hb⟩
      · rw [HW.out.2, ← HQ.out]; rfl
      · rw [HW.out.1, ← HN.out]; exact Sl.of_owns hown

end Go.Proofs.Ytobdibhadgfldaa
