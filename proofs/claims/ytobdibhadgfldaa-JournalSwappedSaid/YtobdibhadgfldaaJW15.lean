/- The walks of the laws JournalOrder and JournalBack. -/
import Derived.Test.YtobdibhadgfldaaJW14
import Derived.Test.YtobdibhadgfldaaJPlain4
namespace Go.Proofs.Ytobdibhadgfldaa
open Go.RowKit

theorem order_step {l : List J.Act} {k : Nat} (h : k < l.length) (x : Bool) (hx : (J.okFrom 0 (l.take k) && (J.may l[k] && decide (J.lastT 0 (l.take k) ≤ l[k].t))) = x) : Hid (J.okFrom 0 (l.take (k + 1)) = x) := by
  show J.okFrom 0 (l.take (k + 1)) = x
  rw [J.okFrom_take h, hx]

theorem may_yes {a : J.Act} (h : J.may a = true) : decide (a.t < 0) = false ∧ decide (a.n < -1) = false ∧ decide (7 < a.n) = false ∧ decide (a.k < 1) = false ∧ decide (9 < a.k) = false := by
  have := J.may_t h
  refine ⟨?_, ?_, ?_, ?_, ?_⟩ <;> apply decide_eq_false <;> omega
theorem may_not {a : J.Act} (h : J.may a = false) : decide (a.t < 0) = true ∨ (decide (a.t < 0) = false ∧ decide (a.n < -1) = true) ∨ (decide (a.t < 0) = false ∧ decide (a.n < -1) = false ∧ decide (7 < a.n) = true) ∨
    (decide (a.t < 0) = false ∧ decide (a.n < -1) = false ∧ decide (7 < a.n) = false ∧ decide (a.k < 1) = true) ∨
    (decide (a.t < 0) = false ∧ decide (a.n < -1) = false ∧ decide (7 < a.n) = false ∧ decide (a.k < 1) = false ∧ decide (9 < a.k) = true) := by
  simp only [decide_eq_true_eq, decide_eq_false_iff_not]
  simp only [J.may, Bool.and_eq_false_iff, decide_eq_false_iff_not] at h
  omega

set_option maxHeartbeats 2000000 in
set_option maxRecDepth 100000 in
theorem order_law (a : Option Addr) (c : Nat) (l : List J.Act) (hwf : ∀ x ∈ l, x.Wf) (w : World) (hs : Sl w w.heap.size a l.length c 5 (avs l)) :
    Calls Try.prog 7 #[.slice a l.length c] w fun e w' => e = .returned (.bool true) ∧ Below w.heap.size w w' := by
  go_enter Try.func7, Try.ntmps7
  by_cases hl : 2000 < l.length
  · have g : decide ((2000 : Int) < (l.length : Int)) = true := by simp; omega
    go_wp2_with fail
    refine (awake_any w).mono ?_
    rintro e w' ⟨rfl, hb⟩
    go_wp2
    go_ret
    exact ⟨rfl, hb⟩
  · have g : decide ((2000 : Int) < (l.length : Int)) = false := by simp; omega
    have hle : l.length ≤ 2000 := by omega
    clear hl
    go_wp2_with fail
    go_loopw [3, 4, 5, 14] (fun b _ _ i wr => ∃ (k : Nat) (q : Bool), k ≤ l.length ∧ i = .int .i64 (k : Nat) ∧ Hid (J.okFrom 0 (l.take k) = !q) ∧ b = .bool q ∧ Below w.heap.size w wr) (fun _ _ _ i _ => l.length - (intOf i).toNat)
    case atStart => exact ⟨0, false, Nat.zero_le _, rfl, rfl, rfl, Below.refl _ _⟩
    case round =>
      obtain ⟨k, q, hk, rfl, hq, rfl, hb⟩ := hrel
      by_cases hlt : k < l.length
      · obtain ⟨b, o, rfl, hbb, c0, c1, c2, c3, c4⟩ := (hs.below hb (Nat.le_refl _)).act k hlt
        have hz := hb.size
        cases q with
        | true =>
          have HF := order_step hlt false (by rw [hq.out]; rfl)
          go_wp2_with fail
          generalize hW : wr.alloc _ = W
          obtain ⟨hbW, hlW, z0, z1, z2, z3, z4⟩ := fam_box5 hW
          clear hW c0 c1 c2 c3 c4
          refine wp_region_fam W.heap.size (by kernel_rfl) (by kernel_rfl) ?_
          repeat (go_big_quiet_step (fail))
          refine wpQuiet_nil ?_
          rintro _ ⟨nq, rfl⟩
          have hbn : Below w.heap.size w nq.w := hb.trans ((hbW.mono hz).trans (nq.below.mono (Nat.le_trans hz (Nat.le_of_lt hlW))))
          go_wp2
          go_roundw
          case rel => exact ⟨k + 1, true, by omega, by go_num, HF, rfl, hbn⟩
          case measure => simp [intOf]; omega
        | false =>
          cases hm : J.may l[k] with
          | false =>
            have HF := order_step hlt false (by rw [hm]; simp)
            have hm := may_not hm
            rcases hm with ⟨g1⟩ | ⟨g1, g2⟩ | ⟨g1, g2, g3⟩ | ⟨g1, g2, g3, g4⟩ | ⟨g1, g2, g3, g4, g5⟩
            all_goals
              go_wp2_with fail
              generalize hW : wr.alloc _ = W
              obtain ⟨hbW, hlW, z0, z1, z2, z3, z4⟩ := fam_box5 hW
              clear hW c0 c1 c2 c3 c4
              refine wp_region_fam W.heap.size (by kernel_rfl) (by kernel_rfl) ?_
              repeat (go_big_quiet_step (fail))
              refine wpQuiet_nil ?_
              rintro _ ⟨nq, rfl⟩
              have hbn : Below w.heap.size w nq.w := hb.trans ((hbW.mono hz).trans (nq.below.mono (Nat.le_trans hz (Nat.le_of_lt hlW))))
              go_wp2
              go_roundw
              case rel => exact ⟨k + 1, true, by omega, by go_num, HF, rfl, hbn⟩
              case measure => simp [intOf]; omega
          | true =>
            obtain ⟨g1, g2, g3, g4, g5⟩ := may_yes hm
            by_cases hk0 : 0 < k
            · have g0 : (0 : Int) < (k : Int) := by omega
              have hprev := (hs.below hb (Nat.le_refl _)).act (k - 1) (by omega)
              obtain ⟨b', o', e', hbb', p0, _⟩ := hprev
              simp only [Option.some.injEq, Addr.mk.injEq, and_true] at e'
              obtain ⟨rfl, rfl⟩ := e'
              have hlast : J.lastT 0 (l.take k) = l[k - 1].t := by
                have := J.lastT_take (l := l) (k := k - 1) (by omega)
                rwa [show k - 1 + 1 = k by omega] at this
              by_cases ht : l[k].t < l[k - 1].t
              · have HF := order_step hlt false (by rw [hlast, decide_eq_false (by omega : ¬ l[k - 1].t ≤ l[k].t)]; simp)
                have ht' : decide (l[k].t < l[k - 1].t) = true := by simpa using ht
                clear hlast ht hm
                go_wp2_with fail
                generalize hW : wr.alloc _ = W
                obtain ⟨hbW, hlW, z0, z1, z2, z3, z4⟩ := fam_box5 hW
                have z5 := fam_cell (B := W.heap.size) ((hbW.cell (p := ⟨b, o + (k - 1) * 5, none⟩) (Nat.lt_of_lt_of_le hbb hz)).trans p0) (Nat.lt_trans (Nat.lt_of_lt_of_le hbb hz) hlW)
                clear hW p0 c0 c1 c2 c3 c4
                refine wp_region_fam W.heap.size (by kernel_rfl) (by kernel_rfl) ?_
                repeat (go_big_quiet_step (fail))
                refine wpQuiet_nil ?_
                rintro _ ⟨nq, rfl⟩
                have hbn : Below w.heap.size w nq.w := hb.trans ((hbW.mono hz).trans (nq.below.mono (Nat.le_trans hz (Nat.le_of_lt hlW))))
                go_wp2
                go_roundw
                case rel => exact ⟨k + 1, true, by omega, by go_num, HF, rfl, hbn⟩
                case measure => simp [intOf]; omega
              · have HF := order_step hlt true (by rw [hq.out, hm, hlast, decide_eq_true (by omega : l[k - 1].t ≤ l[k].t)]; rfl)
                have ht' : decide (l[k].t < l[k - 1].t) = false := by simpa using ht
                clear hlast ht hm
                go_wp2_with fail
                generalize hW : wr.alloc _ = W
                obtain ⟨hbW, hlW, z0, z1, z2, z3, z4⟩ := fam_box5 hW
                have z5 := fam_cell (B := W.heap.size) ((hbW.cell (p := ⟨b, o + (k - 1) * 5, none⟩) (Nat.lt_of_lt_of_le hbb hz)).trans p0) (Nat.lt_trans (Nat.lt_of_lt_of_le hbb hz) hlW)
                clear hW p0 c0 c1 c2 c3 c4
                refine wp_region_fam W.heap.size (by kernel_rfl) (by kernel_rfl) ?_
                repeat (go_big_quiet_step (fail))
                refine wpQuiet_nil ?_
                rintro _ ⟨nq, rfl⟩
                have hbn : Below w.heap.size w nq.w := hb.trans ((hbW.mono hz).trans (nq.below.mono (Nat.le_trans hz (Nat.le_of_lt hlW))))
                go_wp2
                go_roundw
                case rel => exact ⟨k + 1, false, by omega, by go_num, HF, rfl, hbn⟩
                case measure => simp [intOf]; omega
            · have g0 : decide ((0 : Int) < (k : Int)) = false := by simp; omega
              have HF := order_step hlt true (by
                obtain rfl : k = 0 := by omega
                have := (J.may_t hm).1
                rw [hm]; simpa [J.lastT, J.okFrom] using this)
              clear hm
              go_wp2_with fail
              generalize hW : wr.alloc _ = W
              obtain ⟨hbW, hlW, z0, z1, z2, z3, z4⟩ := fam_box5 hW
              clear hW c0 c1 c2 c3 c4
              refine wp_region_fam W.heap.size (by kernel_rfl) (by kernel_rfl) ?_
              repeat (go_big_quiet_step (fail))
              refine wpQuiet_nil ?_
              rintro _ ⟨nq, rfl⟩
              have hbn : Below w.heap.size w nq.w := hb.trans ((hbW.mono hz).trans (nq.below.mono (Nat.le_trans hz (Nat.le_of_lt hlW))))
              go_wp2
              go_roundw
              case rel => exact ⟨k + 1, false, by omega, by go_num, HF, rfl, hbn⟩
              case measure => simp [intOf]; omega
      · obtain rfl : k = l.length := by omega
        rw [List.take_length] at *
        go_wp2_with fail
        refine (Put_any a c l (by omega) hwf wr (hs.later hb)).mono ?_
        rintro e w1 ⟨a1, n1, c1, r1, rfl, hp, hb1⟩
        have hb2 := hb.trans (hb1.mono hb.size)
        cases q with
        | true =>
          obtain ⟨rfl, rfl, rfl, rfl⟩ := PutRes_false hp hq.out
          go_wp2_with fail
          refine (awake_any w1).mono ?_
          rintro e w' ⟨rfl, hb3⟩
          go_wp2
          go_ret
          exact ⟨rfl, hb2.trans (hb3.mono hb2.size)⟩
        | false =>
          obtain ⟨rfl, hs1, hn1⟩ := PutRes_true hp hq.out
          clear hn1 hp
          go_wp2_with fail
          refine (awake_any w1).mono ?_
          rintro e w' ⟨rfl, hb3⟩
          go_wp2
          go_ret
          exact ⟨rfl, hb2.trans (hb3.mono hb2.size)⟩

end Go.Proofs.Ytobdibhadgfldaa
