/- The walk of the reference's Put. -/
import Derived.Test.YtobdibhadgfldaaJW6
namespace Go.Proofs.Ytobdibhadgfldaa
open Go.RowKit

theorem rmay_val {a : J.Act} {b : Bool} (h : J.may a = b) (w : World) :
    Calls Try.prog 31 #[.agg #[.int .i32 a.t, .int .i64 a.n, .int .u8 a.k, .int .i32 a.c, .int .i32 a.x]] w fun e w' => e = .returned (.bool b) ∧ Below w.heap.size w w' := by
  subst h
  exact rmay_any a w

set_option maxHeartbeats 1000000 in
theorem rPut_any (a : Option Addr) (c : Nat) (l : List J.Act) (hl : l.length ≤ 400000) (hwf : ∀ x ∈ l, x.Wf) (w : World) (hs : Sl w w.heap.size a l.length c 5 (avs l)) :
    Calls Try.prog 21 #[.slice a l.length c] w (PutOf l w) := by
  go_enter Try.func21, Try.ntmps21
  go_wp2
  go_loopw [4] (fun i wr => ∃ k, k ≤ l.length ∧ i = .int .i64 (k : Nat) ∧ J.okFrom 0 (l.take k) = true ∧ Below w.heap.size w wr) (fun i _ => l.length - (intOf i).toNat)
  case atStart => exact ⟨0, Nat.zero_le _, rfl, rfl, Below.refl _ _⟩
  case round =>
    obtain ⟨k, hk, rfl, hok, hb⟩ := hrel
    have HK := Lib.hid hok
    clear hok
    by_cases hlt : k < l.length
    · obtain ⟨b, o, rfl, hbb, c0, c1, c2, c3, c4⟩ := (hs.below hb (Nat.le_refl _)).act k hlt
      have hz := hb.size
      have hbz : b < wr.heap.size := Nat.lt_of_lt_of_le hbb hz
      have h0 : (0 : Int) < l.length := by omega
      have hki : (k : Int) < l.length := by omega
      cases hmay : J.may l[k] with
      | false =>
        have HF : Hid (J.okFrom 0 (l.take (k + 1)) = false) := by show J.okFrom 0 (l.take (k + 1)) = false; rw [J.okFrom_take hlt, hmay]; simp
        have z0 := fam_cell (B := wr.heap.size) c0 hbz
        have z1 := fam_cell (B := wr.heap.size) c1 hbz
        have z2 := fam_cell (B := wr.heap.size) c2 hbz
        have z3 := fam_cell (B := wr.heap.size) c3 hbz
        have z4 := fam_cell (B := wr.heap.size) c4 hbz
        clear c0 c1 c2 c3 c4
        go_wp2_with fail
        refine wp_region_fam wr.heap.size (by kernel_rfl) (by kernel_rfl) ?_
        repeat (go_big_quiet_step ((go_at_call 31; exact fam_call (Nat.le_refl _) (rmay_val hmay _))))
        refine wpQuiet_nil ?_
        rintro _ ⟨nq, rfl⟩
        have hbn : Below w.heap.size w nq.w := hb.trans (nq.below.mono hz)
        go_wp2
        go_ret2
        exact ⟨_, _, _, _, rfl, PutRes_no (J.okFrom_no HF.out) _, hbn⟩
      | true =>
        by_cases hk0 : 0 < k
        · have g0 : (0 : Int) < (k : Int) := by omega
          have hprev := (hs.below hb (Nat.le_refl _)).act (k - 1) (by omega)
          obtain ⟨b', o', e', hbb', p0, _⟩ := hprev
          simp only [Option.some.injEq, Addr.mk.injEq, and_true] at e'
          obtain ⟨rfl, rfl⟩ := e'
          have hlast : Hid (J.lastT 0 (l.take k) = l[k - 1].t) := by
            show J.lastT 0 (l.take k) = l[k - 1].t
            have := J.lastT_take (l := l) (k := k - 1) (by omega)
            rwa [show k - 1 + 1 = k by omega] at this
          by_cases ht : l[k].t < l[k - 1].t
          · have HF : Hid (J.okFrom 0 (l.take (k + 1)) = false) := by
              show J.okFrom 0 (l.take (k + 1)) = false
              rw [J.okFrom_take hlt, hlast.out, decide_eq_false (by omega)]; simp
            have z0 := fam_cell (B := wr.heap.size) c0 hbz
            have z1 := fam_cell (B := wr.heap.size) c1 hbz
            have z2 := fam_cell (B := wr.heap.size) c2 hbz
            have z3 := fam_cell (B := wr.heap.size) c3 hbz
            have z4 := fam_cell (B := wr.heap.size) c4 hbz
            have z5 := fam_cell (B := wr.heap.size) p0 hbz
            clear c0 c1 c2 c3 c4 p0
            go_wp2_with fail
            refine wp_region_fam wr.heap.size (by kernel_rfl) (by kernel_rfl) ?_
            repeat (go_big_quiet_step ((go_at_call 31; exact fam_call (Nat.le_refl _) (rmay_val hmay _))))
            refine wpQuiet_nil ?_
            rintro _ ⟨nq, rfl⟩
            have hbn : Below w.heap.size w nq.w := hb.trans (nq.below.mono hz)
            go_wp2
            go_ret2
            exact ⟨_, _, _, _, rfl, PutRes_no (J.okFrom_no HF.out) _, hbn⟩
          · have HF : Hid (J.okFrom 0 (l.take (k + 1)) = true) := by
              show J.okFrom 0 (l.take (k + 1)) = true
              rw [J.okFrom_take hlt, HK.out, hlast.out, hmay, decide_eq_true (by omega)]; rfl
            have ht' : decide (l[k].t < l[k - 1].t) = false := by simp; omega
            have ht'' : l[k - 1].t ≤ l[k].t := by omega
            clear ht
            have z0 := fam_cell (B := wr.heap.size) c0 hbz
            have z1 := fam_cell (B := wr.heap.size) c1 hbz
            have z2 := fam_cell (B := wr.heap.size) c2 hbz
            have z3 := fam_cell (B := wr.heap.size) c3 hbz
            have z4 := fam_cell (B := wr.heap.size) c4 hbz
            have z5 := fam_cell (B := wr.heap.size) p0 hbz
            clear c0 c1 c2 c3 c4 p0
            go_wp2_with fail
            refine wp_region_fam wr.heap.size (by kernel_rfl) (by kernel_rfl) ?_
            repeat (go_big_quiet_step ((go_at_call 31; exact fam_call (Nat.le_refl _) (rmay_val hmay _))))
            refine wpQuiet_nil ?_
            rintro _ ⟨nq, rfl⟩
            have hbn : Below w.heap.size w nq.w := hb.trans (nq.below.mono hz)
            go_wp2
            go_roundw
            case rel => exact ⟨k + 1, by omega, by go_num, HF.out, hbn⟩
            case measure => simp [intOf]; omega
        · have g0 : decide ((0 : Int) < (k : Int)) = false := by simp; omega
          have HF : Hid (J.okFrom 0 (l.take (k + 1)) = true) := by
            show J.okFrom 0 (l.take (k + 1)) = true
            obtain rfl : k = 0 := by omega
            have := (J.may_t hmay).1
            rw [J.okFrom_take hlt, HK.out, hmay]; simpa [J.lastT] using this
          have z0 := fam_cell (B := wr.heap.size) c0 hbz
          have z1 := fam_cell (B := wr.heap.size) c1 hbz
          have z2 := fam_cell (B := wr.heap.size) c2 hbz
          have z3 := fam_cell (B := wr.heap.size) c3 hbz
          have z4 := fam_cell (B := wr.heap.size) c4 hbz
          clear c0 c1 c2 c3 c4
          go_wp2_with fail
          refine wp_region_fam wr.heap.size (by kernel_rfl) (by kernel_rfl) ?_
          repeat (go_big_quiet_step ((go_at_call 31; exact fam_call (Nat.le_refl _) (rmay_val hmay _))))
          refine wpQuiet_nil ?_
          rintro _ ⟨nq, rfl⟩
          have hbn : Below w.heap.size w nq.w := hb.trans (nq.below.mono hz)
          go_wp2
          go_roundw
          case rel => exact ⟨k + 1, by omega, by go_num, HF.out, hbn⟩
          case measure => simp [intOf]; omega
    · obtain rfl : k = l.length := by omega
      rw [List.take_length] at HK
      have hl' : ((l.length : Nat) : Int) ≤ 400000 := by omega
      have hl'' : decide ((500000 : Int) < (l.length : Int)) = false := by simp; omega
      go_wp2_with fail
      go_loopw [5, 6, 7, 8] (fun v s i _ wr => ∃ k va vc, k ≤ l.length ∧ i = .int .i64 (k : Nat) ∧ s = .int .u32 (J.sums 0 (l.take k) : Nat) ∧ v = .slice va (18 * k) vc ∧
        wr.ownsRow w.heap.size 5 1 (.slice va (18 * k) vc) (18 * k) ((J.recs 0 (l.take k)).map bv) ∧ Below w.heap.size w wr) (fun _ _ i _ _ => l.length - (intOf i).toNat)
      case atStart => exact ⟨0, none, 0, Nat.zero_le _, rfl, rfl, rfl, World.ownsRow_nil _ _ _ _, hb⟩
      case round =>
        clear hb
        obtain ⟨k, va, vc, hk, rfl, rfl, rfl, hown, hb⟩ := hrel
        have hz := hb.size
        have hsl := J.sums_lt (l.take k) 0 (by omega)
        by_cases hlt : k < l.length
        · obtain ⟨b, o, rfl, hbb, c0, c1, c2, c3, c4⟩ := (hs.below hb (Nat.le_refl _)).act k hlt
          obtain ⟨m0, m1, m2, m3, m4⟩ := J.may_t (J.okFrom_may l 0 HK.out l[k] (List.getElem_mem hlt))
          have hput := Lib.hid (fun W => record_any l[k].t l[k].n l[k].k l[k].c l[k].x (hwf _ (List.getElem_mem hlt)) m1 m2 (J.sums 0 (l.take k)) hsl W)
          have e1 := Lib.hid (show J.sums 0 (l.take (k + 1)) = J.sum l[k] (J.sums 0 (l.take k)) from by rw [List.take_succ_eq_append_getElem hlt, J.sums_snoc])
          have e2 := Lib.hid (show J.recs 0 (l.take (k + 1)) = J.recs 0 (l.take k) ++ J.rec l[k] (J.sums 0 (l.take k)) from by rw [List.take_succ_eq_append_getElem hlt, J.recs_snoc])
          go_wp2_with fail
          clear c0 c1 c2 c3 c4 m0 m1 m2 m3 m4
          refine (hput.out wr).mono ?_
          rintro e w2 ⟨v2, c2, rfl, hs2, hb2⟩
          obtain ⟨b2, o2, rfl, _⟩ := hs2.at (by omega)
          have hc18 := hs2.cap
          have hcm := hs2.max
          unfold maxLen at hcm
          have hc14 : 14 < c2 := by omega
          have hs3 := hs2.from1 14 (by omega)
          rw [← List.map_drop, J.rec_drop] at hs3
          have hnum := Lib.hid (fun n (hn : n = 4) => rnumber_any _ (J.four (J.sum l[k] (J.sums 0 (l.take k)))) (c2 - 14) n (by rw [hn]; rfl) (by simp [J.four]) (by simp [J.four]) w2 hs3.rd)
          have hno := Lib.hid (J.num_four _ (J.sum_lt l[k] (J.sums 0 (l.take k))))
          have ho2 := owns_later hown hb2 (Nat.le_refl _)
          clear hs3 hown
          go_wp2_with fail
          refine (hnum.out _ rfl).mono ?_
          rintro e w3 ⟨rfl, hb3⟩
          rw [hno.out]
          have ho3 := owns_later ho2 hb3 (Nat.le_refl _)
          have hb4 : Below w.heap.size w w3 := hb.trans ((hb2.mono hz).trans (hb3.mono (Nat.le_trans hz hb2.size)))
          have hz3 := hb4.size
          clear ho2
          go_wp2_with (at_builtin; go_must (refine app_own rfl (.tmp 57) (.tmp 58) 22 rfl Try.elB rfl ho3 rfl (hs2.later hb3) (oneCell_bytes _) (by omega) (by omega) hz3 ?_))
          intro a' c' w' h1 _ h3
          have h4 : w'.ownsRow w.heap.size 5 1 (.slice a' (18 * (k + 1)) c') (18 * (k + 1)) ((J.recs 0 (l.take (k + 1))).map bv) := by
            rw [e2.out, List.map_append]; exact h1
          clear h1 ho3 hs2
          go_wp2
          go_roundw
          case rel => exact ⟨k + 1, a', c', by omega, by go_num, by rw [e1.out], rfl, h4, hb4.trans h3⟩
          case measure => simp [intOf]; omega
        · obtain rfl : k = l.length := by omega
          rw [List.take_length] at *
          go_wp2
          go_ret2
          exact ⟨va, _, vc, _, rfl, PutRes_yes HK.out (Sl.of_owns hown), hb⟩

end Go.Proofs.Ytobdibhadgfldaa
