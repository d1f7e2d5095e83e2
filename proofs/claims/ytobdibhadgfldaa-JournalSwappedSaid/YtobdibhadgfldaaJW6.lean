/- The walks of Put and of the reference's Put. -/
import Derived.Test.YtobdibhadgfldaaJW5
import Derived.Test.YtobdibhadgfldaaBase2
namespace Go.Proofs.Ytobdibhadgfldaa
open Go.RowKit

theorem may_val {a : J.Act} {b : Bool} (h : J.may a = b) (w : World) :
    Calls Try.prog 28 #[.agg #[.int .i32 a.t, .int .i64 a.n, .int .u8 a.k, .int .i32 a.c, .int .i32 a.x]] w fun e w' => e = .returned (.bool b) ∧ Below w.heap.size w w' := by
  subst h
  exact may_any a w

/-- What Put answers. -/
def PutRes (l : List J.Act) (w : World) (a : Option Addr) (n c : Nat) (e : Int) : Prop :=
  if J.okFrom 0 l then e = 0 ∧ Sl w w.heap.size a n c 1 ((J.recs 0 l).map bv) else e = 2 ∧ a = none ∧ n = 0 ∧ c = 0
def PutOf (l : List J.Act) (w : World) (e : Ending) (w' : World) : Prop :=
  ∃ a n c r, e = .returned (.tuple #[.slice a n c, .int .i64 r]) ∧ PutRes l w' a n c r ∧ Below w.heap.size w w'
theorem PutRes_no {l : List J.Act} (h : J.okFrom 0 l = false) (w : World) : PutRes l w none 0 0 2 := by
  unfold PutRes
  simp [h]
theorem PutRes_yes {l : List J.Act} (h : J.okFrom 0 l = true) {w : World} {a : Option Addr} {n c : Nat} (hs : Sl w w.heap.size a n c 1 ((J.recs 0 l).map bv)) : PutRes l w a n c 0 := by
  unfold PutRes
  rw [if_pos h]
  exact ⟨rfl, hs⟩

/-- .. and what it answers is its own. -/
def PutOwn (l : List J.Act) (B : Nat) (w : World) (a : Option Addr) (n c : Nat) (e : Int) : Prop :=
  if J.okFrom 0 l then e = 0 ∧ n = 18 * l.length ∧ w.ownsRow B 5 1 (.slice a n c) n ((J.recs 0 l).map bv) else e = 2 ∧ a = none ∧ n = 0 ∧ c = 0
def PutOwnOf (l : List J.Act) (w : World) (e : Ending) (w' : World) : Prop :=
  ∃ a n c r, e = .returned (.tuple #[.slice a n c, .int .i64 r]) ∧ PutOwn l w.heap.size w' a n c r ∧ Below w.heap.size w w'
theorem PutOwn_no {l : List J.Act} (h : J.okFrom 0 l = false) (B : Nat) (w : World) : PutOwn l B w none 0 0 2 := by
  unfold PutOwn
  simp [h]
theorem PutOwn_yes {l : List J.Act} (h : J.okFrom 0 l = true) {B : Nat} {w : World} {a : Option Addr} {c : Nat} (hs : w.ownsRow B 5 1 (.slice a (18 * l.length) c) (18 * l.length) ((J.recs 0 l).map bv)) : PutOwn l B w a (18 * l.length) c 0 := by
  unfold PutOwn
  rw [if_pos h]
  exact ⟨rfl, rfl, hs⟩
theorem PutOwn.res {l : List J.Act} {B : Nat} {w : World} {a : Option Addr} {n c : Nat} {e : Int} (h : PutOwn l B w a n c e) : PutRes l w a n c e := by
  unfold PutOwn at h
  unfold PutRes
  split at h
  · rename_i hk
    rw [if_pos hk]
    exact ⟨h.1, Sl.of_owns h.2.2⟩
  · rename_i hk
    rw [if_neg hk]
    exact h

set_option maxHeartbeats 1000000 in
theorem Put_own (a : Option Addr) (c : Nat) (l : List J.Act) (hl : l.length ≤ 400000) (hwf : ∀ x ∈ l, x.Wf) (w : World) (hs : Sl w w.heap.size a l.length c 5 (avs l)) :
    Calls Try.prog 18 #[.slice a l.length c] w (PutOwnOf l w) := by
  go_enter Try.func18, Try.ntmps18
  go_wp2
  go_loopw [4, 5, 13] (fun _ _ i wr => ∃ k, k ≤ l.length ∧ i = .int .i64 (k : Nat) ∧ J.okFrom 0 (l.take k) = true ∧ Below w.heap.size w wr) (fun _ _ i _ => l.length - (intOf i).toNat)
  case atStart => exact ⟨0, Nat.zero_le _, rfl, rfl, Below.refl _ _⟩
  case round =>
    obtain ⟨k, hk, rfl, hok, hb⟩ := hrel
    have HK := Lib.hid hok
    clear hok
    by_cases hlt : k < l.length
    · obtain ⟨b, o, rfl, hbb, c0, c1, c2, c3, c4⟩ := (hs.below hb (Nat.le_refl _)).act k hlt
      have hz := hb.size
      have h0 : (0 : Int) < l.length := by omega
      cases hmay : J.may l[k] with
      | false =>
        have HF : Hid (J.okFrom 0 (l.take (k + 1)) = false) := by show J.okFrom 0 (l.take (k + 1)) = false; rw [J.okFrom_take hlt, hmay]; simp
        go_wp2_with fail
        generalize hW : wr.alloc _ = W
        obtain ⟨hbW, hlW, z0, z1, z2, z3, z4⟩ := fam_box5 hW
        clear hW c0 c1 c2 c3 c4
        refine wp_region_fam W.heap.size (by kernel_rfl) (by kernel_rfl) ?_
        repeat (go_big_quiet_step ((go_at_call 28; exact fam_call (Nat.le_refl _) (may_val hmay _))))
        refine wpQuiet_nil ?_
        rintro _ ⟨nq, rfl⟩
        have hbn : Below w.heap.size w nq.w := hb.trans ((hbW.mono hz).trans (nq.below.mono (Nat.le_trans hz (Nat.le_of_lt hlW))))
        go_wp2
        go_ret2
        exact ⟨_, _, _, _, rfl, PutOwn_no (J.okFrom_no HF.out) _ _, hbn⟩
      | true =>
        by_cases hk0 : 0 < k
        · have g0 : (0 : Int) < (k : Int) := by omega
          have hprev := (hs.below hb (Nat.le_refl _)).act (k - 1) (by omega)
          obtain ⟨b', o', e', hbb', p0, _⟩ := hprev
          simp only [Option.some.injEq, Addr.mk.injEq, and_true] at e'
          obtain ⟨rfl, rfl⟩ := e'
          have hlast : Hid (J.lastT 0 (l.take k) = l[k - 1].t) := by
            show J.lastT 0 (l.take k) = l[k - 1].t
            have := J.lastT_take (l := l) (k := k - 1) (by omega)
            rwa [show k - 1 + 1 = k by omega] at this
          by_cases ht : l[k].t < l[k - 1].t
          · have HF : Hid (J.okFrom 0 (l.take (k + 1)) = false) := by
              show J.okFrom 0 (l.take (k + 1)) = false
              rw [J.okFrom_take hlt, hlast.out, decide_eq_false (by omega)]; simp
            go_wp2_with fail
            generalize hW : wr.alloc _ = W
            obtain ⟨hbW, hlW, z0, z1, z2, z3, z4⟩ := fam_box5 hW
            have z5 := fam_cell (B := W.heap.size) ((hbW.cell (p := ⟨b, o + (k - 1) * 5, none⟩) (Nat.lt_of_lt_of_le hbb hz)).trans p0) (Nat.lt_trans (Nat.lt_of_lt_of_le hbb hz) hlW)
            clear hW p0 c0 c1 c2 c3 c4
            refine wp_region_fam W.heap.size (by kernel_rfl) (by kernel_rfl) ?_
            repeat (go_big_quiet_step ((go_at_call 28; exact fam_call (Nat.le_refl _) (may_val hmay _))))
            refine wpQuiet_nil ?_
            rintro _ ⟨nq, rfl⟩
            have hbn : Below w.heap.size w nq.w := hb.trans ((hbW.mono hz).trans (nq.below.mono (Nat.le_trans hz (Nat.le_of_lt hlW))))
            go_wp2
            go_ret2
            exact ⟨_, _, _, _, rfl, PutOwn_no (J.okFrom_no HF.out) _ _, hbn⟩
          · have HF : Hid (J.okFrom 0 (l.take (k + 1)) = true) := by
              show J.okFrom 0 (l.take (k + 1)) = true
              rw [J.okFrom_take hlt, HK.out, hlast.out, hmay, decide_eq_true (by omega)]; rfl
            have ht' : decide (l[k].t < l[k - 1].t) = false := by simp; omega
            have ht'' : l[k - 1].t ≤ l[k].t := by omega
            clear ht
            go_wp2_with fail
            generalize hW : wr.alloc _ = W
            obtain ⟨hbW, hlW, z0, z1, z2, z3, z4⟩ := fam_box5 hW
            have z5 := fam_cell (B := W.heap.size) ((hbW.cell (p := ⟨b, o + (k - 1) * 5, none⟩) (Nat.lt_of_lt_of_le hbb hz)).trans p0) (Nat.lt_trans (Nat.lt_of_lt_of_le hbb hz) hlW)
            clear hW p0 c0 c1 c2 c3 c4
            refine wp_region_fam W.heap.size (by kernel_rfl) (by kernel_rfl) ?_
            repeat (go_big_quiet_step ((go_at_call 28; exact fam_call (Nat.le_refl _) (may_val hmay _))))
            refine wpQuiet_nil ?_
            rintro _ ⟨nq, rfl⟩
            have hbn : Below w.heap.size w nq.w := hb.trans ((hbW.mono hz).trans (nq.below.mono (Nat.le_trans hz (Nat.le_of_lt hlW))))
            go_wp2
            go_roundw
            case rel => exact ⟨k + 1, by omega, by go_num, HF.out, hbn⟩
            case measure => simp [intOf]; omega
        · have g0 : decide ((0 : Int) < (k : Int)) = false := by simp; omega
          have HF : Hid (J.okFrom 0 (l.take (k + 1)) = true) := by
            show J.okFrom 0 (l.take (k + 1)) = true
            obtain rfl : k = 0 := by omega
            have := (J.may_t hmay).1
            rw [J.okFrom_take hlt, HK.out, hmay]; simpa [J.lastT] using this
          go_wp2_with fail
          generalize hW : wr.alloc _ = W
          obtain ⟨hbW, hlW, z0, z1, z2, z3, z4⟩ := fam_box5 hW
          clear hW c0 c1 c2 c3 c4
          refine wp_region_fam W.heap.size (by kernel_rfl) (by kernel_rfl) ?_
          repeat (go_big_quiet_step ((go_at_call 28; exact fam_call (Nat.le_refl _) (may_val hmay _))))
          refine wpQuiet_nil ?_
          rintro _ ⟨nq, rfl⟩
          have hbn : Below w.heap.size w nq.w := hb.trans ((hbW.mono hz).trans (nq.below.mono (Nat.le_trans hz (Nat.le_of_lt hlW))))
          go_wp2
          go_roundw
          case rel => exact ⟨k + 1, by omega, by go_num, HF.out, hbn⟩
          case measure => simp [intOf]; omega
    · obtain rfl : k = l.length := by omega
      rw [List.take_length] at HK
      have hl' : ((l.length : Nat) : Int) ≤ 400000 := by omega
      have hl'' : decide ((500000 : Int) < (l.length : Int)) = false := by simp; omega
      have hz := hb.size
      go_wp2_with (at_make; go_must (refine mk_own rfl _ _ 22 rfl Try.elB _ _ _ (18 * l.length) rfl rfl (by omega) (by omega) (by omega) ?_))
      intro w1 ho1 hb1
      have hb1' : Below w.heap.size w w1 := hb.trans (hb1.mono hz)
      have ho1' := owns_mono ho1 hz
      clear ho1 hl''
      go_wp2_with fail
      go_loopw [6, 7, 9, 10, 46] (fun v s _ _ i wr => ∃ k va vc, k ≤ l.length ∧ i = .int .i64 (k : Nat) ∧ s = .int .u32 (J.sums 0 (l.take k) : Nat) ∧ v = .slice va (18 * k) vc ∧
        wr.ownsRow w.heap.size 5 1 (.slice va (18 * k) vc) (18 * k) ((J.recs 0 (l.take k)).map bv) ∧ Below w.heap.size w wr) (fun _ _ _ _ i _ => l.length - (intOf i).toNat)
      case atStart => exact ⟨0, _, _, Nat.zero_le _, rfl, rfl, rfl, ho1', hb1'⟩
      case round =>
        clear ho1' hb1' hb1 hb hz
        obtain ⟨k, va, vc, hk, rfl, rfl, rfl, hown, hb⟩ := hrel
        have hz := hb.size
        have hsl := J.sums_lt (l.take k) 0 (by omega)
        by_cases hlt : k < l.length
        · obtain ⟨b, o, rfl, hbb, c0, c1, c2, c3, c4⟩ := (hs.below hb (Nat.le_refl _)).act k hlt
          obtain ⟨m0, m1, m2, m3, m4⟩ := J.may_t (J.okFrom_may l 0 HK.out l[k] (List.getElem_mem hlt))
          have hput := Lib.hid (fun W => put_any l[k].t l[k].n l[k].k l[k].c l[k].x (hwf _ (List.getElem_mem hlt)) m1 m2 (J.sums 0 (l.take k)) hsl W)
          have e1 := Lib.hid (show J.sums 0 (l.take (k + 1)) = J.sum l[k] (J.sums 0 (l.take k)) from by rw [List.take_succ_eq_append_getElem hlt, J.sums_snoc])
          have e2 := Lib.hid (show J.recs 0 (l.take (k + 1)) = J.recs 0 (l.take k) ++ J.rec l[k] (J.sums 0 (l.take k)) from by rw [List.take_succ_eq_append_getElem hlt, J.recs_snoc])
          go_wp2_with fail
          generalize hW : wr.alloc _ = W
          have hbW : Below wr.heap.size wr W := by rw [← hW]; exact (Below.refl _ _).alloc (Nat.le_refl _) _
          have hoW := owns_later hown hbW (Nat.le_refl _)
          clear hW c0 c1 c2 c3 c4 m0 m1 m2 m3 m4
          refine (hput.out W).mono ?_
          rintro e w2 ⟨v2, c2, rfl, hs2, hb2⟩
          obtain ⟨b2, o2, rfl, _⟩ := hs2.at (by omega)
          have hc18 := hs2.cap
          have hcm := hs2.max
          unfold maxLen at hcm
          have hc14 : 14 < c2 := by omega
          have hs3 := hs2.from1 14 (by omega)
          rw [← List.map_drop, J.rec_drop] at hs3
          have hnum := Lib.hid (fun n (hn : n = 4) => number_any _ (J.four (J.sum l[k] (J.sums 0 (l.take k)))) (c2 - 14) n (by rw [hn]; rfl) (by simp [J.four]) (by simp [J.four]) w2 hs3.rd)
          have hno := Lib.hid (J.num_four _ (J.sum_lt l[k] (J.sums 0 (l.take k))))
          have ho2 := owns_later hoW hb2 (Nat.le_refl _)
          clear hs3 hoW hown
          go_wp2_with fail
          refine (hnum.out _ rfl).mono ?_
          rintro e w3 ⟨rfl, hb3⟩
          rw [hno.out]
          have ho3 := owns_later ho2 hb3 (Nat.le_refl _)
          have hb4 : Below w.heap.size w w3 := hb.trans ((hbW.mono hz).trans ((hb2.mono (Nat.le_trans hz hbW.size)).trans (hb3.mono (Nat.le_trans hz (Nat.le_trans hbW.size hb2.size)))))
          have hz3 := hb4.size
          clear ho2
          go_wp2_with (at_builtin; go_must (refine app_own rfl (.tmp 56) (.tmp 57) 22 rfl Try.elB rfl ho3 rfl (hs2.later hb3) (oneCell_bytes _) (by omega) (by omega) hz3 ?_))
          intro a' c' w' h1 _ h3
          have h4 : w'.ownsRow w.heap.size 5 1 (.slice a' (18 * (k + 1)) c') (18 * (k + 1)) ((J.recs 0 (l.take (k + 1))).map bv) := by
            rw [e2.out, List.map_append]; exact h1
          clear h1 ho3 hs2
          go_wp2
          go_roundw
          case rel => exact ⟨k + 1, a', c', by omega, by go_num, by rw [e1.out], rfl, h4, hb4.trans h3⟩
          case measure => simp [intOf]; omega
        · obtain rfl : k = l.length := by omega
          rw [List.take_length] at *
          go_wp2
          go_ret2
          exact ⟨va, _, vc, _, rfl, PutOwn_yes HK.out hown, hb⟩

theorem Put_any (a : Option Addr) (c : Nat) (l : List J.Act) (hl : l.length ≤ 400000) (hwf : ∀ x ∈ l, x.Wf) (w : World) (hs : Sl w w.heap.size a l.length c 5 (avs l)) :
    Calls Try.prog 18 #[.slice a l.length c] w (PutOf l w) :=
  (Put_own a c l hl hwf w hs).mono fun _ _ ⟨a, n, c, r, he, h, hb⟩ => ⟨a, n, c, r, he, h.res, hb⟩

end Go.Proofs.Ytobdibhadgfldaa
