/- Clone and Equal of bytes and acts, HasPrefix. -/
import Derived.Test.YtobdibhadgfldaaJW3
namespace Go.Proofs.Ytobdibhadgfldaa
open Go.RowKit

set_option maxHeartbeats 400000 in
theorem cloneB_any (a : Option Addr) (n c : Nat) (l : List UInt8) (hl : n ≤ 10000000) (w : World) (hs : Sl w w.heap.size a n c 1 (l.map bv)) :
    Calls Try.prog 12 #[.slice a n c] w fun e w' => ∃ a' c', e = .returned (.slice a' n c') ∧ w'.ownsRow w.heap.size 5 1 (.slice a' n c') n (l.map bv) ∧ Below w.heap.size w w' := by
  have hk := fun w => Lib.run_eql_slice_nil (P := Try.prog) w 22 5 a n c 0 0 Try.underlying22
  cases a with
  | none =>
    have hc := hs.nil rfl
    subst hc
    have hn : n = 0 := by have := hs.cap; omega
    subst hn
    have hx : l = [] := by have := hs.len; simpa using this
    subst hx
    go_enter Try.func12, Try.ntmps12
    go_wp2
    go_ret
    exact ⟨none, 0, rfl, World.ownsRow_nil _ _ _ _, Below.refl _ _⟩
  | some ad =>
    have ho := owns_new w [] 5 0 1 w.heap.size rfl (Nat.zero_le _) (Nat.le_refl _)
    go_enter Try.func12, Try.ntmps12
    go_wp2_with (at_builtin; go_must (refine app_own rfl (.tmp 5) (.tmp 6) 22 rfl Try.elB rfl ho rfl (hs.below ((Below.refl _ _).alloc (Nat.le_refl _) _) (Nat.le_refl _)) (oneCell_bytes _) (by omega) (by omega) (by simp) ?_))
    intro a' c' w' h1 _ h3
    go_wp2
    go_ret
    exact ⟨_, _, rfl, h1, ((Below.refl _ _).alloc (Nat.le_refl _) _).trans h3⟩

/-- The bytes that a list holds. -/
theorem bytes_inj {l m : List UInt8} (h : l.map bv = m.map bv) : l = m := by
  induction l generalizing m with
  | nil => cases m with
    | nil => rfl
    | cons y m => simp at h
  | cons x l ih => cases m with
    | nil => simp at h
    | cons y m =>
      simp only [List.map_cons, List.cons.injEq, bv, Value.int.injEq, true_and] at h
      have : x = y := by
        apply UInt8.toNat_inj.1
        have := h.1
        omega
      rw [this, ih h.2]

set_option maxHeartbeats 400000 in
theorem equal_any (a a2 : Option Addr) (n c n2 c2 : Nat) (l m : List UInt8) (w : World) (hs : Sl w w.heap.size a n c 1 (l.map bv)) (hs2 : Sl w w.heap.size a2 n2 c2 1 (m.map bv)) :
    Calls Try.prog 19 #[.slice a n c, .slice a2 n2 c2] w fun e w' => e = .returned (.bool (decide (l = m))) ∧ Below w.heap.size w w' := by
  have k1 := conv_bytes (P := Try.prog) hs 22 9 5 Try.underlying22 Try.underlying5 Try.underlying9
  have k2 := conv_bytes (P := Try.prog) hs2 22 9 5 Try.underlying22 Try.underlying5 Try.underlying9
  go_enter Try.func19, Try.ntmps19
  go_wp2
  go_ret
  exact ⟨congrArg (fun b => Ending.returned (.bool b)) (show (l == m) = decide (l = m) by by_cases h : l = m <;> simp [h]), Below.refl _ _⟩

/-- The cells of acts. -/
def avs (l : List J.Act) : List Value := l.flatMap av

theorem avs_length (l : List J.Act) : (avs l).length = l.length * 5 := by
  induction l with
  | nil => rfl
  | cons a l ih => simp [avs, av] at ih ⊢; omega

theorem avs_get (l : List J.Act) : ∀ (k : Nat) (h : k < l.length) (j : Nat) (x : Value), (av l[k])[j]? = some x → (avs l)[k * 5 + j]? = some x := by
  induction l with
  | nil => intro k h; exact absurd h (Nat.not_lt_zero _)
  | cons a l ih =>
    intro k h j x hx
    have e : avs (a :: l) = av a ++ avs l := rfl
    rw [e]
    cases k with
    | zero =>
      have hj : j < (av a).length := (List.getElem?_eq_some_iff.1 hx).1
      rw [Nat.zero_mul, Nat.zero_add, List.getElem?_append_left hj]
      exact hx
    | succ k =>
      rw [List.getElem?_append_right (by simp [av]; omega)]
      have := ih k (by simpa using h) j x (by simpa using hx)
      rw [← this]
      congr 1
      simp [av]
      omega

/-- The five cells of an act that is read. -/
theorem Sl.act {w : World} {B : Nat} {a : Option Addr} {n c : Nat} {l : List J.Act} (h : Sl w B a n c 5 (avs l)) (k : Nat) (hk : k < l.length) :
    ∃ b o, a = some ⟨b, o, none⟩ ∧ b < B ∧ w.cell? ⟨b, o + k * 5, none⟩ = some (.int .i32 l[k].t) ∧ w.cell? ⟨b, o + k * 5 + 1, none⟩ = some (.int .i64 l[k].n) ∧
      w.cell? ⟨b, o + k * 5 + 2, none⟩ = some (.int .u8 l[k].k) ∧ w.cell? ⟨b, o + k * 5 + 3, none⟩ = some (.int .i32 l[k].c) ∧ w.cell? ⟨b, o + k * 5 + 4, none⟩ = some (.int .i32 l[k].x) := by
  obtain ⟨b, o, rfl, hb, hc⟩ := h.rd.at (by rw [avs_length]; omega)
  refine ⟨b, o, rfl, hb, ?_, ?_, ?_, ?_, ?_⟩
  · exact hc _ _ (avs_get l k hk 0 _ rfl)
  · rw [Nat.add_assoc]; exact hc _ _ (avs_get l k hk 1 _ rfl)
  · rw [Nat.add_assoc]; exact hc _ _ (avs_get l k hk 2 _ rfl)
  · rw [Nat.add_assoc]; exact hc _ _ (avs_get l k hk 3 _ rfl)
  · rw [Nat.add_assoc]; exact hc _ _ (avs_get l k hk 4 _ rfl)

theorem avs_append (l m : List J.Act) : avs (l ++ m) = avs l ++ avs m := List.flatMap_append
theorem oneCell_acts (l : List J.Act) : ∀ u ∈ avs l, u.oneCell' = true := by
  intro u hu
  obtain ⟨x, _, hx⟩ := List.mem_flatMap.1 hu
  simp [av] at hx
  rcases hx with rfl | rfl | rfl | rfl | rfl <;> rfl
theorem Try.elA : Elem Try.prog 24 44 5 32 := elem_mk (z := .agg #[.int .i32 0, .int .i64 0, .int .u8 0, .int .i32 0, .int .i32 0]) (by kernel_rfl) Try.underlying24 rfl (by decide)

set_option maxHeartbeats 400000 in
theorem comms_any (a : Option Addr) (c : Nat) (l : List J.Act) (hl : l.length ≤ 10000000) (w : World) (hs : Sl w w.heap.size a l.length c 5 (avs l)) :
    Calls Try.prog 22 #[.slice a l.length c] w fun e w' => ∃ a' c', e = .returned (.slice a' (J.comms l).length c') ∧ Sl w' w'.heap.size a' (J.comms l).length c' 5 (avs (J.comms l)) ∧ Below w.heap.size w w' := by
  go_enter Try.func22, Try.ntmps22
  go_wp2
  go_loopw [3, 5, 8] (fun v _ i wr => ∃ k va vc, k ≤ l.length ∧ i = .int .i64 (k : Nat) ∧ v = .slice va (J.comms (l.take k)).length vc ∧ wr.ownsRow w.heap.size 44 5 (.slice va (J.comms (l.take k)).length vc) (J.comms (l.take k)).length (avs (J.comms (l.take k))) ∧ Below w.heap.size w wr) (fun _ _ i _ => l.length - (intOf i).toNat)
  case atStart => exact ⟨0, none, 0, Nat.zero_le _, rfl, rfl, World.ownsRow_nil _ _ _ _, Below.refl _ _⟩
  case round =>
    obtain ⟨k, va, vc, hk, rfl, rfl, hown, hbel⟩ := hrel
    have hle := J.comms_le l k
    by_cases hlt : k < l.length
    · obtain ⟨b, o, rfl, hb, c0, c1, c2, c3, c4⟩ := (hs.below hbel (Nat.le_refl _)).act k hlt
      have hz := hbel.size
      by_cases h8 : (l[k].k == 8) = true
      · have hy := Lib.hid (J.comms_yes l k hlt h8)
        have hsn := sl_new (wr.alloc (.cells (av l[k]).toArray 44)) (avs [l[k]]) 44 1 5 rfl (by unfold maxLen; omega)
        rw [World.size_alloc] at hsn
        go_wp2_with (at_builtin; go_must (refine app_own rfl (.tmp 15) (.tmp 17) 24 rfl Try.elA rfl ((hown.alloc _).alloc _) rfl hsn (oneCell_acts [l[k]]) (by omega) (by omega) (by simp; omega) ?_))
        intro a' c' w' h1 _ h3
        have hy' := hy.out
        have h4 : w'.ownsRow w.heap.size 44 5 (.slice a' (J.comms (l.take (k + 1))).length c') (J.comms (l.take (k + 1))).length (avs (J.comms (l.take (k + 1)))) := by
          rw [hy', List.length_append, avs_append]; exact h1
        have h5 : (J.comms (l.take (k + 1))).length = (J.comms (l.take k)).length + 1 := by rw [hy', List.length_append]; rfl
        have H5 := Lib.hid h5
        clear hy hy' h1 h5 c0 c1 c2 c3 c4
        go_wp2
        go_roundw
        case rel => exact ⟨k + 1, a', c', by omega, by go_num, by rw [H5.out], h4, hbel.trans ((((Below.refl _ _).alloc hz _).alloc (by simp; omega) _).trans h3)⟩
        case measure => simp [intOf]; omega
      · have h8' : (l[k].k == 8) = false := by simpa using h8
        have hn := Lib.hid (J.comms_no l k hlt h8')
        clear h8
        go_wp2
        go_roundw
        case rel => exact ⟨k + 1, va, vc, by omega, by go_num, by rw [hn.out], by rw [hn.out]; exact (hown.alloc _), hbel.trans ((Below.refl _ _).alloc hz _)⟩
        case measure => simp [intOf]; omega
    · obtain rfl : k = l.length := by omega
      rw [List.take_length] at *
      go_wp2
      go_ret
      exact ⟨va, vc, rfl, Sl.of_owns hown, hbel⟩

set_option maxHeartbeats 400000 in
theorem rcomms_any (a : Option Addr) (c : Nat) (l : List J.Act) (hl : l.length ≤ 10000000) (w : World) (hs : Sl w w.heap.size a l.length c 5 (avs l)) :
    Calls Try.prog 23 #[.slice a l.length c] w fun e w' => ∃ a' c', e = .returned (.slice a' (J.comms l).length c') ∧ Sl w' w'.heap.size a' (J.comms l).length c' 5 (avs (J.comms l)) ∧ Below w.heap.size w w' := by
  go_enter Try.func23, Try.ntmps23
  go_wp2
  go_loopw [3, 4] (fun v i wr => ∃ k va vc, k ≤ l.length ∧ i = .int .i64 (k : Nat) ∧ v = .slice va (J.comms (l.take k)).length vc ∧ wr.ownsRow w.heap.size 44 5 (.slice va (J.comms (l.take k)).length vc) (J.comms (l.take k)).length (avs (J.comms (l.take k))) ∧ Below w.heap.size w wr) (fun _ i _ => l.length - (intOf i).toNat)
  case atStart => exact ⟨0, none, 0, Nat.zero_le _, rfl, rfl, World.ownsRow_nil _ _ _ _, Below.refl _ _⟩
  case round =>
    obtain ⟨k, va, vc, hk, rfl, rfl, hown, hbel⟩ := hrel
    have hle := J.comms_le l k
    by_cases hlt : k < l.length
    · obtain ⟨b, o, rfl, hb, c0, c1, c2, c3, c4⟩ := (hs.below hbel (Nat.le_refl _)).act k hlt
      have hz := hbel.size
      by_cases h8 : (l[k].k == 8) = true
      · have hy := Lib.hid (J.comms_yes l k hlt h8)
        have hsn := sl_new wr (avs [l[k]]) 44 1 5 rfl (by unfold maxLen; omega)
        go_wp2_with (at_builtin; go_must (refine app_own rfl (.tmp 17) (.tmp 22) 24 rfl Try.elA rfl (hown.alloc _) rfl hsn (oneCell_acts [l[k]]) (by omega) (by omega) (by simp; omega) ?_))
        intro a' c' w' h1 _ h3
        have hy' := hy.out
        have h4 : w'.ownsRow w.heap.size 44 5 (.slice a' (J.comms (l.take (k + 1))).length c') (J.comms (l.take (k + 1))).length (avs (J.comms (l.take (k + 1)))) := by
          rw [hy', List.length_append, avs_append]; exact h1
        have h5 : (J.comms (l.take (k + 1))).length = (J.comms (l.take k)).length + 1 := by rw [hy', List.length_append]; rfl
        have H5 := Lib.hid h5
        clear hy hy' h1 h5 c0 c1 c2 c3 c4
        go_wp2
        go_roundw
        case rel => exact ⟨k + 1, a', c', by omega, by go_num, by rw [H5.out], h4, hbel.trans (((Below.refl _ _).alloc hz _).trans h3)⟩
        case measure => simp [intOf]; omega
      · have h8' : (l[k].k == 8) = false := by simpa using h8
        have hn := Lib.hid (J.comms_no l k hlt h8')
        clear h8
        go_wp2
        go_roundw
        case rel => exact ⟨k + 1, va, vc, by omega, by go_num, by rw [hn.out], by rw [hn.out]; exact hown, hbel⟩
        case measure => simp [intOf]; omega
    · obtain rfl : k = l.length := by omega
      rw [List.take_length] at *
      go_wp2
      go_ret
      exact ⟨va, vc, rfl, Sl.of_owns hown, hbel⟩

set_option maxHeartbeats 400000 in
theorem cloneA_any (a : Option Addr) (n c : Nat) (l : List J.Act) (hl : n ≤ 10000000) (w : World) (hs : Sl w w.heap.size a n c 5 (avs l)) :
    Calls Try.prog 20 #[.slice a n c] w fun e w' => ∃ a' c', e = .returned (.slice a' n c') ∧ w'.ownsRow w.heap.size 44 5 (.slice a' n c') n (avs l) ∧ Below w.heap.size w w' := by
  have hk := fun w => Lib.run_eql_slice_nil (P := Try.prog) w 24 44 a n c 0 0 Try.underlying24
  cases a with
  | none =>
    have hc := hs.nil rfl
    subst hc
    have hn : n = 0 := by have := hs.cap; omega
    subst hn
    have hx : l = [] := List.eq_nil_of_length_eq_zero (by have := hs.len; rw [avs_length] at this; omega)
    subst hx
    go_enter Try.func20, Try.ntmps20
    go_wp2
    go_ret
    exact ⟨none, 0, rfl, World.ownsRow_nil _ _ _ _, Below.refl _ _⟩
  | some ad =>
    have ho := owns_new w [] 44 0 5 w.heap.size rfl (Nat.zero_le _) (Nat.le_refl _)
    go_enter Try.func20, Try.ntmps20
    go_wp2_with (at_builtin; go_must (refine app_own rfl (.tmp 5) (.tmp 6) 24 rfl Try.elA rfl ho rfl (hs.below ((Below.refl _ _).alloc (Nat.le_refl _) _) (Nat.le_refl _)) (oneCell_acts _) (by omega) (by omega) (by simp) ?_))
    intro a' c' w' h1 _ h3
    go_wp2
    go_ret
    exact ⟨_, _, rfl, h1, ((Below.refl _ _).alloc (Nat.le_refl _) _).trans h3⟩

theorem neq_act (x y : J.Act) (w : World) : (binOp .neq 44 (.agg #[.int .i32 x.t, .int .i64 x.n, .int .u8 x.k, .int .i32 x.c, .int .i32 x.x]) (.agg #[.int .i32 y.t, .int .i64 y.n, .int .u8 y.k, .int .i32 y.c, .int .i32 y.x])).run Try.prog w = .ok (.bool (!decide (x = y))) w := by
  have hp : Try.prog.stoodInHeld 44 = false := by kernel_rfl
  obtain ⟨t, n, k, c, x⟩ := x
  obtain ⟨t', n', k', c', x'⟩ := y
  go_simp
  (repeat' split) <;> simp_all

/-- The place of the first difference, and what it is worth. -/
def DifferOf (l m : List J.Act) (w : World) (e : Ending) (w' : World) : Prop := ∃ r : Int, e = .returned (.int .i64 r) ∧ (r == -1) = decide (l = m) ∧ Below w.heap.size w w'

set_option maxHeartbeats 400000 in
theorem differ_any (a a2 : Option Addr) (c c2 : Nat) (l m : List J.Act) (hl : l.length ≤ 10000000) (hm : m.length ≤ 10000000) (w : World) (hs : Sl w w.heap.size a l.length c 5 (avs l)) (hs2 : Sl w w.heap.size a2 m.length c2 5 (avs m)) :
    Calls Try.prog 33 #[.slice a l.length c, .slice a2 m.length c2] w (DifferOf l m w) := by
  go_enter Try.func33, Try.ntmps33
  go_wp2
  go_loopw [5] (fun i wr => ∃ k, k ≤ l.length ∧ k ≤ m.length ∧ i = .int .i64 (k : Nat) ∧ l.take k = m.take k ∧ Below w.heap.size w wr) (fun i _ => l.length - (intOf i).toNat)
  case atStart => exact ⟨0, Nat.zero_le _, Nat.zero_le _, rfl, rfl, Below.refl _ _⟩
  case round =>
    obtain ⟨k, hk, hkm, rfl, heq, hbel⟩ := hrel
    have HE := Lib.hid heq
    clear heq
    by_cases hlt : k < l.length
    · obtain ⟨b, o, rfl, hb, c0, c1, c2, c3, c4⟩ := (hs.below hbel (Nat.le_refl _)).act k hlt
      by_cases hlt2 : k < m.length
      · obtain ⟨b2, o2, rfl, hb2, e0, e1, e2, e3, e4⟩ := (hs2.below hbel (Nat.le_refl _)).act k hlt2
        have g1 : decide (m.length ≤ k) = false := by simp; omega
        have g2 : (k : Int) < l.length := by omega
        have g3 : (k : Int) < m.length := by omega
        have g4 := fun w => neq_act l[k] m[k] w
        by_cases heq : l[k] = m[k]
        · have g5 : decide (l[k] = m[k]) = true := by simpa using heq
          have HS : Hid (l.take (k + 1) = m.take (k + 1)) := by
            show l.take (k + 1) = m.take (k + 1)
            rw [List.take_succ_eq_append_getElem hlt, List.take_succ_eq_append_getElem hlt2, HE.out, heq]
          clear heq
          go_wp2_with fail
          go_quiet (fail)
          go_wp2
          go_roundw
          case rel => exact ⟨k + 1, by omega, by omega, by go_num, HS.out, below_drewN hbel _⟩
          case measure => simp [intOf]; omega
        · have g5 : decide (l[k] = m[k]) = false := by simpa using heq
          have HN : Hid (l ≠ m) := by intro h; subst h; exact heq rfl
          clear heq
          go_wp2_with fail
          go_quiet (fail)
          go_wp2
          go_ret
          exact ⟨(k : Int), rfl, by rw [decide_eq_false HN.out]; simp, below_drewN hbel _⟩
      · have HN : Hid (l ≠ m) := by intro h; subst h; exact hlt2 hlt
        have g1 : decide (m.length ≤ k) = true := by simp; omega
        have g3 : (m.length : Int) ≤ k := by omega
        go_wp2_with fail
        go_quiet (fail)
        go_wp2
        go_ret
        exact ⟨(k : Int), rfl, by rw [decide_eq_false HN.out]; simp, below_drewN hbel _⟩
    · obtain rfl : k = l.length := by omega
      by_cases hlt2 : l.length < m.length
      · have HN : Hid (l ≠ m) := by intro h; subst h; omega
        go_wp2
        go_ret
        exact ⟨(l.length : Int), rfl, by rw [decide_eq_false HN.out]; simp, hbel⟩
      · have HN : Hid (l = m) := by
          have := HE.out
          rw [List.take_length, show l.length = m.length by omega, List.take_length] at this
          exact this
        go_wp2
        go_ret
        exact ⟨-1, rfl, by rw [decide_eq_true HN.out]; rfl, hbel⟩

set_option maxHeartbeats 400000 in
theorem same_any (a a2 : Option Addr) (c c2 n n2 : Nat) (l m : List J.Act) (hl : l.length ≤ 10000000) (hm : m.length ≤ 10000000) (w : World) (hs : Sl w w.heap.size a n c 5 (avs l)) (hs2 : Sl w w.heap.size a2 n2 c2 5 (avs m)) :
    Calls Try.prog 16 #[.slice a n c, .slice a2 n2 c2] w fun e w' => e = .returned (.bool (decide (l = m))) ∧ Below w.heap.size w w' := by
  obtain rfl : n = l.length := by have := hs.len; rw [avs_length] at this; omega
  obtain rfl : n2 = m.length := by have := hs2.len; rw [avs_length] at this; omega
  go_enter Try.func16, Try.ntmps16
  go_wp2_with fail
  refine (differ_any a a2 c c2 l m hl hm w hs hs2).mono ?_
  rintro e w' ⟨r, rfl, hr, hb⟩
  go_wp2
  go_ret
  exact ⟨rfl, hb⟩

end Go.Proofs.Ytobdibhadgfldaa
