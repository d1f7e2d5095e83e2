/- Parts: D7. -/
import Derived.Test.YtjhbglklcddekaaGreatDoorP6
set_option linter.all false
set_option maxRecDepth 100000
set_option maxHeartbeats 16000000
namespace Go.Proofs.YtjhbglklcddekaaGreatDoor
open Go.RowKit
section
def D.scalar : D → Bool
  | .agg _ => false
  | _ => true
theorem RepD.oneOf {w : World} {M : Nat → Nat → Prop} {x : D} {v : Value} (h : RepD w M x v) (hs : x.scalar = true) : v.oneCell' = true := by
  cases x with
  | agg cs => cases hs
  | int k n => simp only [RepD] at h; subst h; rfl
  | bool b => simp only [RepD] at h; subst h; rfl
  | str s => simp only [RepD] at h; subst h; rfl
  | raw u => exact h.1 ▸ h.2
  | nil k => simp only [RepD] at h; subst h; rfl
  | list sz xs => simp only [RepD] at h; obtain ⟨_, _, _, rfl, _⟩ := h; rfl
  | ref cs off => simp only [RepD] at h; obtain ⟨_, _, _, rfl, _⟩ := h; rfl
  | clo fn f c => simp only [RepD] at h; obtain ⟨_, _, rfl, _⟩ := h; rfl
  | map ks vs => simp only [RepD] at h; obtain ⟨_, _, _, rfl, _⟩ := h; rfl
section
variable {E : Set} {S : Sd} {dst : Option Tmp} {ty : TypeId} {pos : String} {af : Array Edge} {gd : Option (Nat × Bool)}
theorem q_move {x : Operand} {v : V} (hx : S.ev x = some v) (ho : okOp x = true) : Swift E S ⟨dst, .move x, ty, pos, af, gd⟩ v := Swift.mk fun β a w h =>
  ⟨a.eval x, fun w' _ => rfl, h.ev hx ho⟩
theorem q_assign {x : Operand} {v : V} (hx : S.ev x = some v) (ho : okOp x = true) : Swift E S ⟨dst, .assign x, ty, pos, af, gd⟩ v := Swift.mk fun β a w h =>
  ⟨a.eval x, fun w' _ => rfl, h.ev hx ho⟩
theorem q_nil {e sz : Nat} [TSlice E.P ty e sz] : Swift E S ⟨dst, .assign (.const (.slice none 0 0)), ty, pos, af, gd⟩ (.nils sz) := Swift.mk fun β a w h =>
  ⟨.slice none 0 0, fun w' _ => rfl, rfl⟩
theorem q_pick_t {c x y : Operand} {v : V} (hc : S.ev c = some (.d (.bool true))) (hk : okOp c = true) (hx : S.ev x = some v) (ho : okOp x = true) : Swift E S ⟨dst, .pick c x y, ty, pos, af, gd⟩ v := Swift.mk fun β a w h => by
  have h1 : a.eval c = .bool true := h.ev hc hk
  exact ⟨a.eval x, fun w' _ => by simp [execOp, h1, asBool], h.ev hx ho⟩
theorem q_pick_f {c x y : Operand} {v : V} (hc : S.ev c = some (.d (.bool false))) (hk : okOp c = true) (hx : S.ev y = some v) (ho : okOp y = true) : Swift E S ⟨dst, .pick c x y, ty, pos, af, gd⟩ v := Swift.mk fun β a w h => by
  have h1 : a.eval c = .bool false := h.ev hc hk
  exact ⟨a.eval y, fun w' _ => by simp [execOp, h1, asBool], h.ev hx ho⟩
theorem StB.boxAt {C : Ctx} {β : Nat → Hd} {a : Act} {w : World} (h : StB C β S a w) {n off : Nat} {cs : List V} {x : Operand} (hx : S.ev x = some (.ptr n off)) (hl : look n S.H = some (.box cs)) :
    ∃ (b : Nat) (vs : List Value) (t : TypeId), (β n).v = .pointer (some ⟨b, 0, none⟩) ∧ a.eval x = .pointer (some ⟨b, off, none⟩) ∧ w.heap[b]? = some (.cells vs.toArray t (0, 0)) ∧ RepL w (Mut C.M0 β S.H) β S.H cs vs := by
  have hok : okOp x = true := by
    cases x <;> first | rfl | skip
    simp only [Sd.ev, Option.some.injEq] at hx
    rename_i v
    unfold constV at hx
    split at hx <;> simp_all
  obtain ⟨b, h1, h2⟩ := h.ev hx hok
  obtain ⟨b', vs, t, h3, h4, h5⟩ := h.obs n _ hl
  rw [h1] at h3
  cases h3
  exact ⟨b, vs, t, h1, h2, h4, h5⟩
theorem box_cell {w : World} {b : Nat} {vs : List Value} {t : TypeId} (h : w.heap[b]? = some (.cells vs.toArray t (0, 0))) {o : Nat} {v : Value} (hv : vs[o]? = some v) : w.cell? ⟨b, o, none⟩ = some v := by
  simp [World.cell?, h, hv]
theorem grows_heap {w w' : World} (g : Grows w w') {b : Nat} {o : Obj} (h : w.heap[b]? = some o) : w'.heap[b]? = some o := (g.block b (Array.getElem?_eq_some_iff.1 h).1).trans h
theorem q_load_box {t : Nat} {x : Operand} {n off : Nat} {cs : List V} {v : V} [ht : TCell E.P t] (hx : S.ev x = some (.ptr n off)) (hl : look n S.H = some (.box cs)) (hc : cs[off]? = some v) : Quiet E S ⟨dst, .load t x, ty, pos, af, gd⟩ v := Quiet.mk fun β a w h => by
  obtain ⟨b, vs, t', h1, h2, h3, h4⟩ := h.boxAt hx hl
  obtain ⟨u, h5, h6⟩ := h4.get hc
  refine ⟨u, fun w' g => ?_, h6⟩
  have := loadAt_cell ht (box_cell (grows_heap g h3) h5)
  simp [execOp, h2, this]
theorem q_load_boxs {t n off m : Nat} {x : Operand} {cs vs' : List V} {ds : List D} [ht : TAgg E.P t m] (hx : S.ev x = some (.ptr n off)) (hl : look n S.H = some (.box cs)) (hc : Cut cs off m vs') (hd : ToDs S.H vs' ds)
    (hn : ds.all D.scalar = true) : Quiet E S ⟨dst, .load t x, ty, pos, af, gd⟩ (.d (.agg ds)) := Quiet.mk fun β a w h => by
  obtain ⟨b, vs, t', h1, h2, h3, h4⟩ := h.boxAt hx hl
  obtain ⟨h5, h6⟩ := hc.eq
  have hlen := h4.length
  have hrep : ∀ (k : Nat) (vs' : List V) (ds : List D), ToDs S.H vs' ds → (ds.all D.scalar = true) → (∀ i v, vs'[i]? = some v → cs[k + i]? = some v) → RepA w (Mut E.C.M0 β S.H) ds ((vs.drop k).take vs'.length) := by
    intro k vs' ds hd
    induction hd generalizing k with
    | nil => intro _ _; simp [RepA]
    | @cons v x vs1 xs1 h7 h8 ih =>
      intro hn hcs
      simp only [List.all_cons, Bool.and_eq_true] at hn
      obtain ⟨u, h9, h10⟩ := h4.get (hcs 0 v rfl)
      have h11 := h7.rep h h10
      have h12 := ih (k + 1) hn.2 (fun i v hv => by rw [show k + 1 + i = k + (i + 1) by omega]; exact hcs (i + 1) v (by simpa using hv))
      have hk : k < vs.length := (List.getElem?_eq_some_iff.1 (by simpa using h9)).1
      refine ⟨u, (vs.drop (k + 1)).take vs1.length, ?_, ?_, h11, h12⟩
      · rw [List.drop_eq_getElem_cons hk, List.length_cons, List.take_succ_cons]
        simp only [Nat.add_zero, List.getElem?_eq_getElem hk, Option.some.injEq] at h9
        rw [h9]
      · exact h11.oneOf hn.1
  have h7 := hrep off vs' ds hd hn (fun i v hv => by
    rw [h5, List.getElem?_take, List.getElem?_drop] at hv
    split at hv
    · exact hv
    · cases hv)
  have hle : off + m ≤ vs.length ∨ m = 0 := by
    rw [h5] at h6
    simp at h6
    omega
  refine ⟨.agg ((vs.drop off).take vs'.length).toArray, fun w' g => ?_, ⟨_, rfl, h7⟩⟩
  have := loadAt_agg (vs := (vs.drop off).take vs'.length) (w := w') (b := b) (o := off) ht (by simp; omega) (fun j v hv => box_cell (grows_heap g h3) (by
    rw [List.getElem?_take, List.getElem?_drop] at hv
    split at hv
    · exact hv
    · cases hv))
  simp [execOp, h2, this]
theorem StB.refAt {C : Ctx} {β : Nat → Hd} {a : Act} {w : World} (h : StB C β S a w) {off : Nat} {cs : List D} {x : Operand} (hx : S.ev x = some (.d (.ref cs off))) :
    ∃ (b o : Nat) (vs : List Value), a.eval x = .pointer (some ⟨b, o + off, none⟩) ∧ RepA w (Mut C.M0 β S.H) cs vs ∧ Reads w (Mut C.M0 β S.H) (some ⟨b, o, none⟩) vs := by
  have hok : okOp x = true := by
    cases x <;> first | rfl | skip
    simp only [Sd.ev, Option.some.injEq] at hx
    rename_i v
    unfold constV at hx
    split at hx <;> simp_all
  exact h.ev hx hok
theorem reads_later {w w' : World} {M : Nat → Nat → Prop} {b o : Nat} {vs : List Value} (h : Reads w M (some ⟨b, o, none⟩) vs) (g : Grows w w') {j : Nat} {v : Value} (hj : vs[j]? = some v) : w'.cell? ⟨b, o + j, none⟩ = some v := by
  obtain ⟨b', o', e, _, hc⟩ := h j v hj
  cases e
  exact (g.cell (p := ⟨b, o + j, none⟩) (World.block_lt_of_cell? w ⟨b, o + j, none⟩ hc)).trans hc
theorem q_load_ref {t : Nat} {x : Operand} {off : Nat} {cs : List D} {v : D} [ht : TCell E.P t] (hx : S.ev x = some (.d (.ref cs off))) (hc : cs[off]? = some v) : Quiet E S ⟨dst, .load t x, ty, pos, af, gd⟩ (.d v) := Quiet.mk fun β a w h => by
  obtain ⟨b, o, vs, h1, h2, h3⟩ := h.refAt hx
  obtain ⟨u, h4, _, h5⟩ := h2.get hc
  refine ⟨u, fun w' g => ?_, h5⟩
  have := loadAt_cell ht (reads_later h3 g h4)
  simp [execOp, h1, this]
theorem q_load_refs {t off m : Nat} {x : Operand} {cs ds : List D} [ht : TAgg E.P t m] (hx : S.ev x = some (.d (.ref cs off))) (hc : Cut cs off m ds) : Quiet E S ⟨dst, .load t x, ty, pos, af, gd⟩ (.d (.agg ds)) := Quiet.mk fun β a w h => by
  obtain ⟨b, o, vs, h1, h2, h3⟩ := h.refAt hx
  obtain ⟨h5, h6⟩ := hc.eq
  have h7 : RepA w (Mut E.C.M0 β S.H) ds ((vs.drop off).take m) := by rw [h5]; exact (h2.drop off).take m
  refine ⟨.agg ((vs.drop off).take m).toArray, fun w' g => ?_, ⟨_, rfl, h7⟩⟩
  have := loadAt_agg (vs := (vs.drop off).take m) (w := w') (b := b) (o := o + off) ht (by rw [h7.length]; exact h6) (fun j v hv => by
    rw [List.getElem?_take, List.getElem?_drop] at hv
    split at hv
    · rw [Nat.add_assoc]; exact reads_later h3 g hv
    · cases hv)
  simp [execOp, h1, this]
theorem run_fieldAt {P : Program} {s f off ft : Nat} (h : TField P s f off ft) (w : World) (b o : Nat) : (Instr.fieldAt s (.pointer (some ⟨b, o, none⟩)) f).run P w = .ok (.pointer (some ⟨b, o + off, none⟩)) w := by
  obtain ⟨fs, fd, i, hu, hf, h1, h2, hi, h3⟩ := field_parts h
  simp [Instr.fieldAt, Instr.sureAddr, run_underlying hu, hf, fieldPlace, h2, run_size hi, h3, add_flat, h1]
theorem q_field_box {s f off' ft n off : Nat} {x : Operand} [ht : TField E.P s f off' ft] (hx : S.ev x = some (.ptr n off)) : Swift E S ⟨dst, .fieldAddr s x f, ty, pos, af, gd⟩ (.ptr n (off + off')) := Swift.mk fun β a w h => by
  have hok : okOp x = true := by
    cases x <;> first | rfl | skip
    simp only [Sd.ev, Option.some.injEq] at hx
    rename_i v
    unfold constV at hx
    split at hx <;> simp_all
  obtain ⟨b, h1, h2⟩ := h.ev hx hok
  exact ⟨.pointer (some ⟨b, off + off', none⟩), fun w' _ => by simp [execOp, h2, run_fieldAt ht], b, h1, rfl⟩
theorem q_field_ref {s f off' ft off : Nat} {cs : List D} {x : Operand} [ht : TField E.P s f off' ft] (hx : S.ev x = some (.d (.ref cs off))) : Swift E S ⟨dst, .fieldAddr s x f, ty, pos, af, gd⟩ (.d (.ref cs (off + off'))) := Swift.mk fun β a w h => by
  obtain ⟨b, o, vs, h1, h2, h3⟩ := h.refAt hx
  exact ⟨.pointer (some ⟨b, o + (off + off'), none⟩), fun w' _ => by simp [execOp, h1, run_fieldAt ht, Nat.add_assoc], b, o, vs, rfl, h2, h3⟩
theorem q_nil_box {n off : Nat} {x : Operand} (hx : S.ev x = some (.ptr n off)) : Swift E S ⟨dst, .nilCheck x, ty, pos, af, gd⟩ (.ptr n off) := Swift.mk fun β a w h => by
  have hok : okOp x = true := by
    cases x <;> first | rfl | skip
    simp only [Sd.ev, Option.some.injEq] at hx
    rename_i v
    unfold constV at hx
    split at hx <;> simp_all
  obtain ⟨b, h1, h2⟩ := h.ev hx hok
  exact ⟨a.eval x, fun w' _ => by simp [execOp, h2], b, h1, h2⟩
theorem q_nil_ref {off : Nat} {cs : List D} {x : Operand} (hx : S.ev x = some (.d (.ref cs off))) : Swift E S ⟨dst, .nilCheck x, ty, pos, af, gd⟩ (.d (.ref cs off)) := Swift.mk fun β a w h => by
  obtain ⟨b, o, vs, h1, h2, h3⟩ := h.refAt hx
  exact ⟨a.eval x, fun w' _ => by simp [execOp, h1], b, o, vs, h1, h2, h3⟩
def inK : IntKind → Int → Prop
  | .i8, n => -128 ≤ n ∧ n ≤ 127
  | .i16, n => -32768 ≤ n ∧ n ≤ 32767
  | .i32, n => -2147483648 ≤ n ∧ n ≤ 2147483647
  | .i64, n => -9223372036854775808 ≤ n ∧ n ≤ 9223372036854775807
  | .u8, n => 0 ≤ n ∧ n ≤ 255
  | .u16, n => 0 ≤ n ∧ n ≤ 65535
  | .u32, n => 0 ≤ n ∧ n ≤ 4294967295
  | .u64, n => 0 ≤ n ∧ n ≤ 18446744073709551615
theorem wrap_in {k : IntKind} {n : Int} (h : inK k n) : k.wrap n = n := by
  cases k
  · exact IntWalk.i8_in n h
  · exact IntWalk.i16_in n h
  · exact IntWalk.i32_in n h
  · exact IntWalk.i64_in n h
  · exact IntWalk.u8_in n h
  · exact IntWalk.u16_in n h
  · exact IntWalk.u32_in n h
  · exact IntWalk.u64_in n h
variable {xt yt : TypeId} {x y : Operand} {k : IntKind} {p q r : Int}
theorem bin_int {op : BinOp} {v : Value} {D : V} (hx : S.ev x = some (.d (.int k p))) (hy : S.ev y = some (.d (.int k q))) (hox : okOp x = true) (hoy : okOp y = true) (hne : op ≠ .shl ∧ op ≠ .shr)
    (hr : ∀ w, (binOp op xt (.int k p) (.int k q)).run E.P w = .ok v w) (hv : ∀ w M β H, RepV w M β H D v) : Swift E S ⟨dst, .binOp op xt x y yt, ty, pos, af, gd⟩ D := Swift.mk fun β a w h => by
  have h1 : a.eval x = .int k p := h.ev hx hox
  have h2 : a.eval y = .int k q := h.ev hy hoy
  refine ⟨v, fun w' _ => ?_, hv _ _ _ _⟩
  have hg : (eqGuard op xt x y (.int k p) (.int k q)).run E.P w' = .ok () w' := by
    unfold eqGuard
    cases op <;> rfl
  simp [execOp, h1, h2, hg, hr]
theorem run_arith {P : Program} {op : BinOp} (hop : op = .add ∨ op = .sub ∨ op = .mul) (w : World) : (binOp op xt (.int k p) (.int k q)).run P w = (Op.intArith op k p q).run P w := by
  rcases hop with rfl | rfl | rfl <;> simp [binOp]
theorem q_add (hx : S.ev x = some (.d (.int k p))) (hy : S.ev y = some (.d (.int k q))) (hox : okOp x = true) (hoy : okOp y = true) (hin : inK k (p + q)) : Swift E S ⟨dst, .binOp .add xt x y yt, ty, pos, af, gd⟩ (.d (.int k (p + q))) :=
  bin_int hx hy hox hoy (by simp) (v := .int k (p + q)) (fun w => by rw [run_arith (by simp)]; simp [Op.intArith, wrap_in hin]) (fun _ _ _ _ => rfl)
theorem q_add_w (hx : S.ev x = some (.d (.int k p))) (hy : S.ev y = some (.d (.int k q))) (hox : okOp x = true) (hoy : okOp y = true) : Swift E S ⟨dst, .binOp .add xt x y yt, ty, pos, af, gd⟩ (.d (.int k (k.wrap (p + q)))) :=
  bin_int hx hy hox hoy (by simp) (v := .int k (k.wrap (p + q))) (fun w => by rw [run_arith (by simp)]; simp [Op.intArith]) (fun _ _ _ _ => rfl)
theorem q_sub (hx : S.ev x = some (.d (.int k p))) (hy : S.ev y = some (.d (.int k q))) (hox : okOp x = true) (hoy : okOp y = true) (hin : inK k (p - q)) : Swift E S ⟨dst, .binOp .sub xt x y yt, ty, pos, af, gd⟩ (.d (.int k (p - q))) :=
  bin_int hx hy hox hoy (by simp) (v := .int k (p - q)) (fun w => by rw [run_arith (by simp)]; simp [Op.intArith, wrap_in hin]) (fun _ _ _ _ => rfl)
theorem q_sub_w (hx : S.ev x = some (.d (.int k p))) (hy : S.ev y = some (.d (.int k q))) (hox : okOp x = true) (hoy : okOp y = true) : Swift E S ⟨dst, .binOp .sub xt x y yt, ty, pos, af, gd⟩ (.d (.int k (k.wrap (p - q)))) :=
  bin_int hx hy hox hoy (by simp) (v := .int k (k.wrap (p - q))) (fun w => by rw [run_arith (by simp)]; simp [Op.intArith]) (fun _ _ _ _ => rfl)
theorem q_mul (hx : S.ev x = some (.d (.int k p))) (hy : S.ev y = some (.d (.int k q))) (hox : okOp x = true) (hoy : okOp y = true) (hin : inK k (p * q)) : Swift E S ⟨dst, .binOp .mul xt x y yt, ty, pos, af, gd⟩ (.d (.int k (p * q))) :=
  bin_int hx hy hox hoy (by simp) (v := .int k (p * q)) (fun w => by rw [run_arith (by simp)]; simp [Op.intArith, wrap_in hin]) (fun _ _ _ _ => rfl)
theorem q_mul_w (hx : S.ev x = some (.d (.int k p))) (hy : S.ev y = some (.d (.int k q))) (hox : okOp x = true) (hoy : okOp y = true) : Swift E S ⟨dst, .binOp .mul xt x y yt, ty, pos, af, gd⟩ (.d (.int k (k.wrap (p * q)))) :=
  bin_int hx hy hox hoy (by simp) (v := .int k (k.wrap (p * q))) (fun w => by rw [run_arith (by simp)]; simp [Op.intArith]) (fun _ _ _ _ => rfl)
theorem q_quo (hx : S.ev x = some (.d (.int k p))) (hy : S.ev y = some (.d (.int k q))) (hox : okOp x = true) (hoy : okOp y = true) (h0 : 0 ≤ p) (h1 : 1 ≤ q) (hin : inK k (p / q)) : Swift E S ⟨dst, .binOp .quo xt x y yt, ty, pos, af, gd⟩ (.d (.int k (p / q))) :=
  bin_int hx hy hox hoy (by simp) (v := .int k (p / q)) (fun w => by
    have h2 : ¬ q = 0 := by omega
    have h3 : p.tdiv q = p / q := Int.tdiv_eq_ediv_of_nonneg h0
    simp [binOp, Op.intDiv, h2, h3, wrap_in hin]) (fun _ _ _ _ => rfl)
theorem q_quo_w (hx : S.ev x = some (.d (.int k p))) (hy : S.ev y = some (.d (.int k q))) (hox : okOp x = true) (hoy : okOp y = true) (h1 : ¬ q = 0) : Swift E S ⟨dst, .binOp .quo xt x y yt, ty, pos, af, gd⟩ (.d (.int k (k.wrap (p.tdiv q)))) :=
  bin_int hx hy hox hoy (by simp) (v := .int k (k.wrap (p.tdiv q))) (fun w => by simp [binOp, Op.intDiv, h1]) (fun _ _ _ _ => rfl)
theorem q_rem (hx : S.ev x = some (.d (.int k p))) (hy : S.ev y = some (.d (.int k q))) (hox : okOp x = true) (hoy : okOp y = true) (h0 : 0 ≤ p) (h1 : 1 ≤ q) : Swift E S ⟨dst, .binOp .rem xt x y yt, ty, pos, af, gd⟩ (.d (.int k (p % q))) :=
  bin_int hx hy hox hoy (by simp) (v := .int k (p % q)) (fun w => by
    have h2 : ¬ q = 0 := by omega
    have h3 : p.tmod q = p % q := Int.tmod_eq_emod_of_nonneg h0
    simp [binOp, Op.intDiv, h2, h3]) (fun _ _ _ _ => rfl)
theorem q_rem_w (hx : S.ev x = some (.d (.int k p))) (hy : S.ev y = some (.d (.int k q))) (hox : okOp x = true) (hoy : okOp y = true) (h1 : ¬ q = 0) : Swift E S ⟨dst, .binOp .rem xt x y yt, ty, pos, af, gd⟩ (.d (.int k (p.tmod q))) :=
  bin_int hx hy hox hoy (by simp) (v := .int k (p.tmod q)) (fun w => by simp [binOp, Op.intDiv, h1]) (fun _ _ _ _ => rfl)
def cmp : BinOp → Int → Int → Prop
  | .lss, p, q => p < q
  | .leq, p, q => p ≤ q
  | .gtr, p, q => q < p
  | .geq, p, q => q ≤ p
  | .eql, p, q => p = q
  | .neq, p, q => ¬ p = q
  | _, _, _ => False
def isCmp : BinOp → Bool
  | .lss | .leq | .gtr | .geq | .eql | .neq => true
  | _ => false
theorem q_cmp {op : BinOp} (hop : isCmp op = true) (hx : S.ev x = some (.d (.int k p))) (hy : S.ev y = some (.d (.int k q))) (hox : okOp x = true) (hoy : okOp y = true) {b : Bool} (hb : (b = true) = cmp op p q) :
    Swift E S ⟨dst, .binOp op xt x y yt, ty, pos, af, gd⟩ (.d (.bool b)) :=
  bin_int hx hy hox hoy (by cases op <;> simp_all [isCmp]) (v := .bool b) (fun w => by
    have hd : ∀ (c : Prop) [Decidable c], (b = true) = c → decide c = b := fun c _ h => by cases b <;> simp_all
    cases op <;> simp [isCmp] at hop <;> simp only [cmp] at hb <;> simp [binOp, Op.intCmp]
    · exact (Bool.beq_eq_decide_eq p q).trans (hd _ hb)
    · rw [bne, Bool.beq_eq_decide_eq]
      have := hd _ hb
      rw [← this]
      by_cases h : p = q <;> simp [h]
    all_goals exact hd _ hb) (fun _ _ _ _ => rfl)
theorem q_cmp_t {op : BinOp} (hop : isCmp op = true) (hx : S.ev x = some (.d (.int k p))) (hy : S.ev y = some (.d (.int k q))) (hox : okOp x = true) (hoy : okOp y = true) (h : cmp op p q) : Swift E S ⟨dst, .binOp op xt x y yt, ty, pos, af, gd⟩ (.d (.bool true)) :=
  q_cmp hop hx hy hox hoy (propext ⟨fun _ => h, fun _ => rfl⟩)
theorem q_cmp_f {op : BinOp} (hop : isCmp op = true) (hx : S.ev x = some (.d (.int k p))) (hy : S.ev y = some (.d (.int k q))) (hox : okOp x = true) (hoy : okOp y = true) (h : ¬ cmp op p q) : Swift E S ⟨dst, .binOp op xt x y yt, ty, pos, af, gd⟩ (.d (.bool false)) :=
  q_cmp hop hx hy hox hoy (propext ⟨(fun h' => by cases h'), fun h' => absurd h' h⟩)
theorem tr_cmp {Q : Exit → Sd → Prop} {ops : Array Oper} {draw : Bool} {rest : Todo} {way : Way3} {op : BinOp} {d : Nat} (hop : isCmp op = true) (hx : S.ev x = some (.d (.int k p))) (hy : S.ev y = some (.d (.int k q))) (hox : okOp x = true) (hoy : okOp y = true) (hd : d < E.C.nt) {o : Oper}
    (ho : o = ⟨some d, .binOp op xt x y yt, ty, pos, af, gd⟩) (hg : S.gd ops o = some true) (h1 : cmp op p q → TR E draw ops Q rest (S.put d (.d (.bool true)))) (h2 : ¬ cmp op p q → TR E draw ops Q rest (S.put d (.d (.bool false)))) : TR E draw ops Q (.step o way rest) S := by
  subst ho
  by_cases h : cmp op p q
  · exact tr_still (q_cmp_t hop hx hy hox hoy h) rfl hd hg rfl (h1 h)
  · exact tr_still (q_cmp_f hop hx hy hox hoy h) rfl hd hg rfl (h2 h)
end
end
end Go.Proofs.YtjhbglklcddekaaGreatDoor
