/- Parts: D7, D8. -/
import Derived.Test.YtjhbglklcddekaaGreatDoorQ5
set_option linter.all false
set_option maxRecDepth 100000
set_option maxHeartbeats 16000000
namespace Go.Proofs.YtjhbglklcddekaaGreatDoor
open Go.RowKit
section
def D.scalar : D → Bool
  | .agg _ => false
  | _ => true
theorem RepD.oneOf {w : World} {M : Nat → Nat → Prop} {x : D} {v : Value} (h : RepD w M x v) (hs : x.scalar = true) : v.oneCell' = true := by
  cases x with
  | agg cs => cases hs
  | int k n => simp only [RepD] at h; subst h; rfl
  | bool b => simp only [RepD] at h; subst h; rfl
  | str s => simp only [RepD] at h; subst h; rfl
  | raw u => exact h.1 ▸ h.2
  | nil k => simp only [RepD] at h; subst h; rfl
  | list sz xs => simp only [RepD] at h; obtain ⟨_, _, _, rfl, _⟩ := h; rfl
  | ref cs off => simp only [RepD] at h; obtain ⟨_, _, _, rfl, _⟩ := h; rfl
  | clo fn f c => simp only [RepD] at h; obtain ⟨_, _, rfl, _⟩ := h; rfl
  | map ks vs => simp only [RepD] at h; obtain ⟨_, _, _, rfl, _⟩ := h; rfl
section
variable {E : Set} {S : Sd} {dst : Option Tmp} {ty : TypeId} {pos : String} {af : Array Edge} {gd : Option (Nat × Bool)}
theorem q_move {x : Operand} {v : V} (hx : S.ev x = some v) (ho : okOp x = true) : Swift E S ⟨dst, .move x, ty, pos, af, gd⟩ v := Swift.mk fun β a w h =>
  ⟨a.eval x, fun w' _ => rfl, h.ev hx ho⟩
theorem q_assign {x : Operand} {v : V} (hx : S.ev x = some v) (ho : okOp x = true) : Swift E S ⟨dst, .assign x, ty, pos, af, gd⟩ v := Swift.mk fun β a w h =>
  ⟨a.eval x, fun w' _ => rfl, h.ev hx ho⟩
theorem q_nil {e sz : Nat} [TSlice E.P ty e sz] : Swift E S ⟨dst, .assign (.const (.slice none 0 0)), ty, pos, af, gd⟩ (.nils sz) := Swift.mk fun β a w h =>
  ⟨.slice none 0 0, fun w' _ => rfl, rfl⟩
theorem q_pick_t {c x y : Operand} {v : V} (hc : S.ev c = some (.d (.bool true))) (hk : okOp c = true) (hx : S.ev x = some v) (ho : okOp x = true) : Swift E S ⟨dst, .pick c x y, ty, pos, af, gd⟩ v := Swift.mk fun β a w h => by
  have h1 : a.eval c = .bool true := h.ev hc hk
  exact ⟨a.eval x, fun w' _ => by simp [execOp, h1, asBool], h.ev hx ho⟩
theorem q_pick_f {c x y : Operand} {v : V} (hc : S.ev c = some (.d (.bool false))) (hk : okOp c = true) (hx : S.ev y = some v) (ho : okOp y = true) : Swift E S ⟨dst, .pick c x y, ty, pos, af, gd⟩ v := Swift.mk fun β a w h => by
  have h1 : a.eval c = .bool false := h.ev hc hk
  exact ⟨a.eval y, fun w' _ => by simp [execOp, h1, asBool], h.ev hx ho⟩
theorem StB.boxAt {C : Ctx} {β : Nat → Hd} {a : Act} {w : World} (h : StB C β S a w) {n off : Nat} {cs : List V} {x : Operand} (hx : S.ev x = some (.ptr n off)) (hl : look n S.H = some (.box cs)) :
    ∃ (b : Nat) (vs : List Value) (t : TypeId), (β n).v = .pointer (some ⟨b, 0, none⟩) ∧ a.eval x = .pointer (some ⟨b, off, none⟩) ∧ w.heap[b]? = some (.cells vs.toArray t (0, 0)) ∧ RepL w (Mut C.M0 β S.H) β S.H cs vs := by
  have hok : okOp x = true := by
    cases x <;> first | rfl | skip
    simp only [Sd.ev, Option.some.injEq] at hx
    rename_i v
    unfold constV at hx
    split at hx <;> simp_all
  obtain ⟨b, h1, h2⟩ := h.ev hx hok
  obtain ⟨b', vs, t, h3, h4, h5⟩ := h.obs n _ hl
  rw [h1] at h3
  cases h3
  exact ⟨b, vs, t, h1, h2, h4, h5⟩
theorem box_cell {w : World} {b : Nat} {vs : List Value} {t : TypeId} (h : w.heap[b]? = some (.cells vs.toArray t (0, 0))) {o : Nat} {v : Value} (hv : vs[o]? = some v) : w.cell? ⟨b, o, none⟩ = some v := by
  simp [World.cell?, h, hv]
theorem grows_heap {w w' : World} (g : Grows w w') {b : Nat} {o : Obj} (h : w.heap[b]? = some o) : w'.heap[b]? = some o := (g.block b (Array.getElem?_eq_some_iff.1 h).1).trans h
theorem q_load_box {t : Nat} {x : Operand} {n off : Nat} {cs : List V} {v : V} [ht : TCell E.P t] (hx : S.ev x = some (.ptr n off)) (hl : look n S.H = some (.box cs)) (hc : cs[off]? = some v) : Quiet E S ⟨dst, .load t x, ty, pos, af, gd⟩ v := Quiet.mk fun β a w h => by
  obtain ⟨b, vs, t', h1, h2, h3, h4⟩ := h.boxAt hx hl
  obtain ⟨u, h5, h6⟩ := h4.get hc
  refine ⟨u, fun w' g => ?_, h6⟩
  have := loadAt_cell ht (box_cell (grows_heap g h3) h5)
  simp [execOp, h2, this]
theorem q_load_boxs {t n off m : Nat} {x : Operand} {cs vs' : List V} {ds : List D} [ht : TAgg E.P t m] (hx : S.ev x = some (.ptr n off)) (hl : look n S.H = some (.box cs)) (hc : Cut cs off m vs') (hd : ToDs S.H vs' ds)
    (hn : ds.all D.scalar = true) : Quiet E S ⟨dst, .load t x, ty, pos, af, gd⟩ (.d (.agg ds)) := Quiet.mk fun β a w h => by
  obtain ⟨b, vs, t', h1, h2, h3, h4⟩ := h.boxAt hx hl
  obtain ⟨h5, h6⟩ := hc.eq
  have hlen := h4.length
  have hrep : ∀ (k : Nat) (vs' : List V) (ds : List D), ToDs S.H vs' ds → (ds.all D.scalar = true) → (∀ i v, vs'[i]? = some v → cs[k + i]? = some v) → RepA w (Mut E.C.M0 β S.H) ds ((vs.drop k).take vs'.length) := by
    intro k vs' ds hd
    induction hd generalizing k with
    | nil => intro _ _; simp [RepA]
    | @cons v x vs1 xs1 h7 h8 ih =>
      intro hn hcs
      simp only [List.all_cons, Bool.and_eq_true] at hn
      obtain ⟨u, h9, h10⟩ := h4.get (hcs 0 v rfl)
      have h11 := h7.rep h h10
      have h12 := ih (k + 1) hn.2 (fun i v hv => by rw [show k + 1 + i = k + (i + 1) by omega]; exact hcs (i + 1) v (by simpa using hv))
      have hk : k < vs.length := (List.getElem?_eq_some_iff.1 (by simpa using h9)).1
      refine ⟨u, (vs.drop (k + 1)).take vs1.length, ?_, ?_, h11, h12⟩
      · rw [List.drop_eq_getElem_cons hk, List.length_cons, List.take_succ_cons]
        simp only [Nat.add_zero, List.getElem?_eq_getElem hk, Option.some.injEq] at h9
        rw [h9]
      · exact h11.oneOf hn.1
  have h7 := hrep off vs' ds hd hn (fun i v hv => by
    rw [h5, List.getElem?_take, List.getElem?_drop] at hv
    split at hv
    · exact hv
    · cases hv)
  have hle : off + m ≤ vs.length ∨ m = 0 := by
    rw [h5] at h6
    simp at h6
    omega
  refine ⟨.agg ((vs.drop off).take vs'.length).toArray, fun w' g => ?_, ⟨_, rfl, h7⟩⟩
  have := loadAt_agg (vs := (vs.drop off).take vs'.length) (w := w') (b := b) (o := off) ht (by simp; omega) (fun j v hv => box_cell (grows_heap g h3) (by
    rw [List.getElem?_take, List.getElem?_drop] at hv
    split at hv
    · exact hv
    · cases hv))
  simp [execOp, h2, this]
theorem StB.refAt {C : Ctx} {β : Nat → Hd} {a : Act} {w : World} (h : StB C β S a w) {off : Nat} {cs : List D} {x : Operand} (hx : S.ev x = some (.d (.ref cs off))) :
    ∃ (b o : Nat) (vs : List Value), a.eval x = .pointer (some ⟨b, o + off, none⟩) ∧ RepA w (Mut C.M0 β S.H) cs vs ∧ Reads w (Mut C.M0 β S.H) (some ⟨b, o, none⟩) vs := by
  have hok : okOp x = true := by
    cases x <;> first | rfl | skip
    simp only [Sd.ev, Option.some.injEq] at hx
    rename_i v
    unfold constV at hx
    split at hx <;> simp_all
  exact h.ev hx hok
theorem reads_later {w w' : World} {M : Nat → Nat → Prop} {b o : Nat} {vs : List Value} (h : Reads w M (some ⟨b, o, none⟩) vs) (g : Grows w w') {j : Nat} {v : Value} (hj : vs[j]? = some v) : w'.cell? ⟨b, o + j, none⟩ = some v := by
  obtain ⟨b', o', e, _, hc⟩ := h j v hj
  cases e
  exact (g.cell (p := ⟨b, o + j, none⟩) (World.block_lt_of_cell? w ⟨b, o + j, none⟩ hc)).trans hc
theorem q_load_ref {t : Nat} {x : Operand} {off : Nat} {cs : List D} {v : D} [ht : TCell E.P t] (hx : S.ev x = some (.d (.ref cs off))) (hc : cs[off]? = some v) : Quiet E S ⟨dst, .load t x, ty, pos, af, gd⟩ (.d v) := Quiet.mk fun β a w h => by
  obtain ⟨b, o, vs, h1, h2, h3⟩ := h.refAt hx
  obtain ⟨u, h4, _, h5⟩ := h2.get hc
  refine ⟨u, fun w' g => ?_, h5⟩
  have := loadAt_cell ht (reads_later h3 g h4)
  simp [execOp, h1, this]
theorem q_load_refs {t off m : Nat} {x : Operand} {cs ds : List D} [ht : TAgg E.P t m] (hx : S.ev x = some (.d (.ref cs off))) (hc : Cut cs off m ds) : Quiet E S ⟨dst, .load t x, ty, pos, af, gd⟩ (.d (.agg ds)) := Quiet.mk fun β a w h => by
  obtain ⟨b, o, vs, h1, h2, h3⟩ := h.refAt hx
  obtain ⟨h5, h6⟩ := hc.eq
  have h7 : RepA w (Mut E.C.M0 β S.H) ds ((vs.drop off).take m) := by rw [h5]; exact (h2.drop off).take m
  refine ⟨.agg ((vs.drop off).take m).toArray, fun w' g => ?_, ⟨_, rfl, h7⟩⟩
  have := loadAt_agg (vs := (vs.drop off).take m) (w := w') (b := b) (o := o + off) ht (by rw [h7.length]; exact h6) (fun j v hv => by
    rw [List.getElem?_take, List.getElem?_drop] at hv
    split at hv
    · rw [Nat.add_assoc]; exact reads_later h3 g hv
    · cases hv)
  simp [execOp, h1, this]
theorem run_fieldAt {P : Program} {s f off ft : Nat} (h : TField P s f off ft) (w : World) (b o : Nat) : (Instr.fieldAt s (.pointer (some ⟨b, o, none⟩)) f).run P w = .ok (.pointer (some ⟨b, o + off, none⟩)) w := by
  obtain ⟨fs, fd, i, hu, hf, h1, h2, hi, h3⟩ := field_parts h
  simp [Instr.fieldAt, Instr.sureAddr, run_underlying hu, hf, fieldPlace, h2, run_size hi, h3, add_flat, h1]
theorem q_field_box {s f off' ft n off : Nat} {x : Operand} [ht : TField E.P s f off' ft] (hx : S.ev x = some (.ptr n off)) : Swift E S ⟨dst, .fieldAddr s x f, ty, pos, af, gd⟩ (.ptr n (off + off')) := Swift.mk fun β a w h => by
  have hok : okOp x = true := by
    cases x <;> first | rfl | skip
    simp only [Sd.ev, Option.some.injEq] at hx
    rename_i v
    unfold constV at hx
    split at hx <;> simp_all
  obtain ⟨b, h1, h2⟩ := h.ev hx hok
  exact ⟨.pointer (some ⟨b, off + off', none⟩), fun w' _ => by simp [execOp, h2, run_fieldAt ht], b, h1, rfl⟩
theorem q_field_ref {s f off' ft off : Nat} {cs : List D} {x : Operand} [ht : TField E.P s f off' ft] (hx : S.ev x = some (.d (.ref cs off))) : Swift E S ⟨dst, .fieldAddr s x f, ty, pos, af, gd⟩ (.d (.ref cs (off + off'))) := Swift.mk fun β a w h => by
  obtain ⟨b, o, vs, h1, h2, h3⟩ := h.refAt hx
  exact ⟨.pointer (some ⟨b, o + (off + off'), none⟩), fun w' _ => by simp [execOp, h1, run_fieldAt ht, Nat.add_assoc], b, o, vs, rfl, h2, h3⟩
theorem q_nil_box {n off : Nat} {x : Operand} (hx : S.ev x = some (.ptr n off)) : Swift E S ⟨dst, .nilCheck x, ty, pos, af, gd⟩ (.ptr n off) := Swift.mk fun β a w h => by
  have hok : okOp x = true := by
    cases x <;> first | rfl | skip
    simp only [Sd.ev, Option.some.injEq] at hx
    rename_i v
    unfold constV at hx
    split at hx <;> simp_all
  obtain ⟨b, h1, h2⟩ := h.ev hx hok
  exact ⟨a.eval x, fun w' _ => by simp [execOp, h2], b, h1, h2⟩
theorem q_nil_ref {off : Nat} {cs : List D} {x : Operand} (hx : S.ev x = some (.d (.ref cs off))) : Swift E S ⟨dst, .nilCheck x, ty, pos, af, gd⟩ (.d (.ref cs off)) := Swift.mk fun β a w h => by
  obtain ⟨b, o, vs, h1, h2, h3⟩ := h.refAt hx
  exact ⟨a.eval x, fun w' _ => by simp [execOp, h1], b, o, vs, h1, h2, h3⟩
def inK : IntKind → Int → Prop
  | .i8, n => -128 ≤ n ∧ n ≤ 127
  | .i16, n => -32768 ≤ n ∧ n ≤ 32767
  | .i32, n => -2147483648 ≤ n ∧ n ≤ 2147483647
  | .i64, n => -9223372036854775808 ≤ n ∧ n ≤ 9223372036854775807
  | .u8, n => 0 ≤ n ∧ n ≤ 255
  | .u16, n => 0 ≤ n ∧ n ≤ 65535
  | .u32, n => 0 ≤ n ∧ n ≤ 4294967295
  | .u64, n => 0 ≤ n ∧ n ≤ 18446744073709551615
theorem wrap_in {k : IntKind} {n : Int} (h : inK k n) : k.wrap n = n := by
  cases k
  · exact IntWalk.i8_in n h
  · exact IntWalk.i16_in n h
  · exact IntWalk.i32_in n h
  · exact IntWalk.i64_in n h
  · exact IntWalk.u8_in n h
  · exact IntWalk.u16_in n h
  · exact IntWalk.u32_in n h
  · exact IntWalk.u64_in n h
variable {xt yt : TypeId} {x y : Operand} {k : IntKind} {p q r : Int}
theorem bin_int {op : BinOp} {v : Value} {D : V} (hx : S.ev x = some (.d (.int k p))) (hy : S.ev y = some (.d (.int k q))) (hox : okOp x = true) (hoy : okOp y = true) (hne : op ≠ .shl ∧ op ≠ .shr)
    (hr : ∀ w, (binOp op xt (.int k p) (.int k q)).run E.P w = .ok v w) (hv : ∀ w M β H, RepV w M β H D v) : Swift E S ⟨dst, .binOp op xt x y yt, ty, pos, af, gd⟩ D := Swift.mk fun β a w h => by
  have h1 : a.eval x = .int k p := h.ev hx hox
  have h2 : a.eval y = .int k q := h.ev hy hoy
  refine ⟨v, fun w' _ => ?_, hv _ _ _ _⟩
  have hg : (eqGuard op xt x y (.int k p) (.int k q)).run E.P w' = .ok () w' := by
    unfold eqGuard
    cases op <;> rfl
  simp [execOp, h1, h2, hg, hr]
theorem run_arith {P : Program} {op : BinOp} (hop : op = .add ∨ op = .sub ∨ op = .mul) (w : World) : (binOp op xt (.int k p) (.int k q)).run P w = (Op.intArith op k p q).run P w := by
  rcases hop with rfl | rfl | rfl <;> simp [binOp]
theorem q_add (hx : S.ev x = some (.d (.int k p))) (hy : S.ev y = some (.d (.int k q))) (hox : okOp x = true) (hoy : okOp y = true) (hin : inK k (p + q)) : Swift E S ⟨dst, .binOp .add xt x y yt, ty, pos, af, gd⟩ (.d (.int k (p + q))) :=
  bin_int hx hy hox hoy (by simp) (v := .int k (p + q)) (fun w => by rw [run_arith (by simp)]; simp [Op.intArith, wrap_in hin]) (fun _ _ _ _ => rfl)
theorem q_sub (hx : S.ev x = some (.d (.int k p))) (hy : S.ev y = some (.d (.int k q))) (hox : okOp x = true) (hoy : okOp y = true) (hin : inK k (p - q)) : Swift E S ⟨dst, .binOp .sub xt x y yt, ty, pos, af, gd⟩ (.d (.int k (p - q))) :=
  bin_int hx hy hox hoy (by simp) (v := .int k (p - q)) (fun w => by rw [run_arith (by simp)]; simp [Op.intArith, wrap_in hin]) (fun _ _ _ _ => rfl)
theorem q_sub_w (hx : S.ev x = some (.d (.int k p))) (hy : S.ev y = some (.d (.int k q))) (hox : okOp x = true) (hoy : okOp y = true) : Swift E S ⟨dst, .binOp .sub xt x y yt, ty, pos, af, gd⟩ (.d (.int k (k.wrap (p - q)))) :=
  bin_int hx hy hox hoy (by simp) (v := .int k (k.wrap (p - q))) (fun w => by rw [run_arith (by simp)]; simp [Op.intArith]) (fun _ _ _ _ => rfl)
theorem q_mul (hx : S.ev x = some (.d (.int k p))) (hy : S.ev y = some (.d (.int k q))) (hox : okOp x = true) (hoy : okOp y = true) (hin : inK k (p * q)) : Swift E S ⟨dst, .binOp .mul xt x y yt, ty, pos, af, gd⟩ (.d (.int k (p * q))) :=
  bin_int hx hy hox hoy (by simp) (v := .int k (p * q)) (fun w => by rw [run_arith (by simp)]; simp [Op.intArith, wrap_in hin]) (fun _ _ _ _ => rfl)
theorem q_rem (hx : S.ev x = some (.d (.int k p))) (hy : S.ev y = some (.d (.int k q))) (hox : okOp x = true) (hoy : okOp y = true) (h0 : 0 ≤ p) (h1 : 1 ≤ q) : Swift E S ⟨dst, .binOp .rem xt x y yt, ty, pos, af, gd⟩ (.d (.int k (p % q))) :=
  bin_int hx hy hox hoy (by simp) (v := .int k (p % q)) (fun w => by
    have h2 : ¬ q = 0 := by omega
    have h3 : p.tmod q = p % q := Int.tmod_eq_emod_of_nonneg h0
    simp [binOp, Op.intDiv, h2, h3]) (fun _ _ _ _ => rfl)
def cmp : BinOp → Int → Int → Prop
  | .lss, p, q => p < q
  | .leq, p, q => p ≤ q
  | .gtr, p, q => q < p
  | .geq, p, q => q ≤ p
  | .eql, p, q => p = q
  | .neq, p, q => ¬ p = q
  | _, _, _ => False
def isCmp : BinOp → Bool
  | .lss | .leq | .gtr | .geq | .eql | .neq => true
  | _ => false
theorem q_cmp {op : BinOp} (hop : isCmp op = true) (hx : S.ev x = some (.d (.int k p))) (hy : S.ev y = some (.d (.int k q))) (hox : okOp x = true) (hoy : okOp y = true) {b : Bool} (hb : (b = true) = cmp op p q) :
    Swift E S ⟨dst, .binOp op xt x y yt, ty, pos, af, gd⟩ (.d (.bool b)) :=
  bin_int hx hy hox hoy (by cases op <;> simp_all [isCmp]) (v := .bool b) (fun w => by
    have hd : ∀ (c : Prop) [Decidable c], (b = true) = c → decide c = b := fun c _ h => by cases b <;> simp_all
    cases op <;> simp [isCmp] at hop <;> simp only [cmp] at hb <;> simp [binOp, Op.intCmp]
    · exact (Bool.beq_eq_decide_eq p q).trans (hd _ hb)
    · rw [bne, Bool.beq_eq_decide_eq]
      have := hd _ hb
      rw [← this]
      by_cases h : p = q <;> simp [h]
    all_goals exact hd _ hb) (fun _ _ _ _ => rfl)
theorem q_cmp_t {op : BinOp} (hop : isCmp op = true) (hx : S.ev x = some (.d (.int k p))) (hy : S.ev y = some (.d (.int k q))) (hox : okOp x = true) (hoy : okOp y = true) (h : cmp op p q) : Swift E S ⟨dst, .binOp op xt x y yt, ty, pos, af, gd⟩ (.d (.bool true)) :=
  q_cmp hop hx hy hox hoy (propext ⟨fun _ => h, fun _ => rfl⟩)
theorem q_cmp_f {op : BinOp} (hop : isCmp op = true) (hx : S.ev x = some (.d (.int k p))) (hy : S.ev y = some (.d (.int k q))) (hox : okOp x = true) (hoy : okOp y = true) (h : ¬ cmp op p q) : Swift E S ⟨dst, .binOp op xt x y yt, ty, pos, af, gd⟩ (.d (.bool false)) :=
  q_cmp hop hx hy hox hoy (propext ⟨(fun h' => by cases h'), fun h' => absurd h' h⟩)
theorem tr_cmp {Q : Exit → Sd → Prop} {ops : Array Oper} {draw : Bool} {rest : Todo} {way : Way3} {op : BinOp} {d : Nat} (hop : isCmp op = true) (hx : S.ev x = some (.d (.int k p))) (hy : S.ev y = some (.d (.int k q))) (hox : okOp x = true) (hoy : okOp y = true) (hd : d < E.C.nt) {o : Oper}
    (ho : o = ⟨some d, .binOp op xt x y yt, ty, pos, af, gd⟩) (hg : S.gd ops o = some true) (h1 : cmp op p q → TR E draw ops Q rest (S.put d (.d (.bool true)))) (h2 : ¬ cmp op p q → TR E draw ops Q rest (S.put d (.d (.bool false)))) : TR E draw ops Q (.step o way rest) S := by
  subst ho
  by_cases h : cmp op p q
  · exact tr_still (q_cmp_t hop hx hy hox hoy h) rfl hd hg rfl (h1 h)
  · exact tr_still (q_cmp_f hop hx hy hox hoy h) rfl hd hg rfl (h2 h)
end
end
section
inductive Evs (S : Sd) : List Operand → List V → Prop
  | nil : Evs S [] []
  | cons {x : Operand} {v : V} {xs : List Operand} {vs : List V} (h : S.ev x = some v) (ho : okOp x = true) (t : Evs S xs vs) : Evs S (x :: xs) (v :: vs)
inductive CellsD : D → List D → Prop
  | agg (cs : List D) : CellsD (.agg cs) cs
  | int (k : IntKind) (n : Int) : CellsD (.int k n) [.int k n]
  | bool (b : Bool) : CellsD (.bool b) [.bool b]
  | str (s : ByteArray) : CellsD (.str s) [.str s]
  | list (sz : Nat) (xs : List D) : CellsD (.list sz xs) [.list sz xs]
  | ref (cs : List D) (o : Nat) : CellsD (.ref cs o) [.ref cs o]
  | clo (fn : Fn) (f c : List D) : CellsD (.clo fn f c) [.clo fn f c]
  | raw (v : Value) : CellsD (.raw v) [.raw v]
  | nil (sz : Nat) : CellsD (.nil sz) [.nil sz]
  | map (ks vs : List D) : CellsD (.map ks vs) [.map ks vs]
inductive Repl {α : Type} : List α → Nat → List α → List α → Prop
  | done (l : List α) : Repl l 0 [] l
  | here {x y : α} {l ys r : List α} (h : Repl l 0 ys r) : Repl (x :: l) 0 (y :: ys) (y :: r)
  | there {x : α} {l ys r : List α} {i : Nat} (h : Repl l i ys r) : Repl (x :: l) (i + 1) ys (x :: r)
theorem Repl.eq {α : Type} {l ys r : List α} {i : Nat} (h : Repl l i ys r) : r = l.take i ++ ys ++ l.drop (i + ys.length) ∧ i + ys.length ≤ l.length := by
  induction h with
  | done l => simp
  | here h ih =>
    obtain ⟨h1, h2⟩ := ih
    simp only [List.take_zero, List.nil_append, Nat.zero_add] at h1 h2 ⊢
    refine ⟨?_, by simpa using h2⟩
    rw [h1]
    simp
  | @there x l ys r i h ih =>
    obtain ⟨h1, h2⟩ := ih
    refine ⟨?_, by simp; omega⟩
    rw [h1, show i + 1 + ys.length = (i + ys.length) + 1 by omega]
    simp
theorem Evs.rep {C : Ctx} {β : Nat → Hd} {S : Sd} {a : Act} {w : World} (h : StB C β S a w) {xs : List Operand} {vs : List V} (he : Evs S xs vs) : RepL w (Mut C.M0 β S.H) β S.H vs (xs.map a.eval) := by
  induction he with
  | nil => rfl
  | cons h1 ho _ ih => exact ⟨_, _, rfl, h.ev h1 ho, ih⟩
theorem CellsD.rep {w : World} {M : Nat → Nat → Prop} {x : D} {cs : List D} (h : CellsD x cs) {v : Value} (hv : RepD w M x v) : RepA w M cs v.cells.toList := by
  cases h with
  | agg cs => obtain ⟨vs, rfl, h2⟩ := hv; simpa [Value.cells] using h2
  | raw u => exact ⟨v, [], by obtain ⟨rfl, h1⟩ := hv; cases v <;> simp_all [Value.cells, Value.oneCell'], hv.1 ▸ hv.2, hv, rfl⟩
  | list sz xs => have h0 := hv; obtain ⟨_, _, _, rfl, _⟩ := hv; exact ⟨_, [], rfl, rfl, h0, rfl⟩
  | ref sz xs => have h0 := hv; obtain ⟨_, _, _, rfl, _⟩ := hv; exact ⟨_, [], rfl, rfl, h0, rfl⟩
  | clo sz f xs => have h0 := hv; obtain ⟨_, _, rfl, _⟩ := hv; exact ⟨_, [], rfl, rfl, h0, rfl⟩
  | map ks vs => have h0 := hv; obtain ⟨_, _, _, rfl, _⟩ := hv; exact ⟨_, [], rfl, rfl, h0, rfl⟩
  | int k n => have h0 := hv; simp only [RepD] at hv; subst hv; exact ⟨_, [], rfl, rfl, h0, rfl⟩
  | bool b => have h0 := hv; simp only [RepD] at hv; subst hv; exact ⟨_, [], rfl, rfl, h0, rfl⟩
  | nil b => have h0 := hv; simp only [RepD] at hv; subst hv; exact ⟨_, [], rfl, rfl, h0, rfl⟩
  | str s => have h0 := hv; simp only [RepD] at hv; subst hv; exact ⟨_, [], rfl, rfl, h0, rfl⟩
section
variable {E : Set} {S : Sd} {dst : Option Tmp} {ty : TypeId} {pos : String} {af : Array Edge} {gd : Option (Nat × Bool)}
theorem bytes_beq (s t : ByteArray) {b : Bool} (hb : (b = true) = (s = t)) : (s.toList == t.toList) = b := by
  rw [ByteArray.toList_eq, ByteArray.toList_eq]
  have : (s.data.toList = t.data.toList) = (s = t) := by
    apply propext
    constructor
    · intro h
      cases s; cases t
      simp only [ByteArray.mk.injEq]
      exact Array.toList_inj.1 h
    · rintro rfl; rfl
  rw [← this] at hb
  cases b
  · simp only [Bool.false_eq_true, eq_iff_iff, false_iff] at hb
    simpa using hb
  · simp only [eq_self_iff_true, eq_iff_iff, true_iff] at hb
    simp [hb]
theorem q_str_eql {xt yt : TypeId} {x y : Operand} {s t : ByteArray} (hx : S.ev x = some (.d (.str s))) (hy : S.ev y = some (.d (.str t))) (hox : okOp x = true) (hoy : okOp y = true) {b : Bool} (hb : (b = true) = (s = t)) :
    Swift E S ⟨dst, .binOp .eql xt x y yt, ty, pos, af, gd⟩ (.d (.bool b)) := Swift.mk fun β a w h => by
  have h1 : a.eval x = .string s := h.ev hx hox
  have h2 : a.eval y = .string t := h.ev hy hoy
  refine ⟨.bool b, fun w' _ => ?_, rfl⟩
  simp [execOp, h1, h2, eqGuard, binOp, Op.stringOp, bytes_beq s t hb]
theorem q_bool_eql {xt yt : TypeId} {x y : Operand} {s t : Bool} [ht : TCell E.P xt] (hu : E.P.underlying xt = some .bool) (hx : S.ev x = some (.d (.bool s))) (hy : S.ev y = some (.d (.bool t))) (hox : okOp x = true) (hoy : okOp y = true) :
    Swift E S ⟨dst, .binOp .eql xt x y yt, ty, pos, af, gd⟩ (.d (.bool (s == t))) := Swift.mk fun β a w h => by
  have h1 : a.eval x = .bool s := h.ev hx hox
  have h2 : a.eval y = .bool t := h.ev hy hoy
  refine ⟨.bool (s == t), fun w' _ => ?_, rfl⟩
  have he : (Op.equal xt (.bool s) (.bool t)).run E.P w' = .ok (s == t) w' := by
    unfold Op.equal
    rw [show Op.maxDepth = 9999 + 1 from rfl, Op.equalIn]
    simp only [Sem.run_bind, run_underlying hu, Result.andThen_ok, Sem.run_pure]
  have hb : (binOp .eql xt (.bool s) (.bool t)).run E.P w' = .ok (.bool (s == t)) w' := by
    show (do pure (Value.bool (← Op.equal xt (.bool s) (.bool t))) : Sem Value).run E.P w' = _
    simp only [Sem.run_bind, he, Result.andThen_ok, Sem.run_pure]
  simp [execOp, h1, h2, eqGuard, hb]
theorem q_not {xt : TypeId} {x : Operand} {b : Bool} (hx : S.ev x = some (.d (.bool b))) (hox : okOp x = true) : Swift E S ⟨dst, .unOp .not xt x, ty, pos, af, gd⟩ (.d (.bool !b)) := Swift.mk fun β a w h => by
  have h1 : a.eval x = .bool b := h.ev hx hox
  exact ⟨.bool !b, fun w' _ => by simp [execOp, h1, Op.unary], rfl⟩
def bitsI (op : BinOp) (k : IntKind) (p q : Int) : Option Int :=
  match op with
  | .and => some (k.wrap (BitVec.ofInt k.bits p &&& BitVec.ofInt k.bits q).toNat)
  | .or => some (k.wrap (BitVec.ofInt k.bits p ||| BitVec.ofInt k.bits q).toNat)
  | .xor => some (k.wrap (BitVec.ofInt k.bits p ^^^ BitVec.ofInt k.bits q).toNat)
  | .andNot => some (k.wrap (BitVec.ofInt k.bits p &&& ~~~BitVec.ofInt k.bits q).toNat)
  | _ => none
theorem q_bits {op : BinOp} {xt yt : TypeId} {x y : Operand} {k : IntKind} {p q r : Int} (hx : S.ev x = some (.d (.int k p))) (hy : S.ev y = some (.d (.int k q))) (hox : okOp x = true) (hoy : okOp y = true) (hr : bitsI op k p q = some r) :
    Swift E S ⟨dst, .binOp op xt x y yt, ty, pos, af, gd⟩ (.d (.int k r)) :=
  bin_int hx hy hox hoy (by cases op <;> simp_all [bitsI]) (v := .int k r) (fun w => by
    cases op <;> simp only [bitsI, reduceCtorEq, Option.some.injEq] at hr <;> subst hr <;> simp [binOp, Op.intBits]) (fun _ _ _ _ => rfl)
theorem q_shr {xt yt : TypeId} {x y : Operand} {k k' : IntKind} {p q : Int} (hx : S.ev x = some (.d (.int k p))) (hy : S.ev y = some (.d (.int k' q))) (hox : okOp x = true) (hoy : okOp y = true) (h0 : 0 ≤ q) :
    Swift E S ⟨dst, .binOp .shr xt x y yt, ty, pos, af, gd⟩ (.d (.int k (p.fdiv (2 ^ min q.toNat k.bits)))) := Swift.mk fun β a w h => by
  have h1 : a.eval x = .int k p := h.ev hx hox
  have h2 : a.eval y = .int k' q := h.ev hy hoy
  have h3 : ¬ q < 0 := by omega
  exact ⟨_, fun w' _ => by simp [execOp, h1, h2, eqGuard, binOp, Op.shift, h3], rfl⟩
theorem q_shl {xt yt : TypeId} {x y : Operand} {k k' : IntKind} {p q : Int} (hx : S.ev x = some (.d (.int k p))) (hy : S.ev y = some (.d (.int k' q))) (hox : okOp x = true) (hoy : okOp y = true) (h0 : 0 ≤ q) :
    Swift E S ⟨dst, .binOp .shl xt x y yt, ty, pos, af, gd⟩ (.d (.int k (k.wrap (p * 2 ^ min q.toNat k.bits)))) := Swift.mk fun β a w h => by
  have h1 : a.eval x = .int k p := h.ev hx hox
  have h2 : a.eval y = .int k' q := h.ev hy hoy
  have h3 : ¬ q < 0 := by omega
  exact ⟨_, fun w' _ => by simp [execOp, h1, h2, eqGuard, binOp, Op.shift, h3], rfl⟩
theorem q_conv {st dt : TypeId} {x : Operand} {k k' : IntKind} {n : Int} [hs : TInt E.P st k] [hd : TInt E.P dt k'] (hx : S.ev x = some (.d (.int k n))) (hox : okOp x = true) (hin : inK k' n) : Swift E S ⟨dst, .convert st dt x, ty, pos, af, gd⟩ (.d (.int k' n)) := Swift.mk fun β a w h => by
  have h1 : a.eval x = .int k n := h.ev hx hox
  exact ⟨.int k' n, fun w' _ => by simp [execOp, h1, convert, run_underlying (int_parts hs), run_underlying (int_parts hd), Conv.intToInt, wrap_in hin], rfl⟩
theorem q_conv_w {st dt : TypeId} {x : Operand} {k k' : IntKind} {n : Int} [hs : TInt E.P st k] [hd : TInt E.P dt k'] (hx : S.ev x = some (.d (.int k n))) (hox : okOp x = true) : Swift E S ⟨dst, .convert st dt x, ty, pos, af, gd⟩ (.d (.int k' (k'.wrap n))) := Swift.mk fun β a w h => by
  have h1 : a.eval x = .int k n := h.ev hx hox
  exact ⟨.int k' (k'.wrap n), fun w' _ => by simp [execOp, h1, convert, run_underlying (int_parts hs), run_underlying (int_parts hd), Conv.intToInt], rfl⟩
theorem q_extract {x : Operand} {vs : List V} {i : Nat} {v : V} (hx : S.ev x = some (.tup vs)) (hox : okOp x = true) (hv : vs[i]? = some v) : Swift E S ⟨dst, .extract x i, ty, pos, af, gd⟩ v := Swift.mk fun β a w h => by
  obtain ⟨us, h1, h2⟩ := h.ev hx hox
  obtain ⟨u, h3, h4⟩ := RepL.get h2 hv
  exact ⟨u, fun w' _ => by simp [execOp, h1, Instr.extract, h3], h4⟩
theorem q_makeFunc {fn : Fn} {f c : List Operand} {fs cs : List V} (hf : Evs S f fs) (hc : Evs S c cs) : Swift E S ⟨dst, .makeFunc fn f.toArray c.toArray, ty, pos, af, gd⟩ (.clo fn fs cs) := Swift.mk fun β a w h =>
  ⟨.func fn (f.map a.eval).toArray (c.map a.eval).toArray, fun w' _ => by simp [execOp, Instr.makeFunc], _, _, rfl, hf.rep h, hc.rep h⟩
theorem q_len {t : TypeId} {e sz : Nat} {x : Operand} {sz' n : Nat} {xs : List D} [ht : TSlice E.P t e sz] (hx : S.ev x = some (.d (.list sz' xs))) (hox : okOp x = true) (hn : xs.length = n) : Swift E S ⟨dst, .call { callee := .builtin .len, args := #[x], argTypes := #[t] }, ty, pos, af, gd⟩ (.d (.int .i64 (n : Nat))) := Swift.mk fun β a w h => by
  subst hn
  obtain ⟨ad, c, ys, h1, _⟩ := h.ev hx hox
  obtain ⟨i, hu, _⟩ := slice_parts ht
  exact ⟨.int .i64 (xs.length : Nat), fun w' _ => by simp [execOp, resolve, invoke, builtin, h1, Builtin.len_, run_underlying hu, goInt], rfl⟩
theorem q_len_own {t : TypeId} {e sz : Nat} {x : Operand} {n k e' sz' m : Nat} {sh : Bool} {xs : List D} [ht : TSlice E.P t e sz] (hx : S.ev x = some (.own n k)) (hox : okOp x = true) (hl : look n S.H = some (.row e' sz' sh xs k)) (hm : xs.length = m) :
    Swift E S ⟨dst, .call { callee := .builtin .len, args := #[x], argTypes := #[t] }, ty, pos, af, gd⟩ (.d (.int .i64 (m : Nat))) := Swift.mk fun β a w h => by
  subst hm
  have h1 : a.eval x = (β n).v := h.ev hx hox e' sz' sh xs hl
  obtain ⟨ys, h2, _⟩ := h.obs n _ hl
  obtain ⟨ad, c, h3, _⟩ := owns_shape h2
  obtain ⟨i, hu, _⟩ := slice_parts ht
  exact ⟨.int .i64 (xs.length : Nat), fun w' _ => by simp [execOp, resolve, invoke, builtin, h1, h3, Builtin.len_, run_underlying hu, goInt], rfl⟩
theorem list_elem {w : World} {M : Nat → Nat → Prop} {sz : Nat} {xs : List D} {v : Value} (h : RepD w M (.list sz xs) v) (hsz : 0 < sz) {i : Nat} {x : D} (hx : xs[i]? = some x) {cs : List D} (hc : CellsD x cs) :
    ∃ b o c, v = .slice (some ⟨b, o, none⟩) xs.length c ∧ RepD w M (.ref cs 0) (.pointer (some ⟨b, o + i * sz, none⟩)) := by
  obtain ⟨a, c, ys, rfl, h1, h2, h3, h4, h5⟩ := h
  obtain ⟨u, h6, h7, h8⟩ := h4.get hx
  have hpos : 0 < u.cells.toList.length := by simp; omega
  obtain ⟨b, o, e, _, _⟩ := h5 _ _ (h8 0 u.cells.toList[0] (by simp [hpos]))
  subst e
  refine ⟨b, o, c, rfl, b, o + i * sz, u.cells.toList, rfl, hc.rep h6, fun j y hj => ?_⟩
  obtain ⟨b', o', e', h9, h10⟩ := h5 _ _ (h8 j y hj)
  cases e'
  exact ⟨b, o + i * sz, rfl, by rwa [Nat.add_assoc], by rwa [Nat.add_assoc]⟩
theorem run_indexAt {P : Program} {t e sz : Nat} (ht : TSlice P t e sz) {b o n c i : Nat} {k : IntKind} (hi : i < n) (w : World) : (Instr.indexAt t (.slice (some ⟨b, o, none⟩) n c) (.int k (i : Nat))).run P w = .ok (.pointer (some ⟨b, o + i * sz, none⟩)) w := by
  obtain ⟨ie, hu, hie, hs, _⟩ := slice_parts ht
  have h1 : (i : Int) < (n : Int) := by omega
  have h2 : ¬ n ≤ i := by omega
  simp [Instr.indexAt, asIntOf, run_underlying hu, h1, h2, run_size hie, hs, add_flat]
theorem q_index {t e sz i : Nat} {x y : Operand} {xs cs : List D} {z : D} {k : IntKind} {n : Int} [ht : TSlice E.P t e sz] (hx : S.ev x = some (.d (.list sz xs))) (hy : S.ev y = some (.d (.int k n))) (hox : okOp x = true) (hoy : okOp y = true) (hi : n = (i : Nat)) (hz : xs[i]? = some z) (hc : CellsD z cs) :
    Swift E S ⟨dst, .indexAddr t x y, ty, pos, af, gd⟩ (.d (.ref cs 0)) := Swift.mk fun β a w h => by
  subst hi
  obtain ⟨_, _, _, _, hsz⟩ := slice_parts ht
  obtain ⟨b, o, c, h1, h2⟩ := list_elem (h.ev hx hox) hsz hz hc
  have h3 : a.eval y = .int k (i : Nat) := h.ev hy hoy
  refine ⟨.pointer (some ⟨b, o + i * sz, none⟩), fun w' _ => ?_, h2⟩
  simp [execOp, h1, h3, run_indexAt ht (List.getElem?_eq_some_iff.1 hz).1]
theorem q_index_own {t e sz i n k' e' : Nat} {sh : Bool} {x y : Operand} {xs : List D} {k : IntKind} {m : Int} [ht : TSlice E.P t e sz] (hx : S.ev x = some (.own n k')) (hl : look n S.H = some (.row e' sz sh xs k')) (hy : S.ev y = some (.d (.int k m))) (hox : okOp x = true) (hoy : okOp y = true) (hi : m = (i : Nat)) (hz : i < xs.length) :
    Swift E S ⟨dst, .indexAddr t x y, ty, pos, af, gd⟩ (.el n k' i 0) := Swift.mk fun β a w h => by
  subst hi
  have h1 : a.eval x = (β n).v := h.ev hx hox e' sz sh xs hl
  have h3 : a.eval y = .int k (i : Nat) := h.ev hy hoy
  obtain ⟨ys, h2, _⟩ := h.obs n _ hl
  obtain ⟨ie, hu, hie, hs, hpos⟩ := slice_parts ht
  rcases h2.2 with ⟨h4, h5⟩ | ⟨g, cap, cur, h4, _, _, _⟩
  · omega
  · refine ⟨.pointer (some ⟨g, i * sz, none⟩), fun w' _ => ?_, fun e2 sz2 sh2 xs2 hl2 => ?_⟩
    · have := run_indexAt (P := E.P) (b := g) (o := 0) (c := cap) (k := k) ht hz w'
      rw [Nat.zero_add] at this
      simp [execOp, h1, h3, h4, this]
    · rw [hl] at hl2
      cases hl2
      exact ⟨g, _, cap, h4, rfl⟩
theorem row_at {C : Ctx} {β : Nat → Hd} {a : Act} {w : World} (h : StB C β S a w) {n e sz k i : Nat} {sh : Bool} {xs : List D} (hl : look n S.H = some (.row e sz sh xs k)) {z : D} (hz : xs[i]? = some z) {b l c : Nat} (hb' : (β n).v = .slice (some ⟨b, 0, none⟩) l c) :
    ∃ u, RepD w (Mut C.M0 β S.H) z u ∧ ∀ w', Grows w w' → ∀ j v, u.cells.toList[j]? = some v → w'.cell? ⟨b, i * sz + j, none⟩ = some v := by
  obtain ⟨ys, h2, h3⟩ := h.obs n _ hl
  obtain ⟨u, h4, _, h5⟩ := h3.get hz
  refine ⟨u, h4, fun w' g j v hj => ?_⟩
  have := h2.cells (g := b) (by rw [hb']; rfl) _ v (h5 j v hj)
  rw [add_flat, Nat.zero_add] at this
  exact (g.cell (p := ⟨b, i * sz + j, none⟩) (World.block_lt_of_cell? w ⟨b, i * sz + j, none⟩ this)).trans this
theorem q_load_el {t n k i off e sz : Nat} {sh : Bool} {x : Operand} {xs cs : List D} {z v : D} [ht : TCell E.P t] (hx : S.ev x = some (.el n k i off)) (hox : okOp x = true) (hl : look n S.H = some (.row e sz sh xs k)) (hz : xs[i]? = some z) (hc : CellsD z cs) (hv : cs[off]? = some v) :
    Quiet E S ⟨dst, .load t x, ty, pos, af, gd⟩ (.d v) := Quiet.mk fun β a w h => by
  obtain ⟨b, l, c, h1, h2⟩ := h.ev hx hox e sz sh xs hl
  obtain ⟨u, h3, h4⟩ := row_at h hl hz h1
  obtain ⟨u', h5, _, h6⟩ := (hc.rep h3).get hv
  refine ⟨u', fun w' g => ?_, h6⟩
  have := loadAt_cell ht (h4 w' g off u' h5)
  simp [execOp, h2, this]
theorem q_load_els {t n k i off m e sz : Nat} {sh : Bool} {x : Operand} {xs cs ds : List D} {z : D} [ht : TAgg E.P t m] (hx : S.ev x = some (.el n k i off)) (hox : okOp x = true) (hl : look n S.H = some (.row e sz sh xs k)) (hz : xs[i]? = some z) (hc : CellsD z cs) (hv : Cut cs off m ds) :
    Quiet E S ⟨dst, .load t x, ty, pos, af, gd⟩ (.d (.agg ds)) := Quiet.mk fun β a w h => by
  obtain ⟨b, l, c, h1, h2⟩ := h.ev hx hox e sz sh xs hl
  obtain ⟨u, h3, h4⟩ := row_at h hl hz h1
  obtain ⟨h5, h6⟩ := hv.eq
  have h7 : RepA w (Mut E.C.M0 β S.H) ds ((u.cells.toList.drop off).take m) := by rw [h5]; exact ((hc.rep h3).drop off).take m
  refine ⟨.agg ((u.cells.toList.drop off).take m).toArray, fun w' g => ?_, _, rfl, h7⟩
  have := loadAt_agg (vs := (u.cells.toList.drop off).take m) (w := w') (b := b) (o := i * sz + off) ht (by rw [h7.length]; exact h6) (fun j v hj => by
    rw [List.getElem?_take, List.getElem?_drop] at hj
    split at hj
    · rw [Nat.add_assoc]; exact h4 w' g _ v hj
    · cases hj)
  simp [execOp, h2, this]
theorem q_field_el {s f off' ft n k i off : Nat} {x : Operand} [ht : TField E.P s f off' ft] (hx : S.ev x = some (.el n k i off)) (hox : okOp x = true) {e sz : Nat} {sh : Bool} {xs : List D} (hl : look n S.H = some (.row e sz sh xs k)) : Swift E S ⟨dst, .fieldAddr s x f, ty, pos, af, gd⟩ (.el n k i (off + off')) := Swift.mk fun β a w h => by
  obtain ⟨b, l, c, h1, h2⟩ := h.ev hx hox e sz sh xs hl
  refine ⟨.pointer (some ⟨b, i * sz + (off + off'), none⟩), fun w' _ => by simp [execOp, h2, run_fieldAt ht, Nat.add_assoc], fun e2 sz2 sh2 xs2 hl2 => ?_⟩
  rw [hl] at hl2
  cases hl2
  exact ⟨b, l, c, h1, rfl⟩
theorem list_sliced {w : World} {M : Nat → Nat → Prop} {sz : Nat} {xs : List D} {a : Option Addr} {c : Nat} (h : RepD w M (.list sz xs) (.slice a xs.length c)) {l m : Nat} (hlm : l ≤ m) (hm : m ≤ xs.length) :
    RepD w M (.list sz ((xs.drop l).take (m - l))) (sliced a l m c sz) := by
  obtain ⟨a', c', ys, e, h1, h2, h3, h4, h5⟩ := h
  cases e
  have hlen : ((xs.drop l).take (m - l)).length = m - l := by simp; omega
  have h6 := (h4.drop l (by omega)).take (m - l) (by simp; omega)
  unfold sliced
  by_cases hc : c = l
  · have : m - l = 0 := by omega
    rw [if_pos hc]
    refine ⟨a, c - l, [], by rw [hlen], by omega, by omega, fun hn => by have := h3 hn; omega, by rw [this, List.take_zero]; rfl, Reads.nil _ _ _⟩
  · rw [if_neg hc]
    refine ⟨a.map (·.add (l * sz)), c - l, _, by rw [hlen], by omega, by omega, fun hn => ?_, h6, ?_⟩
    · cases a with
      | none => have := h3 rfl; omega
      | some ad => cases hn
    · cases a with
      | none =>
        intro j y hj
        have hl0 := h6.length
        have hc0 := h3 rfl
        have : ((xs.drop l).take (m - l)).length = 0 := by omega
        rw [this, Nat.zero_mul] at hl0
        rw [List.length_eq_zero_iff.1 hl0] at hj
        simp at hj
      | some ad =>
        have hr : Reads w M (some ad) ys := h5
        intro j y hj
        rw [List.getElem?_take] at hj
        split at hj
        · rw [List.getElem?_drop] at hj
          obtain ⟨b, o, e, h7, h8⟩ := hr _ _ hj
          cases e
          refine ⟨b, o + l * sz, by simp [add_flat], by rwa [Nat.add_assoc], by rwa [Nat.add_assoc]⟩
        · cases hj
def bnd (S : Sd) (o : Option Operand) (d : Int) : Option Int := match o with
  | none => some d
  | some x => match S.ev x with
    | some (.d (.int _ n)) => if okOp x then some n else none
    | _ => none
theorem q_slice {t e sz l m : Nat} {x : Operand} {lo hi : Option Operand} {xs : List D} {li hi' : Int} [ht : TSlice E.P t e sz] (hx : S.ev x = some (.d (.list sz xs))) (hox : okOp x = true) (hl : bnd S lo 0 = some li) (hh : bnd S hi (xs.length : Nat) = some hi') (el : li = (l : Nat)) (eh : hi' = (m : Nat)) (hlm : l ≤ m) (hm : m ≤ xs.length) :
    Swift E S ⟨dst, .slice t x lo hi none, ty, pos, af, gd⟩ (.d (.list sz ((xs.drop l).take (m - l)))) := Swift.mk fun β a w h => by
  subst el; subst eh
  have h0 := h.ev hx hox
  obtain ⟨ad, c, ys, h1, h2, _⟩ := h0
  obtain ⟨ie, hu, hie, hs, hpos⟩ := slice_parts ht
  have hr := h.ev hx hox
  rw [h1] at hr
  refine ⟨sliced ad l m c sz, fun w' _ => ?_, list_sliced hr hlm hm⟩
  have hm' : (m : Int) ≤ (c : Int) := by omega
  have hlo : lo = none ∧ l = 0 ∨ ∃ y k, lo = some y ∧ a.eval y = .int k (l : Nat) := by
    cases lo with
    | none => simp only [bnd, Option.some.injEq] at hl; exact .inl ⟨rfl, by omega⟩
    | some y =>
      simp only [bnd] at hl
      split at hl
      · rename_i k n hy
        split at hl
        · rename_i hok
          cases hl
          exact .inr ⟨y, k, rfl, h.ev hy hok⟩
        · cases hl
      · cases hl
  have hhi : hi = none ∧ m = xs.length ∨ ∃ y k, hi = some y ∧ a.eval y = .int k (m : Nat) := by
    cases hi with
    | none => simp only [bnd, Option.some.injEq] at hh; exact .inl ⟨rfl, by omega⟩
    | some y =>
      simp only [bnd] at hh
      split at hh
      · rename_i k n hy
        split at hh
        · rename_i hok
          cases hh
          exact .inr ⟨y, k, rfl, h.ev hy hok⟩
        · cases hh
      · cases hh
  have hb : (Instr.sliceBounds true xs.length c (lo.map a.eval) (hi.map a.eval) none).run E.P w' = .ok (l, m, c) w' := by
    rcases hlo with ⟨rfl, rfl⟩ | ⟨y, k, rfl, hy⟩ <;> rcases hhi with ⟨rfl, rfl⟩ | ⟨y', k', rfl, hy'⟩
    · simp [Instr.sliceBounds]
    · simp [Instr.sliceBounds, hy', Instr.sliceBound, asIntOf, hm', show ¬ c < m by omega]
    · have : (l : Int) ≤ (xs.length : Int) := by omega
      simp [Instr.sliceBounds, hy, Instr.sliceBound, asIntOf, this, show ¬ xs.length < l by omega]
    · have : (l : Int) ≤ (m : Int) := by omega
      simp [Instr.sliceBounds, hy, hy', Instr.sliceBound, asIntOf, hm', this, show m ≤ c by omega, hlm]
  simp [execOp, h1, Instr.sliceAt, run_underlying hu, Instr.slice, hb, run_size hie, hs, sliced]
end
end
end Go.Proofs.YtjhbglklcddekaaGreatDoor
