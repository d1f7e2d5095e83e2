/- Parts: D8, D9. -/
import Derived.Test.YtjhbglklcddekaaGreatDoorP7
import Derived.Great.BuildSlice
set_option linter.all false
set_option maxRecDepth 100000
set_option maxHeartbeats 16000000
namespace Go.Proofs.YtjhbglklcddekaaGreatDoor
open Go.RowKit
section
inductive Evs (S : Sd) : List Operand → List V → Prop
  | nil : Evs S [] []
  | cons {x : Operand} {v : V} {xs : List Operand} {vs : List V} (h : S.ev x = some v) (ho : okOp x = true) (t : Evs S xs vs) : Evs S (x :: xs) (v :: vs)
inductive CellsD : D → List D → Prop
  | agg (cs : List D) : CellsD (.agg cs) cs
  | int (k : IntKind) (n : Int) : CellsD (.int k n) [.int k n]
  | bool (b : Bool) : CellsD (.bool b) [.bool b]
  | str (s : ByteArray) : CellsD (.str s) [.str s]
  | list (sz : Nat) (xs : List D) : CellsD (.list sz xs) [.list sz xs]
  | ref (cs : List D) (o : Nat) : CellsD (.ref cs o) [.ref cs o]
  | clo (fn : Fn) (f c : List D) : CellsD (.clo fn f c) [.clo fn f c]
  | raw (v : Value) : CellsD (.raw v) [.raw v]
  | nil (sz : Nat) : CellsD (.nil sz) [.nil sz]
  | map (ks vs : List D) : CellsD (.map ks vs) [.map ks vs]
inductive Repl {α : Type} : List α → Nat → List α → List α → Prop
  | done (l : List α) : Repl l 0 [] l
  | here {x y : α} {l ys r : List α} (h : Repl l 0 ys r) : Repl (x :: l) 0 (y :: ys) (y :: r)
  | there {x : α} {l ys r : List α} {i : Nat} (h : Repl l i ys r) : Repl (x :: l) (i + 1) ys (x :: r)
theorem Repl.eq {α : Type} {l ys r : List α} {i : Nat} (h : Repl l i ys r) : r = l.take i ++ ys ++ l.drop (i + ys.length) ∧ i + ys.length ≤ l.length := by
  induction h with
  | done l => simp
  | here h ih =>
    obtain ⟨h1, h2⟩ := ih
    simp only [List.take_zero, List.nil_append, Nat.zero_add] at h1 h2 ⊢
    refine ⟨?_, by simpa using h2⟩
    rw [h1]
    simp
  | @there x l ys r i h ih =>
    obtain ⟨h1, h2⟩ := ih
    refine ⟨?_, by simp; omega⟩
    rw [h1, show i + 1 + ys.length = (i + ys.length) + 1 by omega]
    simp
theorem Evs.rep {C : Ctx} {β : Nat → Hd} {S : Sd} {a : Act} {w : World} (h : StB C β S a w) {xs : List Operand} {vs : List V} (he : Evs S xs vs) : RepL w (Mut C.M0 β S.H) β S.H vs (xs.map a.eval) := by
  induction he with
  | nil => rfl
  | cons h1 ho _ ih => exact ⟨_, _, rfl, h.ev h1 ho, ih⟩
theorem CellsD.rep {w : World} {M : Nat → Nat → Prop} {x : D} {cs : List D} (h : CellsD x cs) {v : Value} (hv : RepD w M x v) : RepA w M cs v.cells.toList := by
  cases h with
  | agg cs => obtain ⟨vs, rfl, h2⟩ := hv; simpa [Value.cells] using h2
  | raw u => exact ⟨v, [], by obtain ⟨rfl, h1⟩ := hv; cases v <;> simp_all [Value.cells, Value.oneCell'], hv.1 ▸ hv.2, hv, rfl⟩
  | list sz xs => have h0 := hv; obtain ⟨_, _, _, rfl, _⟩ := hv; exact ⟨_, [], rfl, rfl, h0, rfl⟩
  | ref sz xs => have h0 := hv; obtain ⟨_, _, _, rfl, _⟩ := hv; exact ⟨_, [], rfl, rfl, h0, rfl⟩
  | clo sz f xs => have h0 := hv; obtain ⟨_, _, rfl, _⟩ := hv; exact ⟨_, [], rfl, rfl, h0, rfl⟩
  | map ks vs => have h0 := hv; obtain ⟨_, _, _, rfl, _⟩ := hv; exact ⟨_, [], rfl, rfl, h0, rfl⟩
  | int k n => have h0 := hv; simp only [RepD] at hv; subst hv; exact ⟨_, [], rfl, rfl, h0, rfl⟩
  | bool b => have h0 := hv; simp only [RepD] at hv; subst hv; exact ⟨_, [], rfl, rfl, h0, rfl⟩
  | nil b => have h0 := hv; simp only [RepD] at hv; subst hv; exact ⟨_, [], rfl, rfl, h0, rfl⟩
  | str s => have h0 := hv; simp only [RepD] at hv; subst hv; exact ⟨_, [], rfl, rfl, h0, rfl⟩
section
variable {E : Set} {S : Sd} {dst : Option Tmp} {ty : TypeId} {pos : String} {af : Array Edge} {gd : Option (Nat × Bool)}
theorem bytes_beq (s t : ByteArray) {b : Bool} (hb : (b = true) = (s = t)) : (s.toList == t.toList) = b := by
  rw [ByteArray.toList_eq, ByteArray.toList_eq]
  have : (s.data.toList = t.data.toList) = (s = t) := by
    apply propext
    constructor
    · intro h
      cases s; cases t
      simp only [ByteArray.mk.injEq]
      exact Array.toList_inj.1 h
    · rintro rfl; rfl
  rw [← this] at hb
  cases b
  · simp only [Bool.false_eq_true, eq_iff_iff, false_iff] at hb
    simpa using hb
  · simp only [eq_self_iff_true, eq_iff_iff, true_iff] at hb
    simp [hb]
theorem q_str_eql {xt yt : TypeId} {x y : Operand} {s t : ByteArray} (hx : S.ev x = some (.d (.str s))) (hy : S.ev y = some (.d (.str t))) (hox : okOp x = true) (hoy : okOp y = true) {b : Bool} (hb : (b = true) = (s = t)) :
    Swift E S ⟨dst, .binOp .eql xt x y yt, ty, pos, af, gd⟩ (.d (.bool b)) := Swift.mk fun β a w h => by
  have h1 : a.eval x = .string s := h.ev hx hox
  have h2 : a.eval y = .string t := h.ev hy hoy
  refine ⟨.bool b, fun w' _ => ?_, rfl⟩
  simp [execOp, h1, h2, eqGuard, binOp, Op.stringOp, bytes_beq s t hb]
theorem q_str_neq {xt yt : TypeId} {x y : Operand} {s t : ByteArray} (hx : S.ev x = some (.d (.str s))) (hy : S.ev y = some (.d (.str t))) (hox : okOp x = true) (hoy : okOp y = true) {b : Bool} (hb : (b = true) = ¬ (s = t)) :
    Swift E S ⟨dst, .binOp .neq xt x y yt, ty, pos, af, gd⟩ (.d (.bool b)) := Swift.mk fun β a w h => by
  have h1 : a.eval x = .string s := h.ev hx hox
  have h2 : a.eval y = .string t := h.ev hy hoy
  refine ⟨.bool b, fun w' _ => ?_, rfl⟩
  have h3 : ((!b) = true) = (s = t) := by cases b <;> simp_all
  have h4 := bytes_beq s t h3
  simp [execOp, h1, h2, eqGuard, binOp, Op.stringOp, h4]
theorem q_str_add {xt yt : TypeId} {x y : Operand} {s t : ByteArray} (hx : S.ev x = some (.d (.str s))) (hy : S.ev y = some (.d (.str t))) (hox : okOp x = true) (hoy : okOp y = true) (hl : s.size + t.size ≤ 9223372036854775807) :
    Swift E S ⟨dst, .binOp .add xt x y yt, ty, pos, af, gd⟩ (.d (.str (s ++ t))) := Swift.mk fun β a w h => by
  have h1 : a.eval x = .string s := h.ev hx hox
  have h2 : a.eval y = .string t := h.ev hy hoy
  refine ⟨.string (s ++ t), fun w' _ => ?_, rfl⟩
  have h3 : ¬ (((s.size + t.size : Nat) : Int) > IntKind.i64.max) := by
    have : IntKind.i64.max = 9223372036854775807 := by decide
    omega
  have h4 : (s.size : Int) + (t.size : Int) ≤ 9223372036854775807 := by omega
  simp only [Int.natCast_add, gt_iff_lt] at h3
  simp [execOp, h1, h2, eqGuard, binOp, Op.stringOp, h3]
  exact h4
theorem q_bool_eql {xt yt : TypeId} {x y : Operand} {s t : Bool} [ht : TCell E.P xt] (hu : E.P.underlying xt = some .bool) (hx : S.ev x = some (.d (.bool s))) (hy : S.ev y = some (.d (.bool t))) (hox : okOp x = true) (hoy : okOp y = true) :
    Swift E S ⟨dst, .binOp .eql xt x y yt, ty, pos, af, gd⟩ (.d (.bool (s == t))) := Swift.mk fun β a w h => by
  have h1 : a.eval x = .bool s := h.ev hx hox
  have h2 : a.eval y = .bool t := h.ev hy hoy
  refine ⟨.bool (s == t), fun w' _ => ?_, rfl⟩
  have he : (Op.equal xt (.bool s) (.bool t)).run E.P w' = .ok (s == t) w' := by
    unfold Op.equal
    rw [show Op.maxDepth = 9999 + 1 from rfl, Op.equalIn]
    simp only [Sem.run_bind, run_underlying hu, Result.andThen_ok, Sem.run_pure]
  have hb : (binOp .eql xt (.bool s) (.bool t)).run E.P w' = .ok (.bool (s == t)) w' := by
    show (do pure (Value.bool (← Op.equal xt (.bool s) (.bool t))) : Sem Value).run E.P w' = _
    simp only [Sem.run_bind, he, Result.andThen_ok, Sem.run_pure]
  simp [execOp, h1, h2, eqGuard, hb]
theorem q_not {xt : TypeId} {x : Operand} {b : Bool} (hx : S.ev x = some (.d (.bool b))) (hox : okOp x = true) : Swift E S ⟨dst, .unOp .not xt x, ty, pos, af, gd⟩ (.d (.bool !b)) := Swift.mk fun β a w h => by
  have h1 : a.eval x = .bool b := h.ev hx hox
  exact ⟨.bool !b, fun w' _ => by simp [execOp, h1, Op.unary], rfl⟩
theorem q_neg {xt : TypeId} {x : Operand} {k : IntKind} {n : Int} (hx : S.ev x = some (.d (.int k n))) (hox : okOp x = true) : Swift E S ⟨dst, .unOp .neg xt x, ty, pos, af, gd⟩ (.d (.int k (k.wrap (0 - n)))) := Swift.mk fun β a w h => by
  have h1 : a.eval x = .int k n := h.ev hx hox
  exact ⟨.int k (k.wrap (0 - n)), fun w' _ => by simp [execOp, h1, Op.unary, Op.intArith], rfl⟩
def bitsI (op : BinOp) (k : IntKind) (p q : Int) : Option Int :=
  match op with
  | .and => some (k.wrap (BitVec.ofInt k.bits p &&& BitVec.ofInt k.bits q).toNat)
  | .or => some (k.wrap (BitVec.ofInt k.bits p ||| BitVec.ofInt k.bits q).toNat)
  | .xor => some (k.wrap (BitVec.ofInt k.bits p ^^^ BitVec.ofInt k.bits q).toNat)
  | .andNot => some (k.wrap (BitVec.ofInt k.bits p &&& ~~~BitVec.ofInt k.bits q).toNat)
  | _ => none
theorem q_bits {op : BinOp} {xt yt : TypeId} {x y : Operand} {k : IntKind} {p q r : Int} (hx : S.ev x = some (.d (.int k p))) (hy : S.ev y = some (.d (.int k q))) (hox : okOp x = true) (hoy : okOp y = true) (hr : bitsI op k p q = some r) :
    Swift E S ⟨dst, .binOp op xt x y yt, ty, pos, af, gd⟩ (.d (.int k r)) :=
  bin_int hx hy hox hoy (by cases op <;> simp_all [bitsI]) (v := .int k r) (fun w => by
    cases op <;> simp only [bitsI, reduceCtorEq, Option.some.injEq] at hr <;> subst hr <;> simp [binOp, Op.intBits]) (fun _ _ _ _ => rfl)
theorem q_shr {xt yt : TypeId} {x y : Operand} {k k' : IntKind} {p q : Int} (hx : S.ev x = some (.d (.int k p))) (hy : S.ev y = some (.d (.int k' q))) (hox : okOp x = true) (hoy : okOp y = true) (h0 : 0 ≤ q) :
    Swift E S ⟨dst, .binOp .shr xt x y yt, ty, pos, af, gd⟩ (.d (.int k (p.fdiv (2 ^ min q.toNat k.bits)))) := Swift.mk fun β a w h => by
  have h1 : a.eval x = .int k p := h.ev hx hox
  have h2 : a.eval y = .int k' q := h.ev hy hoy
  have h3 : ¬ q < 0 := by omega
  exact ⟨_, fun w' _ => by simp [execOp, h1, h2, eqGuard, binOp, Op.shift, h3], rfl⟩
theorem q_shl {xt yt : TypeId} {x y : Operand} {k k' : IntKind} {p q : Int} (hx : S.ev x = some (.d (.int k p))) (hy : S.ev y = some (.d (.int k' q))) (hox : okOp x = true) (hoy : okOp y = true) (h0 : 0 ≤ q) :
    Swift E S ⟨dst, .binOp .shl xt x y yt, ty, pos, af, gd⟩ (.d (.int k (k.wrap (p * 2 ^ min q.toNat k.bits)))) := Swift.mk fun β a w h => by
  have h1 : a.eval x = .int k p := h.ev hx hox
  have h2 : a.eval y = .int k' q := h.ev hy hoy
  have h3 : ¬ q < 0 := by omega
  exact ⟨_, fun w' _ => by simp [execOp, h1, h2, eqGuard, binOp, Op.shift, h3], rfl⟩
theorem q_conv {st dt : TypeId} {x : Operand} {k k' : IntKind} {n : Int} [hs : TInt E.P st k] [hd : TInt E.P dt k'] (hx : S.ev x = some (.d (.int k n))) (hox : okOp x = true) (hin : inK k' n) : Swift E S ⟨dst, .convert st dt x, ty, pos, af, gd⟩ (.d (.int k' n)) := Swift.mk fun β a w h => by
  have h1 : a.eval x = .int k n := h.ev hx hox
  exact ⟨.int k' n, fun w' _ => by simp [execOp, h1, convert, run_underlying (int_parts hs), run_underlying (int_parts hd), Conv.intToInt, wrap_in hin], rfl⟩
theorem q_conv_w {st dt : TypeId} {x : Operand} {k k' : IntKind} {n : Int} [hs : TInt E.P st k] [hd : TInt E.P dt k'] (hx : S.ev x = some (.d (.int k n))) (hox : okOp x = true) : Swift E S ⟨dst, .convert st dt x, ty, pos, af, gd⟩ (.d (.int k' (k'.wrap n))) := Swift.mk fun β a w h => by
  have h1 : a.eval x = .int k n := h.ev hx hox
  exact ⟨.int k' (k'.wrap n), fun w' _ => by simp [execOp, h1, convert, run_underlying (int_parts hs), run_underlying (int_parts hd), Conv.intToInt], rfl⟩
theorem q_extract {x : Operand} {vs : List V} {i : Nat} {v : V} (hx : S.ev x = some (.tup vs)) (hox : okOp x = true) (hv : vs[i]? = some v) : Swift E S ⟨dst, .extract x i, ty, pos, af, gd⟩ v := Swift.mk fun β a w h => by
  obtain ⟨us, h1, h2⟩ := h.ev hx hox
  obtain ⟨u, h3, h4⟩ := RepL.get h2 hv
  exact ⟨u, fun w' _ => by simp [execOp, h1, Instr.extract, h3], h4⟩
theorem q_makeFunc {fn : Fn} {f c : List Operand} {fs cs : List V} (hf : Evs S f fs) (hc : Evs S c cs) : Swift E S ⟨dst, .makeFunc fn f.toArray c.toArray, ty, pos, af, gd⟩ (.clo fn fs cs) := Swift.mk fun β a w h =>
  ⟨.func fn (f.map a.eval).toArray (c.map a.eval).toArray, fun w' _ => by simp [execOp, Instr.makeFunc], _, _, rfl, hf.rep h, hc.rep h⟩
theorem q_field {s f off ft : Nat} {x : Operand} {cs : List D} {v : D} [ht : TField E.P s f off ft] [hc : TCell E.P ft] (hx : S.ev x = some (.d (.agg cs))) (hox : okOp x = true) (hv : cs[off]? = some v) : Swift E S ⟨dst, .field s x f, ty, pos, af, gd⟩ (.d v) := Swift.mk fun β a w h => by
  obtain ⟨vs, h1, h2⟩ := h.ev hx hox
  obtain ⟨u, h3, _, h4⟩ := h2.get hv
  obtain ⟨fs, fd, i, hu, hf, e1, e2, hi, _⟩ := field_parts ht
  obtain ⟨d, i', hu', n1, n2, _, _⟩ := cell_parts hc
  exact ⟨u, fun w' _ => by simp [execOp, h1, Instr.field, run_underlying hu, hf, asAgg, part, e2, isAgg_no hu' n1 n2, e1, h3], h4⟩
theorem q_fields {s f off ft m : Nat} {x : Operand} {cs ds : List D} [ht : TField E.P s f off ft] [hc : TAgg E.P ft m] (hx : S.ev x = some (.d (.agg cs))) (hox : okOp x = true) (hv : Cut cs off m ds) : Swift E S ⟨dst, .field s x f, ty, pos, af, gd⟩ (.d (.agg ds)) := Swift.mk fun β a w h => by
  obtain ⟨vs, h1, h2⟩ := h.ev hx hox
  obtain ⟨h3, h4⟩ := hv.eq
  obtain ⟨fs, fd, i, hu, hf, e1, e2, hi, _⟩ := field_parts ht
  obtain ⟨d, i', hu', n1, hi', hs'⟩ := agg_parts hc
  have h5 : RepA w (Mut E.C.M0 β S.H) ds ((vs.drop off).take m) := by rw [h3]; exact (h2.drop off).take m
  refine ⟨.agg ((vs.drop off).take m).toArray, fun w' _ => ?_, _, rfl, h5⟩
  have he : (vs.toArray.extract off (off + m)) = ((vs.drop off).take m).toArray := by simp [List.extract_eq_take_drop]
  simp [execOp, h1, Instr.field, run_underlying hu, hf, asAgg, part, e2, isAgg_yes hu' n1, run_size hi', hs', e1, he]
theorem q_len {t : TypeId} {e sz : Nat} {x : Operand} {sz' n : Nat} {xs : List D} [ht : TSlice E.P t e sz] (hx : S.ev x = some (.d (.list sz' xs))) (hox : okOp x = true) (hn : xs.length = n) : Swift E S ⟨dst, .call { callee := .builtin .len, args := #[x], argTypes := #[t] }, ty, pos, af, gd⟩ (.d (.int .i64 (n : Nat))) := Swift.mk fun β a w h => by
  subst hn
  obtain ⟨ad, c, ys, h1, _⟩ := h.ev hx hox
  obtain ⟨i, hu, _⟩ := slice_parts ht
  exact ⟨.int .i64 (xs.length : Nat), fun w' _ => by simp [execOp, resolve, invoke, builtin, h1, Builtin.len_, run_underlying hu, goInt], rfl⟩
theorem q_len_own {t : TypeId} {e sz : Nat} {x : Operand} {n k e' sz' m : Nat} {sh : Bool} {xs : List D} [ht : TSlice E.P t e sz] (hx : S.ev x = some (.own n k)) (hox : okOp x = true) (hl : look n S.H = some (.row e' sz' sh xs k)) (hm : xs.length = m) :
    Swift E S ⟨dst, .call { callee := .builtin .len, args := #[x], argTypes := #[t] }, ty, pos, af, gd⟩ (.d (.int .i64 (m : Nat))) := Swift.mk fun β a w h => by
  subst hm
  have h1 : a.eval x = (β n).v := h.ev hx hox e' sz' sh xs hl
  obtain ⟨ys, h2, _⟩ := h.obs n _ hl
  obtain ⟨ad, c, h3, _⟩ := owns_shape h2
  obtain ⟨i, hu, _⟩ := slice_parts ht
  exact ⟨.int .i64 (xs.length : Nat), fun w' _ => by simp [execOp, resolve, invoke, builtin, h1, h3, Builtin.len_, run_underlying hu, goInt], rfl⟩
theorem q_len_nils {t : TypeId} {e sz : Nat} {x : Operand} {sz' : Nat} [ht : TSlice E.P t e sz] (hx : S.ev x = some (.nils sz')) (hox : okOp x = true) : Swift E S ⟨dst, .call { callee := .builtin .len, args := #[x], argTypes := #[t] }, ty, pos, af, gd⟩ (.d (.int .i64 (0 : Nat))) := Swift.mk fun β a w h => by
  have h1 : a.eval x = .slice none 0 0 := h.ev hx hox
  obtain ⟨i, hu, _⟩ := slice_parts ht
  exact ⟨.int .i64 (0 : Nat), fun w' _ => by simp [execOp, resolve, invoke, builtin, h1, Builtin.len_, run_underlying hu, goInt], rfl⟩
theorem q_len_str {t : TypeId} {x : Operand} {s : ByteArray} [ht : TStr E.P t] (hx : S.ev x = some (.d (.str s))) (hox : okOp x = true) : Swift E S ⟨dst, .call { callee := .builtin .len, args := #[x], argTypes := #[t] }, ty, pos, af, gd⟩ (.d (.int .i64 (s.size : Nat))) := Swift.mk fun β a w h => by
  have h1 : a.eval x = .string s := h.ev hx hox
  exact ⟨.int .i64 (s.size : Nat), fun w' _ => by simp [execOp, resolve, invoke, builtin, h1, Builtin.len_, run_underlying (str_parts ht), goInt], rfl⟩
theorem list_elem {w : World} {M : Nat → Nat → Prop} {sz : Nat} {xs : List D} {v : Value} (h : RepD w M (.list sz xs) v) (hsz : 0 < sz) {i : Nat} {x : D} (hx : xs[i]? = some x) {cs : List D} (hc : CellsD x cs) :
    ∃ b o c, v = .slice (some ⟨b, o, none⟩) xs.length c ∧ RepD w M (.ref cs 0) (.pointer (some ⟨b, o + i * sz, none⟩)) := by
  obtain ⟨a, c, ys, rfl, h1, h2, h3, h4, h5⟩ := h
  obtain ⟨u, h6, h7, h8⟩ := h4.get hx
  have hpos : 0 < u.cells.toList.length := by simp; omega
  obtain ⟨b, o, e, _, _⟩ := h5 _ _ (h8 0 u.cells.toList[0] (by simp [hpos]))
  subst e
  refine ⟨b, o, c, rfl, b, o + i * sz, u.cells.toList, rfl, hc.rep h6, fun j y hj => ?_⟩
  obtain ⟨b', o', e', h9, h10⟩ := h5 _ _ (h8 j y hj)
  cases e'
  exact ⟨b, o + i * sz, rfl, by rwa [Nat.add_assoc], by rwa [Nat.add_assoc]⟩
theorem run_indexAt {P : Program} {t e sz : Nat} (ht : TSlice P t e sz) {b o n c i : Nat} {k : IntKind} (hi : i < n) (w : World) : (Instr.indexAt t (.slice (some ⟨b, o, none⟩) n c) (.int k (i : Nat))).run P w = .ok (.pointer (some ⟨b, o + i * sz, none⟩)) w := by
  obtain ⟨ie, hu, hie, hs, _⟩ := slice_parts ht
  have h1 : (i : Int) < (n : Int) := by omega
  have h2 : ¬ n ≤ i := by omega
  simp [Instr.indexAt, asIntOf, run_underlying hu, h1, h2, run_size hie, hs, add_flat]
theorem q_index {t e sz i : Nat} {x y : Operand} {xs cs : List D} {z : D} {k : IntKind} {n : Int} [ht : TSlice E.P t e sz] (hx : S.ev x = some (.d (.list sz xs))) (hy : S.ev y = some (.d (.int k n))) (hox : okOp x = true) (hoy : okOp y = true) (hi : n = (i : Nat)) (hz : xs[i]? = some z) (hc : CellsD z cs) :
    Swift E S ⟨dst, .indexAddr t x y, ty, pos, af, gd⟩ (.d (.ref cs 0)) := Swift.mk fun β a w h => by
  subst hi
  obtain ⟨_, _, _, _, hsz⟩ := slice_parts ht
  obtain ⟨b, o, c, h1, h2⟩ := list_elem (h.ev hx hox) hsz hz hc
  have h3 : a.eval y = .int k (i : Nat) := h.ev hy hoy
  refine ⟨.pointer (some ⟨b, o + i * sz, none⟩), fun w' _ => ?_, h2⟩
  simp [execOp, h1, h3, run_indexAt ht (List.getElem?_eq_some_iff.1 hz).1]
theorem q_index_own {t e sz i n k' e' : Nat} {sh : Bool} {x y : Operand} {xs : List D} {k : IntKind} {m : Int} [ht : TSlice E.P t e sz] (hx : S.ev x = some (.own n k')) (hl : look n S.H = some (.row e' sz sh xs k')) (hy : S.ev y = some (.d (.int k m))) (hox : okOp x = true) (hoy : okOp y = true) (hi : m = (i : Nat)) (hz : i < xs.length) :
    Swift E S ⟨dst, .indexAddr t x y, ty, pos, af, gd⟩ (.el n k' i 0) := Swift.mk fun β a w h => by
  subst hi
  have h1 : a.eval x = (β n).v := h.ev hx hox e' sz sh xs hl
  have h3 : a.eval y = .int k (i : Nat) := h.ev hy hoy
  obtain ⟨ys, h2, _⟩ := h.obs n _ hl
  obtain ⟨ie, hu, hie, hs, hpos⟩ := slice_parts ht
  rcases h2.2 with ⟨h4, h5⟩ | ⟨g, cap, cur, h4, _, _, _⟩
  · omega
  · refine ⟨.pointer (some ⟨g, i * sz, none⟩), fun w' _ => ?_, fun e2 sz2 sh2 xs2 hl2 => ?_⟩
    · have := run_indexAt (P := E.P) (b := g) (o := 0) (c := cap) (k := k) ht hz w'
      rw [Nat.zero_add] at this
      simp [execOp, h1, h3, h4, this]
    · rw [hl] at hl2
      cases hl2
      exact ⟨g, _, cap, h4, rfl⟩
theorem row_at {C : Ctx} {β : Nat → Hd} {a : Act} {w : World} (h : StB C β S a w) {n e sz k i : Nat} {sh : Bool} {xs : List D} (hl : look n S.H = some (.row e sz sh xs k)) {z : D} (hz : xs[i]? = some z) {b l c : Nat} (hb' : (β n).v = .slice (some ⟨b, 0, none⟩) l c) :
    ∃ u, RepD w (Mut C.M0 β S.H) z u ∧ ∀ w', Grows w w' → ∀ j v, u.cells.toList[j]? = some v → w'.cell? ⟨b, i * sz + j, none⟩ = some v := by
  obtain ⟨ys, h2, h3⟩ := h.obs n _ hl
  obtain ⟨u, h4, _, h5⟩ := h3.get hz
  refine ⟨u, h4, fun w' g j v hj => ?_⟩
  have := h2.cells (g := b) (by rw [hb']; rfl) _ v (h5 j v hj)
  rw [add_flat, Nat.zero_add] at this
  exact (g.cell (p := ⟨b, i * sz + j, none⟩) (World.block_lt_of_cell? w ⟨b, i * sz + j, none⟩ this)).trans this
theorem q_load_el {t n k i off e sz : Nat} {sh : Bool} {x : Operand} {xs cs : List D} {z v : D} [ht : TCell E.P t] (hx : S.ev x = some (.el n k i off)) (hox : okOp x = true) (hl : look n S.H = some (.row e sz sh xs k)) (hz : xs[i]? = some z) (hc : CellsD z cs) (hv : cs[off]? = some v) :
    Quiet E S ⟨dst, .load t x, ty, pos, af, gd⟩ (.d v) := Quiet.mk fun β a w h => by
  obtain ⟨b, l, c, h1, h2⟩ := h.ev hx hox e sz sh xs hl
  obtain ⟨u, h3, h4⟩ := row_at h hl hz h1
  obtain ⟨u', h5, _, h6⟩ := (hc.rep h3).get hv
  refine ⟨u', fun w' g => ?_, h6⟩
  have := loadAt_cell ht (h4 w' g off u' h5)
  simp [execOp, h2, this]
theorem q_load_els {t n k i off m e sz : Nat} {sh : Bool} {x : Operand} {xs cs ds : List D} {z : D} [ht : TAgg E.P t m] (hx : S.ev x = some (.el n k i off)) (hox : okOp x = true) (hl : look n S.H = some (.row e sz sh xs k)) (hz : xs[i]? = some z) (hc : CellsD z cs) (hv : Cut cs off m ds) :
    Quiet E S ⟨dst, .load t x, ty, pos, af, gd⟩ (.d (.agg ds)) := Quiet.mk fun β a w h => by
  obtain ⟨b, l, c, h1, h2⟩ := h.ev hx hox e sz sh xs hl
  obtain ⟨u, h3, h4⟩ := row_at h hl hz h1
  obtain ⟨h5, h6⟩ := hv.eq
  have h7 : RepA w (Mut E.C.M0 β S.H) ds ((u.cells.toList.drop off).take m) := by rw [h5]; exact ((hc.rep h3).drop off).take m
  refine ⟨.agg ((u.cells.toList.drop off).take m).toArray, fun w' g => ?_, _, rfl, h7⟩
  have := loadAt_agg (vs := (u.cells.toList.drop off).take m) (w := w') (b := b) (o := i * sz + off) ht (by rw [h7.length]; exact h6) (fun j v hj => by
    rw [List.getElem?_take, List.getElem?_drop] at hj
    split at hj
    · rw [Nat.add_assoc]; exact h4 w' g _ v hj
    · cases hj)
  simp [execOp, h2, this]
theorem q_field_el {s f off' ft n k i off : Nat} {x : Operand} [ht : TField E.P s f off' ft] (hx : S.ev x = some (.el n k i off)) (hox : okOp x = true) {e sz : Nat} {sh : Bool} {xs : List D} (hl : look n S.H = some (.row e sz sh xs k)) : Swift E S ⟨dst, .fieldAddr s x f, ty, pos, af, gd⟩ (.el n k i (off + off')) := Swift.mk fun β a w h => by
  obtain ⟨b, l, c, h1, h2⟩ := h.ev hx hox e sz sh xs hl
  refine ⟨.pointer (some ⟨b, i * sz + (off + off'), none⟩), fun w' _ => by simp [execOp, h2, run_fieldAt ht, Nat.add_assoc], fun e2 sz2 sh2 xs2 hl2 => ?_⟩
  rw [hl] at hl2
  cases hl2
  exact ⟨b, l, c, h1, rfl⟩
theorem list_sliced {w : World} {M : Nat → Nat → Prop} {sz : Nat} {xs : List D} {a : Option Addr} {c : Nat} (h : RepD w M (.list sz xs) (.slice a xs.length c)) {l m : Nat} (hlm : l ≤ m) (hm : m ≤ xs.length) :
    RepD w M (.list sz ((xs.drop l).take (m - l))) (sliced a l m c sz) := by
  obtain ⟨a', c', ys, e, h1, h2, h3, h4, h5⟩ := h
  cases e
  have hlen : ((xs.drop l).take (m - l)).length = m - l := by simp; omega
  have h6 := (h4.drop l (by omega)).take (m - l) (by simp; omega)
  unfold sliced
  by_cases hc : c = l
  · have : m - l = 0 := by omega
    rw [if_pos hc]
    refine ⟨a, c - l, [], by rw [hlen], by omega, by omega, fun hn => by have := h3 hn; omega, by rw [this, List.take_zero]; rfl, Reads.nil _ _ _⟩
  · rw [if_neg hc]
    refine ⟨a.map (·.add (l * sz)), c - l, _, by rw [hlen], by omega, by omega, fun hn => ?_, h6, ?_⟩
    · cases a with
      | none => have := h3 rfl; omega
      | some ad => cases hn
    · cases a with
      | none =>
        intro j y hj
        have hl0 := h6.length
        have hc0 := h3 rfl
        have : ((xs.drop l).take (m - l)).length = 0 := by omega
        rw [this, Nat.zero_mul] at hl0
        rw [List.length_eq_zero_iff.1 hl0] at hj
        simp at hj
      | some ad =>
        have hr : Reads w M (some ad) ys := h5
        intro j y hj
        rw [List.getElem?_take] at hj
        split at hj
        · rw [List.getElem?_drop] at hj
          obtain ⟨b, o, e, h7, h8⟩ := hr _ _ hj
          cases e
          refine ⟨b, o + l * sz, by simp [add_flat], by rwa [Nat.add_assoc], by rwa [Nat.add_assoc]⟩
        · cases hj
def bnd (S : Sd) (o : Option Operand) (d : Int) : Option Int := match o with
  | none => some d
  | some x => match S.ev x with
    | some (.d (.int _ n)) => if okOp x then some n else none
    | _ => none
theorem q_slice {t e sz l m : Nat} {x : Operand} {lo hi : Option Operand} {xs : List D} {li hi' : Int} [ht : TSlice E.P t e sz] (hx : S.ev x = some (.d (.list sz xs))) (hox : okOp x = true) (hl : bnd S lo 0 = some li) (hh : bnd S hi (xs.length : Nat) = some hi') (el : li = (l : Nat)) (eh : hi' = (m : Nat)) (hlm : l ≤ m) (hm : m ≤ xs.length) :
    Swift E S ⟨dst, .slice t x lo hi none, ty, pos, af, gd⟩ (.d (.list sz ((xs.drop l).take (m - l)))) := Swift.mk fun β a w h => by
  subst el; subst eh
  have h0 := h.ev hx hox
  obtain ⟨ad, c, ys, h1, h2, _⟩ := h0
  obtain ⟨ie, hu, hie, hs, hpos⟩ := slice_parts ht
  have hr := h.ev hx hox
  rw [h1] at hr
  refine ⟨sliced ad l m c sz, fun w' _ => ?_, list_sliced hr hlm hm⟩
  have hm' : (m : Int) ≤ (c : Int) := by omega
  have hlo : lo = none ∧ l = 0 ∨ ∃ y k, lo = some y ∧ a.eval y = .int k (l : Nat) := by
    cases lo with
    | none => simp only [bnd, Option.some.injEq] at hl; exact .inl ⟨rfl, by omega⟩
    | some y =>
      simp only [bnd] at hl
      split at hl
      · rename_i k n hy
        split at hl
        · rename_i hok
          cases hl
          exact .inr ⟨y, k, rfl, h.ev hy hok⟩
        · cases hl
      · cases hl
  have hhi : hi = none ∧ m = xs.length ∨ ∃ y k, hi = some y ∧ a.eval y = .int k (m : Nat) := by
    cases hi with
    | none => simp only [bnd, Option.some.injEq] at hh; exact .inl ⟨rfl, by omega⟩
    | some y =>
      simp only [bnd] at hh
      split at hh
      · rename_i k n hy
        split at hh
        · rename_i hok
          cases hh
          exact .inr ⟨y, k, rfl, h.ev hy hok⟩
        · cases hh
      · cases hh
  have hb : (Instr.sliceBounds true xs.length c (lo.map a.eval) (hi.map a.eval) none).run E.P w' = .ok (l, m, c) w' := by
    rcases hlo with ⟨rfl, rfl⟩ | ⟨y, k, rfl, hy⟩ <;> rcases hhi with ⟨rfl, rfl⟩ | ⟨y', k', rfl, hy'⟩
    · simp [Instr.sliceBounds]
    · simp [Instr.sliceBounds, hy', Instr.sliceBound, asIntOf, hm', show ¬ c < m by omega]
    · have : (l : Int) ≤ (xs.length : Int) := by omega
      simp [Instr.sliceBounds, hy, Instr.sliceBound, asIntOf, this, show ¬ xs.length < l by omega]
    · have : (l : Int) ≤ (m : Int) := by omega
      simp [Instr.sliceBounds, hy, hy', Instr.sliceBound, asIntOf, hm', this, show m ≤ c by omega, hlm]
  simp [execOp, h1, Instr.sliceAt, run_underlying hu, Instr.slice, hb, run_size hie, hs, sliced]
theorem q_index_str {t i : Nat} {x y : Operand} {s : ByteArray} {k : IntKind} {n : Int} {c : UInt8} [ht : TStr E.P t] (hx : S.ev x = some (.d (.str s))) (hy : S.ev y = some (.d (.int k n))) (hox : okOp x = true) (hoy : okOp y = true) (hi : n = (i : Nat)) (hc : s.data.toList[i]? = some c) :
    Swift E S ⟨dst, .index t x y, ty, pos, af, gd⟩ (.d (.int .u8 c.toNat)) := Swift.mk fun β a w h => by
  subst hi
  have h1 : a.eval x = .string s := h.ev hx hox
  have h2 : a.eval y = .int k (i : Nat) := h.ev hy hoy
  refine ⟨.int .u8 c.toNat, fun w' _ => ?_, rfl⟩
  have h3 : s[i]? = some c := by
    obtain ⟨h4, h5⟩ := List.getElem?_eq_some_iff.1 hc
    rw [getElem?_pos s i (by simpa using h4)]
    rw [← h5]
    rfl
  simp [execOp, h1, h2, Instr.index, asIntOf, run_underlying (str_parts ht), h3]
end
end
section
def zeroCell : Value → V → Bool
  | .int k n, .d (.int k' n') => decide (k = k') && decide (n = n')
  | .bool b, .d (.bool b') => b == b'
  | .string t, .d (.str t') => t.size == 0 && t'.size == 0
  | .slice none 0 0, .nils _ => true
  | .pointer none, .d (.raw (.pointer none)) => true
  | .map none, .d (.raw (.map none)) => true
  | .nilFunc, .d (.raw .nilFunc) => true
  | _, _ => false
def zeroRep : List Value → List V → Bool
  | [], [] => true
  | u :: us, v :: vs => zeroCell u v && zeroRep us vs
  | _, _ => false
def zeroOk (P : Program) (t : Nat) (vs : List V) : Bool := match P.info? t with
  | some i => (match i.zero with | some z => zeroRep z.cells.toList vs && i.size == z.cells.size | none => false)
  | none => false
class TZero (P : Program) (t : Nat) (vs : outParam (List V)) : Prop where
  ok : zeroOk P t vs = true
class TSize (P : Program) (t : Nat) (n : outParam Nat) : Prop where
  ok : (P.info? t).map (·.size) = some n
def callOk (P : Program) (f : Nat) : Bool := match P.funcs[f]? with
  | some fn => fn.body.isSome && !(fn.name == "runtime.NumGoroutine")
  | none => false
class TFun (P : Program) (f : Nat) : Prop where
  ok : callOk P f = true
theorem empty_str {s t : ByteArray} (h1 : s.size = 0) (h2 : t.size = 0) : s = t := by
  cases s with | mk a =>
  cases t with | mk b =>
  have ha : a = #[] := Array.size_eq_zero_iff.1 h1
  have hb : b = #[] := Array.size_eq_zero_iff.1 h2
  rw [ha, hb]
theorem zeroCell_rep {w : World} {M : Nat → Nat → Prop} {β : Nat → Hd} {H : List (Nat × Ob)} {u : Value} {v : V} (h : zeroCell u v = true) : RepV w M β H v u := by
  unfold zeroCell at h
  split at h
  · simp only [Bool.and_eq_true, decide_eq_true_eq] at h; obtain ⟨rfl, rfl⟩ := h; rfl
  · simp only [beq_iff_eq] at h; subst h; rfl
  · simp only [Bool.and_eq_true, beq_iff_eq] at h; rw [empty_str h.1 h.2]; rfl
  · rfl
  · exact ⟨rfl, rfl⟩
  · exact ⟨rfl, rfl⟩
  · exact ⟨rfl, rfl⟩
  · cases h
theorem zeroRep_rep {w : World} {M : Nat → Nat → Prop} {β : Nat → Hd} {H : List (Nat × Ob)} : ∀ {us : List Value} {vs : List V}, zeroRep us vs = true → RepL w M β H vs us
  | [], [], _ => rfl
  | u :: us, v :: vs, h => by
    simp only [zeroRep, Bool.and_eq_true] at h
    exact ⟨u, us, rfl, zeroCell_rep h.1, zeroRep_rep h.2⟩
  | [], _ :: _, h => by cases h
  | _ :: _, [], h => by cases h
theorem zero_parts {P : Program} {t : Nat} {vs : List V} (h : TZero P t vs) : ∃ i z, P.info? t = some i ∧ i.zero = some z ∧ zeroRep z.cells.toList vs = true ∧ i.size = z.cells.size := by
  have := h.ok
  unfold zeroOk at this
  cases hi : P.info? t with
  | none => rw [hi] at this; cases this
  | some i =>
    rw [hi] at this
    dsimp only at this
    cases hz : i.zero with
    | none => rw [hz] at this; cases this
    | some z =>
      rw [hz] at this
      simp only [Bool.and_eq_true, beq_iff_eq] at this
      exact ⟨i, z, rfl, hz, this.1, this.2⟩
inductive MapD : List D → List V → Prop
  | nil : MapD [] []
  | cons {x : D} {xs : List D} {vs : List V} (h : MapD xs vs) : MapD (x :: xs) (.d x :: vs)
  | nils {sz : Nat} {xs : List D} {vs : List V} (h : MapD xs vs) : MapD (.nil sz :: xs) (.nils sz :: vs)
inductive CellsV : V → List V → Prop
  | d {x : D} {cs : List D} {vs : List V} (h : CellsD x cs) (m : MapD cs vs) : CellsV (.d x) vs
  | own (n k : Nat) : CellsV (.own n k) [.own n k]
  | nils (sz : Nat) : CellsV (.nils sz) [.nils sz]
  | ptr (n o : Nat) : CellsV (.ptr n o) [.ptr n o]
  | sl (n o l c : Nat) : CellsV (.sl n o l c) [.sl n o l c]
  | map (n : Nat) : CellsV (.map n) [.map n]
  | clo (fn : Fn) (f c : List V) : CellsV (.clo fn f c) [.clo fn f c]
  | agg (vs : List V) : CellsV (.agg vs) vs
  | ifc (t : TypeId) (v : V) : CellsV (.ifc t v) [.ifc t v]
theorem MapD.rep {w : World} {M : Nat → Nat → Prop} {β : Nat → Hd} {H : List (Nat × Ob)} {xs : List D} {vs : List V} (h : MapD xs vs) : ∀ {us : List Value}, RepA w M xs us → RepL w M β H vs us := by
  induction h with
  | nil => intro us h; exact h
  | cons _ ih => intro us h; obtain ⟨u, r, h1, _, h3, h4⟩ := h; exact ⟨u, r, h1, h3, ih h4⟩
  | nils _ ih => intro us h; obtain ⟨u, r, h1, _, h3, h4⟩ := h; exact ⟨u, r, h1, h3, ih h4⟩
theorem CellsV.rep {C : Ctx} {β : Nat → Hd} {S : Sd} {a : Act} {w : World} (h : StB C β S a w) {v : V} {vs : List V} (hc : CellsV v vs) {u : Value} (hu : RepV w (Mut C.M0 β S.H) β S.H v u) (hown : ∀ n k, v = .own n k → ∃ e sz sh xs, look n S.H = some (.row e sz sh xs k)) :
    RepL w (Mut C.M0 β S.H) β S.H vs u.cells.toList ∧ ∀ x ∈ u.cells.toList, x.oneCell' = true := by
  cases hc with
  | d hx m => exact ⟨m.rep (hx.rep hu), RepD.one hu⟩
  | own n k =>
    obtain ⟨e, sz, sh, xs, hl⟩ := hown n k rfl
    have h0 := hu e sz sh xs hl
    obtain ⟨ys, h1, _⟩ := h.obs n _ hl
    obtain ⟨ad, c, h2, _⟩ := owns_shape h1
    rw [h2] at h0
    subst h0
    exact ⟨⟨_, [], rfl, hu, rfl⟩, fun x hx => by simp [Value.cells] at hx; subst hx; rfl⟩
  | nils => have h0 := hu; simp only [RepV] at hu; subst hu; exact ⟨⟨_, [], rfl, h0, rfl⟩, fun x hx => by simp [Value.cells] at hx; subst hx; rfl⟩
  | ptr => have h0 := hu; simp only [RepV] at hu; obtain ⟨b, _, rfl⟩ := hu; exact ⟨⟨_, [], rfl, h0, rfl⟩, fun x hx => by simp [Value.cells] at hx; subst hx; rfl⟩
  | sl => have h0 := hu; simp only [RepV] at hu; obtain ⟨b, _, rfl⟩ := hu; exact ⟨⟨_, [], rfl, h0, rfl⟩, fun x hx => by simp [Value.cells] at hx; subst hx; rfl⟩
  | map => have h0 := hu; simp only [RepV] at hu; obtain ⟨b, _, rfl⟩ := hu; exact ⟨⟨_, [], rfl, h0, rfl⟩, fun x hx => by simp [Value.cells] at hx; subst hx; rfl⟩
  | agg vs => obtain ⟨us, rfl, h1, h2⟩ := hu; exact ⟨by simpa [Value.cells] using h2, fun x hx => h1 x (by simpa [Value.cells] using hx)⟩
  | ifc => have h0 := hu; simp only [RepV] at hu; obtain ⟨b, rfl, _⟩ := hu; exact ⟨⟨_, [], rfl, h0, rfl⟩, fun x hx => by simp [Value.cells] at hx; subst hx; rfl⟩
  | clo => have h0 := hu; simp only [RepV] at hu; obtain ⟨b, c, rfl, _⟩ := hu; exact ⟨⟨_, [], rfl, h0, rfl⟩, fun x hx => by simp [Value.cells] at hx; subst hx; rfl⟩
def ownOk (S : Sd) (v : V) : Bool := match v with
  | .own n k => (match look n S.H with | some (.row _ _ _ _ k') => Nat.beq k' k | _ => false)
  | _ => true
theorem ownOk_row {S : Sd} {n k e sz : Nat} {sh : Bool} {xs : List D} (h : look n S.H = some (.row e sz sh xs k)) : ownOk S (.own n k) = true := by simp [ownOk, h]
theorem ownOk_spec {S : Sd} {v : V} (h : ownOk S v = true) : ∀ n k, v = .own n k → ∃ e sz sh xs, look n S.H = some (.row e sz sh xs k) := by
  rintro n k rfl
  simp only [ownOk] at h
  split at h
  · rename_i e sz sh xs k' hl
    obtain rfl := Nat.eq_of_beq_eq_true h
    exact ⟨e, sz, sh, xs, hl⟩
  · cases h
theorem saysL_of {vs : List V} {n : Nat} (h : saysL n vs = false) {w w' : World} {M M' : Nat → Nat → Prop} {β β' : Nat → Hd} {H H' : List (Nat × Ob)} (k : Keeps w M w' M') (hβ : ∀ m, m ≠ n → β' m = β m) (hH : ∀ m, m ≠ n → look m H' = look m H) {us : List Value}
    (hr : RepL w M β H vs us) : RepL w' M' β' H' vs us := RepL.fresh k hβ hH vs us h hr
section
variable {E : Set} {S : Sd} {dst : Option Tmp} {ty : TypeId} {pos : String} {af : Array Edge} {gd : Option (Nat × Bool)}
theorem StB.newBox {C : Ctx} {β : Nat → Hd} {a : Act} {w : World} (h : StB C β S a w) {n : Nat} (hn : S.fresh n = true) {cs : List V} (hs : saysL n cs = false) {us : List Value} (hr : RepL w (Mut C.M0 β S.H) β S.H cs us) (t : TypeId) :
    StB C (upd β n (.pointer (some ⟨w.heap.size, 0, none⟩))) { S with H := (n, .box cs) :: S.H } a (w.alloc (.cells us.toArray t)) := by
  refine h.newObj hn (.pointer (some ⟨w.heap.size, 0, none⟩)) (Grows.alloc w _) (fun b hb' => ?_) (.box cs) fun k => ?_
  · simp only [hb, Option.some.injEq] at hb'
    omega
  · exact ⟨w.heap.size, us, t, rfl, heap_alloc_new w _, saysL_of hs k (fun m hm => upd_other β n _ hm) (fun m hm => by rw [look_set, if_neg (Ne.symm hm)]) hr⟩
theorem g_alloc {d n t : Nat} {vs : List V} [ht : TZero E.P t vs] (hn : S.fresh n = true) (hs : saysL n vs = false) : Grow E S ⟨some d, .alloc t, ty, pos, af, gd⟩ { S with H := (n, .box vs) :: S.H } (.ptr n 0) := Grow.mk fun β a w h => by
  obtain ⟨i, z, hi, hz, h1, h2⟩ := zero_parts ht
  refine ⟨.pointer (some ⟨w.heap.size, 0, none⟩), w.alloc (.cells z.cells t), upd β n (.pointer (some ⟨w.heap.size, 0, none⟩)), ?_, Grows.alloc w _, ?_, ⟨w.heap.size, upd_v _ _ _, rfl⟩⟩
  · simp [execOp, Instr.alloc, zeroValue, typeInfo, hi, hz, newVar, newRow]
  · have := h.newBox hn hs (zeroRep_rep h1) t
    simpa using this
theorem g_box {d n t : Nat} {x : Operand} {v : V} {vs : List V} (hx : S.ev x = some v) (hox : okOp x = true) (hown : ownOk S v = true) (hc : CellsV v vs) (hn : S.fresh n = true) (hs : saysL n vs = false) : Grow E S ⟨some d, .box t x, ty, pos, af, gd⟩ { S with H := (n, .box vs) :: S.H } (.ptr n 0) := Grow.mk fun β a w h => by
  obtain ⟨h1, _⟩ := hc.rep h (h.ev hx hox) (ownOk_spec hown)
  refine ⟨.pointer (some ⟨w.heap.size, 0, none⟩), w.alloc (.cells (a.eval x).cells t), upd β n (.pointer (some ⟨w.heap.size, 0, none⟩)), ?_, Grows.alloc w _, ?_, ⟨w.heap.size, upd_v _ _ _, rfl⟩⟩
  · simp [execOp, Instr.box, newVar, newRow]
  · have := h.newBox hn hs h1 t
    simpa using this
theorem StB.setBoxes {C : Ctx} {β : Nat → Hd} {a : Act} {w : World} (h : StB C β S a w) {n b : Nat} {cs xs cs' : List V} (hl : look n S.H = some (.box cs)) (hb' : (β n).v = .pointer (some ⟨b, 0, none⟩)) {o : Nat} (hr : Repl cs o xs cs') {us : List Value}
    (hx : RepL w (Mut C.M0 β S.H) β S.H xs us) {vs : List Value} {t : TypeId} (hv : w.heap[b]? = some (.cells vs.toArray t (0, 0))) :
    StB C β { S with H := (n, .box cs') :: S.H } a (w.setRow b (vs.take o ++ us ++ vs.drop (o + us.length)).toArray) := by
  obtain ⟨b2, vs2, t2, h1, h2, h3⟩ := h.obs n _ hl
  rw [hb'] at h1
  cases h1
  rw [hv] at h2
  simp only [Option.some.injEq, Obj.cells.injEq] at h2
  obtain ⟨e1, rfl, _⟩ := h2
  have e1 : vs = vs2 := by simpa using congrArg Array.toList e1
  subst e1
  have hbn : hb (β n).v = some b := by rw [hb']; rfl
  have hH : ∀ m e sz sh xs k, look m ((n, Ob.box cs') :: S.H) = some (.row e sz sh xs k) → ∃ sh' xs', look m S.H = some (.row e sz sh' xs' k) := fun m e sz sh xs k hm => by
    rw [look_set] at hm
    split at hm
    · cases hm
    · exact ⟨sh, xs, hm⟩
  refine h.turn hl (fun _ _ => rfl) rfl rfl rfl (by simp) (fun k _ hk => setRow_other w b k _ (fun e => hk (by rw [hbn, e]))) (fun b h => .inl h) (fun b' o' y h4 h5 _ => absurd trivial h5) (fun _ _ _ _ _ => trivial)
    (fun k t x v _ => RepV.keep k (fun _ => rfl) hH x v) (fun _ => rfl) (fun k m cs vs _ _ => RepL.keep k (fun _ => rfl) hH _ vs) (fun k => ?_)
  refine ⟨b, _, t, hb', setRow_heap w b _ _ t _ hv, RepL.keep k (fun _ => rfl) hH _ _ ?_⟩
  obtain ⟨e2, _⟩ := hr.eq
  have hlen := hx.length
  rw [e2, ← hlen]
  have happ : ∀ {l1 : List V} {m1 : List Value}, RepL w (Mut C.M0 β S.H) β S.H l1 m1 → ∀ {l2 : List V} {m2 : List Value}, RepL w (Mut C.M0 β S.H) β S.H l2 m2 → RepL w (Mut C.M0 β S.H) β S.H (l1 ++ l2) (m1 ++ m2) := by
    intro l1
    induction l1 with
    | nil => intro m1 h l2 m2 h'; simp only [RepL] at h; subst h; exact h'
    | cons y l ih => intro m1 h l2 m2 h'; obtain ⟨v, r, rfl, h5, h6⟩ := h; exact ⟨v, _, rfl, h5, ih h6 h'⟩
  have htake : ∀ (k : Nat) {l : List V} {m : List Value}, RepL w (Mut C.M0 β S.H) β S.H l m → RepL w (Mut C.M0 β S.H) β S.H (l.take k) (m.take k) ∧ RepL w (Mut C.M0 β S.H) β S.H (l.drop k) (m.drop k) := by
    intro k
    induction k with
    | zero => intro l m h; exact ⟨by simp [RepL], h⟩
    | succ k ih =>
      intro l m h
      cases l with
      | nil => simp only [RepL] at h; subst h; exact ⟨by simp [RepL], by simp [RepL]⟩
      | cons y l => obtain ⟨v, r, rfl, h5, h6⟩ := h; exact ⟨⟨v, _, rfl, h5, (ih h6).1⟩, (ih h6).2⟩
  exact happ (happ (htake o h3).1 hx) (htake _ h3).2
theorem t_store {t n off m : Nat} {x y : Operand} {v : V} {vs cs cs' : List V} [ht : TSize E.P t m] (hx : S.ev x = some (.ptr n off)) (hox : okOp x = true) (hy : S.ev y = some v) (hoy : okOp y = true) (hown : ownOk S v = true) (hl : look n S.H = some (.box cs)) (hc : CellsV v vs) (hm : vs.length = m) (hr : Repl cs off vs cs') :
    Turn E S ⟨none, .store t x y, ty, pos, af, gd⟩ { S with H := (n, .box cs') :: S.H } := Turn.mk fun β a w h => by
  obtain ⟨b, h1, h2⟩ := h.ev hx hox
  obtain ⟨b2, us, t2, h3, h4, h5⟩ := h.obs n _ hl
  rw [h1] at h3
  cases h3
  obtain ⟨h6, h7⟩ := hc.rep h (h.ev hy hoy) (ownOk_spec hown)
  obtain ⟨_, h8⟩ := hr.eq
  have hlen := h6.length
  have hlen5 := h5.length
  have hst := run_storeCells_at E.P b off t2 (a.eval y).cells.toList 0 us.toArray w h4 (by simp at hlen ⊢; omega) h7
  simp only [Nat.add_zero] at hst
  cases hi : E.P.info? t with
  | none => have := ht.ok; rw [hi] at this; cases this
  | some i =>
    have hsz : i.size = m := by have := ht.ok; rw [hi] at this; simpa using this
    have hsz2 : (a.eval y).cells.size = i.size := by simp at hlen; omega
    refine ⟨_, ?_, β, h.setBoxes hl h1 hr h6 h4⟩
    simp [execOp, h2, Instr.storeAt, Instr.sureAddr, storeVar, run_size hi, hsz2, hst]
end
end
end Go.Proofs.YtjhbglklcddekaaGreatDoor
