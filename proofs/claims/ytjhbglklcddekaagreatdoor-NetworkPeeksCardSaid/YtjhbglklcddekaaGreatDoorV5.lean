/- Parts: D8, D9, D10. -/
import Derived.Test.YtjhbglklcddekaaGreatDoorV4
import Derived.Great.BuildSlice
import Derived.RangeFuncLeaves
import Derived.RangeFuncRecord
set_option linter.all false
set_option maxRecDepth 100000
set_option maxHeartbeats 16000000
namespace Go.Proofs.YtjhbglklcddekaaGreatDoor
open Go.RowKit
section
inductive Evs (S : Sd) : List Operand → List V → Prop
  | nil : Evs S [] []
  | cons {x : Operand} {v : V} {xs : List Operand} {vs : List V} (h : S.ev x = some v) (ho : okOp x = true) (t : Evs S xs vs) : Evs S (x :: xs) (v :: vs)
inductive CellsD : D → List D → Prop
  | agg (cs : List D) : CellsD (.agg cs) cs
  | int (k : IntKind) (n : Int) : CellsD (.int k n) [.int k n]
  | bool (b : Bool) : CellsD (.bool b) [.bool b]
  | str (s : ByteArray) : CellsD (.str s) [.str s]
  | list (sz : Nat) (xs : List D) : CellsD (.list sz xs) [.list sz xs]
  | ref (cs : List D) (o : Nat) : CellsD (.ref cs o) [.ref cs o]
  | clo (fn : Fn) (f c : List D) : CellsD (.clo fn f c) [.clo fn f c]
  | raw (v : Value) : CellsD (.raw v) [.raw v]
  | nil (sz : Nat) : CellsD (.nil sz) [.nil sz]
  | map (ks vs : List D) : CellsD (.map ks vs) [.map ks vs]
inductive Repl {α : Type} : List α → Nat → List α → List α → Prop
  | done (l : List α) : Repl l 0 [] l
  | here {x y : α} {l ys r : List α} (h : Repl l 0 ys r) : Repl (x :: l) 0 (y :: ys) (y :: r)
  | there {x : α} {l ys r : List α} {i : Nat} (h : Repl l i ys r) : Repl (x :: l) (i + 1) ys (x :: r)
theorem Repl.eq {α : Type} {l ys r : List α} {i : Nat} (h : Repl l i ys r) : r = l.take i ++ ys ++ l.drop (i + ys.length) ∧ i + ys.length ≤ l.length := by
  induction h with
  | done l => simp
  | here h ih =>
    obtain ⟨h1, h2⟩ := ih
    simp only [List.take_zero, List.nil_append, Nat.zero_add] at h1 h2 ⊢
    refine ⟨?_, by simpa using h2⟩
    rw [h1]
    simp
  | @there x l ys r i h ih =>
    obtain ⟨h1, h2⟩ := ih
    refine ⟨?_, by simp; omega⟩
    rw [h1, show i + 1 + ys.length = (i + ys.length) + 1 by omega]
    simp
theorem Evs.rep {C : Ctx} {β : Nat → Hd} {S : Sd} {a : Act} {w : World} (h : StB C β S a w) {xs : List Operand} {vs : List V} (he : Evs S xs vs) : RepL w (Mut C.M0 β S.H) β S.H vs (xs.map a.eval) := by
  induction he with
  | nil => rfl
  | cons h1 ho _ ih => exact ⟨_, _, rfl, h.ev h1 ho, ih⟩
theorem CellsD.rep {w : World} {M : Nat → Nat → Prop} {x : D} {cs : List D} (h : CellsD x cs) {v : Value} (hv : RepD w M x v) : RepA w M cs v.cells.toList := by
  cases h with
  | agg cs => obtain ⟨vs, rfl, h2⟩ := hv; simpa [Value.cells] using h2
  | raw u => exact ⟨v, [], by obtain ⟨rfl, h1⟩ := hv; cases v <;> simp_all [Value.cells, Value.oneCell'], hv.1 ▸ hv.2, hv, rfl⟩
  | list sz xs => have h0 := hv; obtain ⟨_, _, _, rfl, _⟩ := hv; exact ⟨_, [], rfl, rfl, h0, rfl⟩
  | ref sz xs => have h0 := hv; obtain ⟨_, _, _, rfl, _⟩ := hv; exact ⟨_, [], rfl, rfl, h0, rfl⟩
  | clo sz f xs => have h0 := hv; obtain ⟨_, _, rfl, _⟩ := hv; exact ⟨_, [], rfl, rfl, h0, rfl⟩
  | map ks vs => have h0 := hv; obtain ⟨_, _, _, rfl, _⟩ := hv; exact ⟨_, [], rfl, rfl, h0, rfl⟩
  | int k n => have h0 := hv; simp only [RepD] at hv; subst hv; exact ⟨_, [], rfl, rfl, h0, rfl⟩
  | bool b => have h0 := hv; simp only [RepD] at hv; subst hv; exact ⟨_, [], rfl, rfl, h0, rfl⟩
  | nil b => have h0 := hv; simp only [RepD] at hv; subst hv; exact ⟨_, [], rfl, rfl, h0, rfl⟩
  | str s => have h0 := hv; simp only [RepD] at hv; subst hv; exact ⟨_, [], rfl, rfl, h0, rfl⟩
section
variable {E : Set} {S : Sd} {dst : Option Tmp} {ty : TypeId} {pos : String} {af : Array Edge} {gd : Option (Nat × Bool)}
theorem bytes_beq (s t : ByteArray) {b : Bool} (hb : (b = true) = (s = t)) : (s.toList == t.toList) = b := by
  rw [ByteArray.toList_eq, ByteArray.toList_eq]
  have : (s.data.toList = t.data.toList) = (s = t) := by
    apply propext
    constructor
    · intro h
      cases s; cases t
      simp only [ByteArray.mk.injEq]
      exact Array.toList_inj.1 h
    · rintro rfl; rfl
  rw [← this] at hb
  cases b
  · simp only [Bool.false_eq_true, eq_iff_iff, false_iff] at hb
    simpa using hb
  · simp only [eq_self_iff_true, eq_iff_iff, true_iff] at hb
    simp [hb]
theorem q_str_eql {xt yt : TypeId} {x y : Operand} {s t : ByteArray} (hx : S.ev x = some (.d (.str s))) (hy : S.ev y = some (.d (.str t))) (hox : okOp x = true) (hoy : okOp y = true) {b : Bool} (hb : (b = true) = (s = t)) :
    Swift E S ⟨dst, .binOp .eql xt x y yt, ty, pos, af, gd⟩ (.d (.bool b)) := Swift.mk fun β a w h => by
  have h1 : a.eval x = .string s := h.ev hx hox
  have h2 : a.eval y = .string t := h.ev hy hoy
  refine ⟨.bool b, fun w' _ => ?_, rfl⟩
  simp [execOp, h1, h2, eqGuard, binOp, Op.stringOp, bytes_beq s t hb]
theorem q_str_neq {xt yt : TypeId} {x y : Operand} {s t : ByteArray} (hx : S.ev x = some (.d (.str s))) (hy : S.ev y = some (.d (.str t))) (hox : okOp x = true) (hoy : okOp y = true) {b : Bool} (hb : (b = true) = ¬ (s = t)) :
    Swift E S ⟨dst, .binOp .neq xt x y yt, ty, pos, af, gd⟩ (.d (.bool b)) := Swift.mk fun β a w h => by
  have h1 : a.eval x = .string s := h.ev hx hox
  have h2 : a.eval y = .string t := h.ev hy hoy
  refine ⟨.bool b, fun w' _ => ?_, rfl⟩
  have h3 : ((!b) = true) = (s = t) := by cases b <;> simp_all
  have h4 := bytes_beq s t h3
  simp [execOp, h1, h2, eqGuard, binOp, Op.stringOp, h4]
theorem q_not {xt : TypeId} {x : Operand} {b : Bool} (hx : S.ev x = some (.d (.bool b))) (hox : okOp x = true) : Swift E S ⟨dst, .unOp .not xt x, ty, pos, af, gd⟩ (.d (.bool !b)) := Swift.mk fun β a w h => by
  have h1 : a.eval x = .bool b := h.ev hx hox
  exact ⟨.bool !b, fun w' _ => by simp [execOp, h1, Op.unary], rfl⟩
def bitsI (op : BinOp) (k : IntKind) (p q : Int) : Option Int :=
  match op with
  | .and => some (k.wrap (BitVec.ofInt k.bits p &&& BitVec.ofInt k.bits q).toNat)
  | .or => some (k.wrap (BitVec.ofInt k.bits p ||| BitVec.ofInt k.bits q).toNat)
  | .xor => some (k.wrap (BitVec.ofInt k.bits p ^^^ BitVec.ofInt k.bits q).toNat)
  | .andNot => some (k.wrap (BitVec.ofInt k.bits p &&& ~~~BitVec.ofInt k.bits q).toNat)
  | _ => none
theorem q_bits {op : BinOp} {xt yt : TypeId} {x y : Operand} {k : IntKind} {p q r : Int} (hx : S.ev x = some (.d (.int k p))) (hy : S.ev y = some (.d (.int k q))) (hox : okOp x = true) (hoy : okOp y = true) (hr : bitsI op k p q = some r) :
    Swift E S ⟨dst, .binOp op xt x y yt, ty, pos, af, gd⟩ (.d (.int k r)) :=
  bin_int hx hy hox hoy (by cases op <;> simp_all [bitsI]) (v := .int k r) (fun w => by
    cases op <;> simp only [bitsI, reduceCtorEq, Option.some.injEq] at hr <;> subst hr <;> simp [binOp, Op.intBits]) (fun _ _ _ _ => rfl)
theorem q_shr {xt yt : TypeId} {x y : Operand} {k k' : IntKind} {p q : Int} (hx : S.ev x = some (.d (.int k p))) (hy : S.ev y = some (.d (.int k' q))) (hox : okOp x = true) (hoy : okOp y = true) (h0 : 0 ≤ q) :
    Swift E S ⟨dst, .binOp .shr xt x y yt, ty, pos, af, gd⟩ (.d (.int k (p.fdiv (2 ^ min q.toNat k.bits)))) := Swift.mk fun β a w h => by
  have h1 : a.eval x = .int k p := h.ev hx hox
  have h2 : a.eval y = .int k' q := h.ev hy hoy
  have h3 : ¬ q < 0 := by omega
  exact ⟨_, fun w' _ => by simp [execOp, h1, h2, eqGuard, binOp, Op.shift, h3], rfl⟩
theorem q_shl {xt yt : TypeId} {x y : Operand} {k k' : IntKind} {p q : Int} (hx : S.ev x = some (.d (.int k p))) (hy : S.ev y = some (.d (.int k' q))) (hox : okOp x = true) (hoy : okOp y = true) (h0 : 0 ≤ q) :
    Swift E S ⟨dst, .binOp .shl xt x y yt, ty, pos, af, gd⟩ (.d (.int k (k.wrap (p * 2 ^ min q.toNat k.bits)))) := Swift.mk fun β a w h => by
  have h1 : a.eval x = .int k p := h.ev hx hox
  have h2 : a.eval y = .int k' q := h.ev hy hoy
  have h3 : ¬ q < 0 := by omega
  exact ⟨_, fun w' _ => by simp [execOp, h1, h2, eqGuard, binOp, Op.shift, h3], rfl⟩
theorem q_conv {st dt : TypeId} {x : Operand} {k k' : IntKind} {n : Int} [hs : TInt E.P st k] [hd : TInt E.P dt k'] (hx : S.ev x = some (.d (.int k n))) (hox : okOp x = true) (hin : inK k' n) : Swift E S ⟨dst, .convert st dt x, ty, pos, af, gd⟩ (.d (.int k' n)) := Swift.mk fun β a w h => by
  have h1 : a.eval x = .int k n := h.ev hx hox
  exact ⟨.int k' n, fun w' _ => by simp [execOp, h1, convert, run_underlying (int_parts hs), run_underlying (int_parts hd), Conv.intToInt, wrap_in hin], rfl⟩
theorem q_conv_w {st dt : TypeId} {x : Operand} {k k' : IntKind} {n : Int} [hs : TInt E.P st k] [hd : TInt E.P dt k'] (hx : S.ev x = some (.d (.int k n))) (hox : okOp x = true) : Swift E S ⟨dst, .convert st dt x, ty, pos, af, gd⟩ (.d (.int k' (k'.wrap n))) := Swift.mk fun β a w h => by
  have h1 : a.eval x = .int k n := h.ev hx hox
  exact ⟨.int k' (k'.wrap n), fun w' _ => by simp [execOp, h1, convert, run_underlying (int_parts hs), run_underlying (int_parts hd), Conv.intToInt], rfl⟩
theorem q_extract {x : Operand} {vs : List V} {i : Nat} {v : V} (hx : S.ev x = some (.tup vs)) (hox : okOp x = true) (hv : vs[i]? = some v) : Swift E S ⟨dst, .extract x i, ty, pos, af, gd⟩ v := Swift.mk fun β a w h => by
  obtain ⟨us, h1, h2⟩ := h.ev hx hox
  obtain ⟨u, h3, h4⟩ := RepL.get h2 hv
  exact ⟨u, fun w' _ => by simp [execOp, h1, Instr.extract, h3], h4⟩
theorem q_makeFunc {fn : Fn} {f c : List Operand} {fs cs : List V} (hf : Evs S f fs) (hc : Evs S c cs) : Swift E S ⟨dst, .makeFunc fn f.toArray c.toArray, ty, pos, af, gd⟩ (.clo fn fs cs) := Swift.mk fun β a w h =>
  ⟨.func fn (f.map a.eval).toArray (c.map a.eval).toArray, fun w' _ => by simp [execOp, Instr.makeFunc], _, _, rfl, hf.rep h, hc.rep h⟩
theorem q_len {t : TypeId} {e sz : Nat} {x : Operand} {sz' n : Nat} {xs : List D} [ht : TSlice E.P t e sz] (hx : S.ev x = some (.d (.list sz' xs))) (hox : okOp x = true) (hn : xs.length = n) : Swift E S ⟨dst, .call { callee := .builtin .len, args := #[x], argTypes := #[t] }, ty, pos, af, gd⟩ (.d (.int .i64 (n : Nat))) := Swift.mk fun β a w h => by
  subst hn
  obtain ⟨ad, c, ys, h1, _⟩ := h.ev hx hox
  obtain ⟨i, hu, _⟩ := slice_parts ht
  exact ⟨.int .i64 (xs.length : Nat), fun w' _ => by simp [execOp, resolve, invoke, builtin, h1, Builtin.len_, run_underlying hu, goInt], rfl⟩
theorem q_len_own {t : TypeId} {e sz : Nat} {x : Operand} {n k e' sz' m : Nat} {sh : Bool} {xs : List D} [ht : TSlice E.P t e sz] (hx : S.ev x = some (.own n k)) (hox : okOp x = true) (hl : look n S.H = some (.row e' sz' sh xs k)) (hm : xs.length = m) :
    Swift E S ⟨dst, .call { callee := .builtin .len, args := #[x], argTypes := #[t] }, ty, pos, af, gd⟩ (.d (.int .i64 (m : Nat))) := Swift.mk fun β a w h => by
  subst hm
  have h1 : a.eval x = (β n).v := h.ev hx hox e' sz' sh xs hl
  obtain ⟨ys, h2, _⟩ := h.obs n _ hl
  obtain ⟨ad, c, h3, _⟩ := owns_shape h2
  obtain ⟨i, hu, _⟩ := slice_parts ht
  exact ⟨.int .i64 (xs.length : Nat), fun w' _ => by simp [execOp, resolve, invoke, builtin, h1, h3, Builtin.len_, run_underlying hu, goInt], rfl⟩
theorem list_elem {w : World} {M : Nat → Nat → Prop} {sz : Nat} {xs : List D} {v : Value} (h : RepD w M (.list sz xs) v) (hsz : 0 < sz) {i : Nat} {x : D} (hx : xs[i]? = some x) {cs : List D} (hc : CellsD x cs) :
    ∃ b o c, v = .slice (some ⟨b, o, none⟩) xs.length c ∧ RepD w M (.ref cs 0) (.pointer (some ⟨b, o + i * sz, none⟩)) := by
  obtain ⟨a, c, ys, rfl, h1, h2, h3, h4, h5⟩ := h
  obtain ⟨u, h6, h7, h8⟩ := h4.get hx
  have hpos : 0 < u.cells.toList.length := by simp; omega
  obtain ⟨b, o, e, _, _⟩ := h5 _ _ (h8 0 u.cells.toList[0] (by simp [hpos]))
  subst e
  refine ⟨b, o, c, rfl, b, o + i * sz, u.cells.toList, rfl, hc.rep h6, fun j y hj => ?_⟩
  obtain ⟨b', o', e', h9, h10⟩ := h5 _ _ (h8 j y hj)
  cases e'
  exact ⟨b, o + i * sz, rfl, by rwa [Nat.add_assoc], by rwa [Nat.add_assoc]⟩
theorem run_indexAt {P : Program} {t e sz : Nat} (ht : TSlice P t e sz) {b o n c i : Nat} {k : IntKind} (hi : i < n) (w : World) : (Instr.indexAt t (.slice (some ⟨b, o, none⟩) n c) (.int k (i : Nat))).run P w = .ok (.pointer (some ⟨b, o + i * sz, none⟩)) w := by
  obtain ⟨ie, hu, hie, hs, _⟩ := slice_parts ht
  have h1 : (i : Int) < (n : Int) := by omega
  have h2 : ¬ n ≤ i := by omega
  simp [Instr.indexAt, asIntOf, run_underlying hu, h1, h2, run_size hie, hs, add_flat]
theorem q_index {t e sz i : Nat} {x y : Operand} {xs cs : List D} {z : D} {k : IntKind} {n : Int} [ht : TSlice E.P t e sz] (hx : S.ev x = some (.d (.list sz xs))) (hy : S.ev y = some (.d (.int k n))) (hox : okOp x = true) (hoy : okOp y = true) (hi : n = (i : Nat)) (hz : xs[i]? = some z) (hc : CellsD z cs) :
    Swift E S ⟨dst, .indexAddr t x y, ty, pos, af, gd⟩ (.d (.ref cs 0)) := Swift.mk fun β a w h => by
  subst hi
  obtain ⟨_, _, _, _, hsz⟩ := slice_parts ht
  obtain ⟨b, o, c, h1, h2⟩ := list_elem (h.ev hx hox) hsz hz hc
  have h3 : a.eval y = .int k (i : Nat) := h.ev hy hoy
  refine ⟨.pointer (some ⟨b, o + i * sz, none⟩), fun w' _ => ?_, h2⟩
  simp [execOp, h1, h3, run_indexAt ht (List.getElem?_eq_some_iff.1 hz).1]
theorem q_index_own {t e sz i n k' e' : Nat} {sh : Bool} {x y : Operand} {xs : List D} {k : IntKind} {m : Int} [ht : TSlice E.P t e sz] (hx : S.ev x = some (.own n k')) (hl : look n S.H = some (.row e' sz sh xs k')) (hy : S.ev y = some (.d (.int k m))) (hox : okOp x = true) (hoy : okOp y = true) (hi : m = (i : Nat)) (hz : i < xs.length) :
    Swift E S ⟨dst, .indexAddr t x y, ty, pos, af, gd⟩ (.el n k' i 0) := Swift.mk fun β a w h => by
  subst hi
  have h1 : a.eval x = (β n).v := h.ev hx hox e' sz sh xs hl
  have h3 : a.eval y = .int k (i : Nat) := h.ev hy hoy
  obtain ⟨ys, h2, _⟩ := h.obs n _ hl
  obtain ⟨ie, hu, hie, hs, hpos⟩ := slice_parts ht
  rcases h2.2 with ⟨h4, h5⟩ | ⟨g, cap, cur, h4, _, _, _⟩
  · omega
  · refine ⟨.pointer (some ⟨g, i * sz, none⟩), fun w' _ => ?_, fun e2 sz2 sh2 xs2 hl2 => ?_⟩
    · have := run_indexAt (P := E.P) (b := g) (o := 0) (c := cap) (k := k) ht hz w'
      rw [Nat.zero_add] at this
      simp [execOp, h1, h3, h4, this]
    · rw [hl] at hl2
      cases hl2
      exact ⟨g, _, cap, h4, rfl⟩
theorem row_at {C : Ctx} {β : Nat → Hd} {a : Act} {w : World} (h : StB C β S a w) {n e sz k i : Nat} {sh : Bool} {xs : List D} (hl : look n S.H = some (.row e sz sh xs k)) {z : D} (hz : xs[i]? = some z) {b l c : Nat} (hb' : (β n).v = .slice (some ⟨b, 0, none⟩) l c) :
    ∃ u, RepD w (Mut C.M0 β S.H) z u ∧ ∀ w', Grows w w' → ∀ j v, u.cells.toList[j]? = some v → w'.cell? ⟨b, i * sz + j, none⟩ = some v := by
  obtain ⟨ys, h2, h3⟩ := h.obs n _ hl
  obtain ⟨u, h4, _, h5⟩ := h3.get hz
  refine ⟨u, h4, fun w' g j v hj => ?_⟩
  have := h2.cells (g := b) (by rw [hb']; rfl) _ v (h5 j v hj)
  rw [add_flat, Nat.zero_add] at this
  exact (g.cell (p := ⟨b, i * sz + j, none⟩) (World.block_lt_of_cell? w ⟨b, i * sz + j, none⟩ this)).trans this
theorem q_load_el {t n k i off e sz : Nat} {sh : Bool} {x : Operand} {xs cs : List D} {z v : D} [ht : TCell E.P t] (hx : S.ev x = some (.el n k i off)) (hox : okOp x = true) (hl : look n S.H = some (.row e sz sh xs k)) (hz : xs[i]? = some z) (hc : CellsD z cs) (hv : cs[off]? = some v) :
    Quiet E S ⟨dst, .load t x, ty, pos, af, gd⟩ (.d v) := Quiet.mk fun β a w h => by
  obtain ⟨b, l, c, h1, h2⟩ := h.ev hx hox e sz sh xs hl
  obtain ⟨u, h3, h4⟩ := row_at h hl hz h1
  obtain ⟨u', h5, _, h6⟩ := (hc.rep h3).get hv
  refine ⟨u', fun w' g => ?_, h6⟩
  have := loadAt_cell ht (h4 w' g off u' h5)
  simp [execOp, h2, this]
theorem q_load_els {t n k i off m e sz : Nat} {sh : Bool} {x : Operand} {xs cs ds : List D} {z : D} [ht : TAgg E.P t m] (hx : S.ev x = some (.el n k i off)) (hox : okOp x = true) (hl : look n S.H = some (.row e sz sh xs k)) (hz : xs[i]? = some z) (hc : CellsD z cs) (hv : Cut cs off m ds) :
    Quiet E S ⟨dst, .load t x, ty, pos, af, gd⟩ (.d (.agg ds)) := Quiet.mk fun β a w h => by
  obtain ⟨b, l, c, h1, h2⟩ := h.ev hx hox e sz sh xs hl
  obtain ⟨u, h3, h4⟩ := row_at h hl hz h1
  obtain ⟨h5, h6⟩ := hv.eq
  have h7 : RepA w (Mut E.C.M0 β S.H) ds ((u.cells.toList.drop off).take m) := by rw [h5]; exact ((hc.rep h3).drop off).take m
  refine ⟨.agg ((u.cells.toList.drop off).take m).toArray, fun w' g => ?_, _, rfl, h7⟩
  have := loadAt_agg (vs := (u.cells.toList.drop off).take m) (w := w') (b := b) (o := i * sz + off) ht (by rw [h7.length]; exact h6) (fun j v hj => by
    rw [List.getElem?_take, List.getElem?_drop] at hj
    split at hj
    · rw [Nat.add_assoc]; exact h4 w' g _ v hj
    · cases hj)
  simp [execOp, h2, this]
theorem q_field_el {s f off' ft n k i off : Nat} {x : Operand} [ht : TField E.P s f off' ft] (hx : S.ev x = some (.el n k i off)) (hox : okOp x = true) {e sz : Nat} {sh : Bool} {xs : List D} (hl : look n S.H = some (.row e sz sh xs k)) : Swift E S ⟨dst, .fieldAddr s x f, ty, pos, af, gd⟩ (.el n k i (off + off')) := Swift.mk fun β a w h => by
  obtain ⟨b, l, c, h1, h2⟩ := h.ev hx hox e sz sh xs hl
  refine ⟨.pointer (some ⟨b, i * sz + (off + off'), none⟩), fun w' _ => by simp [execOp, h2, run_fieldAt ht, Nat.add_assoc], fun e2 sz2 sh2 xs2 hl2 => ?_⟩
  rw [hl] at hl2
  cases hl2
  exact ⟨b, l, c, h1, rfl⟩
theorem list_sliced {w : World} {M : Nat → Nat → Prop} {sz : Nat} {xs : List D} {a : Option Addr} {c : Nat} (h : RepD w M (.list sz xs) (.slice a xs.length c)) {l m : Nat} (hlm : l ≤ m) (hm : m ≤ xs.length) :
    RepD w M (.list sz ((xs.drop l).take (m - l))) (sliced a l m c sz) := by
  obtain ⟨a', c', ys, e, h1, h2, h3, h4, h5⟩ := h
  cases e
  have hlen : ((xs.drop l).take (m - l)).length = m - l := by simp; omega
  have h6 := (h4.drop l (by omega)).take (m - l) (by simp; omega)
  unfold sliced
  by_cases hc : c = l
  · have : m - l = 0 := by omega
    rw [if_pos hc]
    refine ⟨a, c - l, [], by rw [hlen], by omega, by omega, fun hn => by have := h3 hn; omega, by rw [this, List.take_zero]; rfl, Reads.nil _ _ _⟩
  · rw [if_neg hc]
    refine ⟨a.map (·.add (l * sz)), c - l, _, by rw [hlen], by omega, by omega, fun hn => ?_, h6, ?_⟩
    · cases a with
      | none => have := h3 rfl; omega
      | some ad => cases hn
    · cases a with
      | none =>
        intro j y hj
        have hl0 := h6.length
        have hc0 := h3 rfl
        have : ((xs.drop l).take (m - l)).length = 0 := by omega
        rw [this, Nat.zero_mul] at hl0
        rw [List.length_eq_zero_iff.1 hl0] at hj
        simp at hj
      | some ad =>
        have hr : Reads w M (some ad) ys := h5
        intro j y hj
        rw [List.getElem?_take] at hj
        split at hj
        · rw [List.getElem?_drop] at hj
          obtain ⟨b, o, e, h7, h8⟩ := hr _ _ hj
          cases e
          refine ⟨b, o + l * sz, by simp [add_flat], by rwa [Nat.add_assoc], by rwa [Nat.add_assoc]⟩
        · cases hj
def bnd (S : Sd) (o : Option Operand) (d : Int) : Option Int := match o with
  | none => some d
  | some x => match S.ev x with
    | some (.d (.int _ n)) => if okOp x then some n else none
    | _ => none
theorem q_slice {t e sz l m : Nat} {x : Operand} {lo hi : Option Operand} {xs : List D} {li hi' : Int} [ht : TSlice E.P t e sz] (hx : S.ev x = some (.d (.list sz xs))) (hox : okOp x = true) (hl : bnd S lo 0 = some li) (hh : bnd S hi (xs.length : Nat) = some hi') (el : li = (l : Nat)) (eh : hi' = (m : Nat)) (hlm : l ≤ m) (hm : m ≤ xs.length) :
    Swift E S ⟨dst, .slice t x lo hi none, ty, pos, af, gd⟩ (.d (.list sz ((xs.drop l).take (m - l)))) := Swift.mk fun β a w h => by
  subst el; subst eh
  have h0 := h.ev hx hox
  obtain ⟨ad, c, ys, h1, h2, _⟩ := h0
  obtain ⟨ie, hu, hie, hs, hpos⟩ := slice_parts ht
  have hr := h.ev hx hox
  rw [h1] at hr
  refine ⟨sliced ad l m c sz, fun w' _ => ?_, list_sliced hr hlm hm⟩
  have hm' : (m : Int) ≤ (c : Int) := by omega
  have hlo : lo = none ∧ l = 0 ∨ ∃ y k, lo = some y ∧ a.eval y = .int k (l : Nat) := by
    cases lo with
    | none => simp only [bnd, Option.some.injEq] at hl; exact .inl ⟨rfl, by omega⟩
    | some y =>
      simp only [bnd] at hl
      split at hl
      · rename_i k n hy
        split at hl
        · rename_i hok
          cases hl
          exact .inr ⟨y, k, rfl, h.ev hy hok⟩
        · cases hl
      · cases hl
  have hhi : hi = none ∧ m = xs.length ∨ ∃ y k, hi = some y ∧ a.eval y = .int k (m : Nat) := by
    cases hi with
    | none => simp only [bnd, Option.some.injEq] at hh; exact .inl ⟨rfl, by omega⟩
    | some y =>
      simp only [bnd] at hh
      split at hh
      · rename_i k n hy
        split at hh
        · rename_i hok
          cases hh
          exact .inr ⟨y, k, rfl, h.ev hy hok⟩
        · cases hh
      · cases hh
  have hb : (Instr.sliceBounds true xs.length c (lo.map a.eval) (hi.map a.eval) none).run E.P w' = .ok (l, m, c) w' := by
    rcases hlo with ⟨rfl, rfl⟩ | ⟨y, k, rfl, hy⟩ <;> rcases hhi with ⟨rfl, rfl⟩ | ⟨y', k', rfl, hy'⟩
    · simp [Instr.sliceBounds]
    · simp [Instr.sliceBounds, hy', Instr.sliceBound, asIntOf, hm', show ¬ c < m by omega]
    · have : (l : Int) ≤ (xs.length : Int) := by omega
      simp [Instr.sliceBounds, hy, Instr.sliceBound, asIntOf, this, show ¬ xs.length < l by omega]
    · have : (l : Int) ≤ (m : Int) := by omega
      simp [Instr.sliceBounds, hy, hy', Instr.sliceBound, asIntOf, hm', this, show m ≤ c by omega, hlm]
  simp [execOp, h1, Instr.sliceAt, run_underlying hu, Instr.slice, hb, run_size hie, hs, sliced]
end
end
section
def zeroCell : Value → V → Bool
  | .int k n, .d (.int k' n') => decide (k = k') && decide (n = n')
  | .bool b, .d (.bool b') => b == b'
  | .string t, .d (.str t') => t.size == 0 && t'.size == 0
  | .slice none 0 0, .nils _ => true
  | .pointer none, .d (.raw (.pointer none)) => true
  | .map none, .d (.raw (.map none)) => true
  | .nilFunc, .d (.raw .nilFunc) => true
  | _, _ => false
def zeroRep : List Value → List V → Bool
  | [], [] => true
  | u :: us, v :: vs => zeroCell u v && zeroRep us vs
  | _, _ => false
def zeroOk (P : Program) (t : Nat) (vs : List V) : Bool := match P.info? t with
  | some i => (match i.zero with | some z => zeroRep z.cells.toList vs && i.size == z.cells.size | none => false)
  | none => false
class TZero (P : Program) (t : Nat) (vs : outParam (List V)) : Prop where
  ok : zeroOk P t vs = true
class TSize (P : Program) (t : Nat) (n : outParam Nat) : Prop where
  ok : (P.info? t).map (·.size) = some n
def callOk (P : Program) (f : Nat) : Bool := match P.funcs[f]? with
  | some fn => fn.body.isSome && !(fn.name == "runtime.NumGoroutine")
  | none => false
class TFun (P : Program) (f : Nat) : Prop where
  ok : callOk P f = true
theorem empty_str {s t : ByteArray} (h1 : s.size = 0) (h2 : t.size = 0) : s = t := by
  cases s with | mk a =>
  cases t with | mk b =>
  have ha : a = #[] := Array.size_eq_zero_iff.1 h1
  have hb : b = #[] := Array.size_eq_zero_iff.1 h2
  rw [ha, hb]
theorem zeroCell_rep {w : World} {M : Nat → Nat → Prop} {β : Nat → Hd} {H : List (Nat × Ob)} {u : Value} {v : V} (h : zeroCell u v = true) : RepV w M β H v u := by
  unfold zeroCell at h
  split at h
  · simp only [Bool.and_eq_true, decide_eq_true_eq] at h; obtain ⟨rfl, rfl⟩ := h; rfl
  · simp only [beq_iff_eq] at h; subst h; rfl
  · simp only [Bool.and_eq_true, beq_iff_eq] at h; rw [empty_str h.1 h.2]; rfl
  · rfl
  · exact ⟨rfl, rfl⟩
  · exact ⟨rfl, rfl⟩
  · exact ⟨rfl, rfl⟩
  · cases h
theorem zeroRep_rep {w : World} {M : Nat → Nat → Prop} {β : Nat → Hd} {H : List (Nat × Ob)} : ∀ {us : List Value} {vs : List V}, zeroRep us vs = true → RepL w M β H vs us
  | [], [], _ => rfl
  | u :: us, v :: vs, h => by
    simp only [zeroRep, Bool.and_eq_true] at h
    exact ⟨u, us, rfl, zeroCell_rep h.1, zeroRep_rep h.2⟩
  | [], _ :: _, h => by cases h
  | _ :: _, [], h => by cases h
theorem zero_parts {P : Program} {t : Nat} {vs : List V} (h : TZero P t vs) : ∃ i z, P.info? t = some i ∧ i.zero = some z ∧ zeroRep z.cells.toList vs = true ∧ i.size = z.cells.size := by
  have := h.ok
  unfold zeroOk at this
  cases hi : P.info? t with
  | none => rw [hi] at this; cases this
  | some i =>
    rw [hi] at this
    dsimp only at this
    cases hz : i.zero with
    | none => rw [hz] at this; cases this
    | some z =>
      rw [hz] at this
      simp only [Bool.and_eq_true, beq_iff_eq] at this
      exact ⟨i, z, rfl, hz, this.1, this.2⟩
inductive MapD : List D → List V → Prop
  | nil : MapD [] []
  | cons {x : D} {xs : List D} {vs : List V} (h : MapD xs vs) : MapD (x :: xs) (.d x :: vs)
  | nils {sz : Nat} {xs : List D} {vs : List V} (h : MapD xs vs) : MapD (.nil sz :: xs) (.nils sz :: vs)
inductive CellsV : V → List V → Prop
  | d {x : D} {cs : List D} {vs : List V} (h : CellsD x cs) (m : MapD cs vs) : CellsV (.d x) vs
  | own (n k : Nat) : CellsV (.own n k) [.own n k]
  | nils (sz : Nat) : CellsV (.nils sz) [.nils sz]
  | ptr (n o : Nat) : CellsV (.ptr n o) [.ptr n o]
  | sl (n o l c : Nat) : CellsV (.sl n o l c) [.sl n o l c]
  | map (n : Nat) : CellsV (.map n) [.map n]
  | clo (fn : Fn) (f c : List V) : CellsV (.clo fn f c) [.clo fn f c]
  | agg (vs : List V) : CellsV (.agg vs) vs
  | ifc (t : TypeId) (v : V) : CellsV (.ifc t v) [.ifc t v]
  | bsl (n o l : Nat) : CellsV (.bsl n o l) [.bsl n o l]
theorem MapD.rep {w : World} {M : Nat → Nat → Prop} {β : Nat → Hd} {H : List (Nat × Ob)} {xs : List D} {vs : List V} (h : MapD xs vs) : ∀ {us : List Value}, RepA w M xs us → RepL w M β H vs us := by
  induction h with
  | nil => intro us h; exact h
  | cons _ ih => intro us h; obtain ⟨u, r, h1, _, h3, h4⟩ := h; exact ⟨u, r, h1, h3, ih h4⟩
  | nils _ ih => intro us h; obtain ⟨u, r, h1, _, h3, h4⟩ := h; exact ⟨u, r, h1, h3, ih h4⟩
theorem CellsV.rep {C : Ctx} {β : Nat → Hd} {S : Sd} {a : Act} {w : World} (h : StB C β S a w) {v : V} {vs : List V} (hc : CellsV v vs) {u : Value} (hu : RepV w (Mut C.M0 β S.H) β S.H v u) (hown : ∀ n k, v = .own n k → ∃ e sz sh xs, look n S.H = some (.row e sz sh xs k)) :
    RepL w (Mut C.M0 β S.H) β S.H vs u.cells.toList ∧ ∀ x ∈ u.cells.toList, x.oneCell' = true := by
  cases hc with
  | d hx m => exact ⟨m.rep (hx.rep hu), RepD.one hu⟩
  | own n k =>
    obtain ⟨e, sz, sh, xs, hl⟩ := hown n k rfl
    have h0 := hu e sz sh xs hl
    obtain ⟨ys, h1, _⟩ := h.obs n _ hl
    obtain ⟨ad, c, h2, _⟩ := owns_shape h1
    rw [h2] at h0
    subst h0
    exact ⟨⟨_, [], rfl, hu, rfl⟩, fun x hx => by simp [Value.cells] at hx; subst hx; rfl⟩
  | nils => have h0 := hu; simp only [RepV] at hu; subst hu; exact ⟨⟨_, [], rfl, h0, rfl⟩, fun x hx => by simp [Value.cells] at hx; subst hx; rfl⟩
  | ptr => have h0 := hu; simp only [RepV] at hu; obtain ⟨b, _, rfl⟩ := hu; exact ⟨⟨_, [], rfl, h0, rfl⟩, fun x hx => by simp [Value.cells] at hx; subst hx; rfl⟩
  | sl => have h0 := hu; simp only [RepV] at hu; obtain ⟨b, _, rfl⟩ := hu; exact ⟨⟨_, [], rfl, h0, rfl⟩, fun x hx => by simp [Value.cells] at hx; subst hx; rfl⟩
  | map => have h0 := hu; simp only [RepV] at hu; obtain ⟨b, _, rfl⟩ := hu; exact ⟨⟨_, [], rfl, h0, rfl⟩, fun x hx => by simp [Value.cells] at hx; subst hx; rfl⟩
  | agg vs => obtain ⟨us, rfl, h1, h2⟩ := hu; exact ⟨by simpa [Value.cells] using h2, fun x hx => h1 x (by simpa [Value.cells] using hx)⟩
  | bsl => have h0 := hu; simp only [RepV] at hu; obtain ⟨b, c, _, rfl, _⟩ := hu; exact ⟨⟨_, [], rfl, h0, rfl⟩, fun x hx => by simp [Value.cells] at hx; subst hx; rfl⟩
  | ifc => have h0 := hu; simp only [RepV] at hu; obtain ⟨b, rfl, _⟩ := hu; exact ⟨⟨_, [], rfl, h0, rfl⟩, fun x hx => by simp [Value.cells] at hx; subst hx; rfl⟩
  | clo => have h0 := hu; simp only [RepV] at hu; obtain ⟨b, c, rfl, _⟩ := hu; exact ⟨⟨_, [], rfl, h0, rfl⟩, fun x hx => by simp [Value.cells] at hx; subst hx; rfl⟩
def ownOk (S : Sd) (v : V) : Bool := match v with
  | .own n k => (match look n S.H with | some (.row _ _ _ _ k') => Nat.beq k' k | _ => false)
  | _ => true
theorem ownOk_row {S : Sd} {n k e sz : Nat} {sh : Bool} {xs : List D} (h : look n S.H = some (.row e sz sh xs k)) : ownOk S (.own n k) = true := by simp [ownOk, h]
theorem ownOk_spec {S : Sd} {v : V} (h : ownOk S v = true) : ∀ n k, v = .own n k → ∃ e sz sh xs, look n S.H = some (.row e sz sh xs k) := by
  rintro n k rfl
  simp only [ownOk] at h
  split at h
  · rename_i e sz sh xs k' hl
    obtain rfl := Nat.eq_of_beq_eq_true h
    exact ⟨e, sz, sh, xs, hl⟩
  · cases h
theorem saysL_of {vs : List V} {n : Nat} (h : saysL n vs = false) {w w' : World} {M M' : Nat → Nat → Prop} {β β' : Nat → Hd} {H H' : List (Nat × Ob)} (k : Keeps w M w' M') (hβ : ∀ m, m ≠ n → β' m = β m) (hH : ∀ m, m ≠ n → look m H' = look m H) {us : List Value}
    (hr : RepL w M β H vs us) : RepL w' M' β' H' vs us := RepL.fresh k hβ hH vs us h hr
section
variable {E : Set} {S : Sd} {dst : Option Tmp} {ty : TypeId} {pos : String} {af : Array Edge} {gd : Option (Nat × Bool)}
theorem StB.newBox {C : Ctx} {β : Nat → Hd} {a : Act} {w : World} (h : StB C β S a w) {n : Nat} (hn : S.fresh n = true) {cs : List V} (hs : saysL n cs = false) {us : List Value} (hr : RepL w (Mut C.M0 β S.H) β S.H cs us) (t : TypeId) :
    StB C (upd β n (.pointer (some ⟨w.heap.size, 0, none⟩))) { S with H := (n, .box cs) :: S.H } a (w.alloc (.cells us.toArray t)) := by
  refine h.newObj hn (.pointer (some ⟨w.heap.size, 0, none⟩)) (Grows.alloc w _) (fun b hb' => ?_) (.box cs) fun k => ?_
  · simp only [hb, Option.some.injEq] at hb'
    omega
  · exact ⟨w.heap.size, us, t, rfl, heap_alloc_new w _, saysL_of hs k (fun m hm => upd_other β n _ hm) (fun m hm => by rw [look_set, if_neg (Ne.symm hm)]) hr⟩
theorem g_alloc {d n t : Nat} {vs : List V} [ht : TZero E.P t vs] (hn : S.fresh n = true) (hs : saysL n vs = false) : Grow E S ⟨some d, .alloc t, ty, pos, af, gd⟩ { S with H := (n, .box vs) :: S.H } (.ptr n 0) := Grow.mk fun β a w h => by
  obtain ⟨i, z, hi, hz, h1, h2⟩ := zero_parts ht
  refine ⟨.pointer (some ⟨w.heap.size, 0, none⟩), w.alloc (.cells z.cells t), upd β n (.pointer (some ⟨w.heap.size, 0, none⟩)), ?_, Grows.alloc w _, ?_, ⟨w.heap.size, upd_v _ _ _, rfl⟩⟩
  · simp [execOp, Instr.alloc, zeroValue, typeInfo, hi, hz, newVar, newRow]
  · have := h.newBox hn hs (zeroRep_rep h1) t
    simpa using this
theorem g_box {d n t : Nat} {x : Operand} {v : V} {vs : List V} (hx : S.ev x = some v) (hox : okOp x = true) (hown : ownOk S v = true) (hc : CellsV v vs) (hn : S.fresh n = true) (hs : saysL n vs = false) : Grow E S ⟨some d, .box t x, ty, pos, af, gd⟩ { S with H := (n, .box vs) :: S.H } (.ptr n 0) := Grow.mk fun β a w h => by
  obtain ⟨h1, _⟩ := hc.rep h (h.ev hx hox) (ownOk_spec hown)
  refine ⟨.pointer (some ⟨w.heap.size, 0, none⟩), w.alloc (.cells (a.eval x).cells t), upd β n (.pointer (some ⟨w.heap.size, 0, none⟩)), ?_, Grows.alloc w _, ?_, ⟨w.heap.size, upd_v _ _ _, rfl⟩⟩
  · simp [execOp, Instr.box, newVar, newRow]
  · have := h.newBox hn hs h1 t
    simpa using this
theorem StB.setBoxes {C : Ctx} {β : Nat → Hd} {a : Act} {w : World} (h : StB C β S a w) {n b : Nat} {cs xs cs' : List V} (hl : look n S.H = some (.box cs)) (hb' : (β n).v = .pointer (some ⟨b, 0, none⟩)) {o : Nat} (hr : Repl cs o xs cs') {us : List Value}
    (hx : RepL w (Mut C.M0 β S.H) β S.H xs us) {vs : List Value} {t : TypeId} (hv : w.heap[b]? = some (.cells vs.toArray t (0, 0))) :
    StB C β { S with H := (n, .box cs') :: S.H } a (w.setRow b (vs.take o ++ us ++ vs.drop (o + us.length)).toArray) := by
  obtain ⟨b2, vs2, t2, h1, h2, h3⟩ := h.obs n _ hl
  rw [hb'] at h1
  cases h1
  rw [hv] at h2
  simp only [Option.some.injEq, Obj.cells.injEq] at h2
  obtain ⟨e1, rfl, _⟩ := h2
  have e1 : vs = vs2 := by simpa using congrArg Array.toList e1
  subst e1
  have hbn : hb (β n).v = some b := by rw [hb']; rfl
  have hH : ∀ m e sz sh xs k, look m ((n, Ob.box cs') :: S.H) = some (.row e sz sh xs k) → ∃ sh' xs', look m S.H = some (.row e sz sh' xs' k) := fun m e sz sh xs k hm => by
    rw [look_set] at hm
    split at hm
    · cases hm
    · exact ⟨sh, xs, hm⟩
  refine h.turn hl (fun _ _ => rfl) rfl rfl rfl (by simp) (fun k _ hk => setRow_other w b k _ (fun e => hk (by rw [hbn, e]))) (fun b h => .inl h) (fun b' o' y h4 h5 _ => absurd trivial h5) (fun _ _ _ _ _ => trivial)
    (fun k t x v _ => RepV.keep k (fun _ => rfl) hH x v) (fun _ => rfl) (fun k m cs vs _ _ => RepL.keep k (fun _ => rfl) hH _ vs) (fun k => ?_)
  refine ⟨b, _, t, hb', setRow_heap w b _ _ t _ hv, RepL.keep k (fun _ => rfl) hH _ _ ?_⟩
  obtain ⟨e2, _⟩ := hr.eq
  have hlen := hx.length
  rw [e2, ← hlen]
  have happ : ∀ {l1 : List V} {m1 : List Value}, RepL w (Mut C.M0 β S.H) β S.H l1 m1 → ∀ {l2 : List V} {m2 : List Value}, RepL w (Mut C.M0 β S.H) β S.H l2 m2 → RepL w (Mut C.M0 β S.H) β S.H (l1 ++ l2) (m1 ++ m2) := by
    intro l1
    induction l1 with
    | nil => intro m1 h l2 m2 h'; simp only [RepL] at h; subst h; exact h'
    | cons y l ih => intro m1 h l2 m2 h'; obtain ⟨v, r, rfl, h5, h6⟩ := h; exact ⟨v, _, rfl, h5, ih h6 h'⟩
  have htake : ∀ (k : Nat) {l : List V} {m : List Value}, RepL w (Mut C.M0 β S.H) β S.H l m → RepL w (Mut C.M0 β S.H) β S.H (l.take k) (m.take k) ∧ RepL w (Mut C.M0 β S.H) β S.H (l.drop k) (m.drop k) := by
    intro k
    induction k with
    | zero => intro l m h; exact ⟨by simp [RepL], h⟩
    | succ k ih =>
      intro l m h
      cases l with
      | nil => simp only [RepL] at h; subst h; exact ⟨by simp [RepL], by simp [RepL]⟩
      | cons y l => obtain ⟨v, r, rfl, h5, h6⟩ := h; exact ⟨⟨v, _, rfl, h5, (ih h6).1⟩, (ih h6).2⟩
  exact happ (happ (htake o h3).1 hx) (htake _ h3).2
theorem t_store {t n off m : Nat} {x y : Operand} {v : V} {vs cs cs' : List V} [ht : TSize E.P t m] (hx : S.ev x = some (.ptr n off)) (hox : okOp x = true) (hy : S.ev y = some v) (hoy : okOp y = true) (hown : ownOk S v = true) (hl : look n S.H = some (.box cs)) (hc : CellsV v vs) (hm : vs.length = m) (hr : Repl cs off vs cs') :
    Turn E S ⟨none, .store t x y, ty, pos, af, gd⟩ { S with H := (n, .box cs') :: S.H } := Turn.mk fun β a w h => by
  obtain ⟨b, h1, h2⟩ := h.ev hx hox
  obtain ⟨b2, us, t2, h3, h4, h5⟩ := h.obs n _ hl
  rw [h1] at h3
  cases h3
  obtain ⟨h6, h7⟩ := hc.rep h (h.ev hy hoy) (ownOk_spec hown)
  obtain ⟨_, h8⟩ := hr.eq
  have hlen := h6.length
  have hlen5 := h5.length
  have hst := run_storeCells_at E.P b off t2 (a.eval y).cells.toList 0 us.toArray w h4 (by simp at hlen ⊢; omega) h7
  simp only [Nat.add_zero] at hst
  cases hi : E.P.info? t with
  | none => have := ht.ok; rw [hi] at this; cases this
  | some i =>
    have hsz : i.size = m := by have := ht.ok; rw [hi] at this; simpa using this
    have hsz2 : (a.eval y).cells.size = i.size := by simp at hlen; omega
    refine ⟨_, ?_, β, h.setBoxes hl h1 hr h6 h4⟩
    simp [execOp, h2, Instr.storeAt, Instr.sureAddr, storeVar, run_size hi, hsz2, hst]
end
end
section
inductive Pure : V → Prop
  | d (x : D) : Pure (.d x)
  | nils (sz : Nat) : Pure (.nils sz)
  | tup {vs : List V} (h : ∀ v ∈ vs, Pure v) : Pure (.tup vs)
  | clo {fn : Fn} {f c : List V} (h : ∀ v ∈ f, Pure v) (h' : ∀ v ∈ c, Pure v) : Pure (.clo fn f c)
theorem RepL.pure {w w' : World} {M M' : Nat → Nat → Prop} {β β' : Nat → Hd} {H H' : List (Nat × Ob)} : ∀ {vs : List V}, (∀ v ∈ vs, ∀ u, RepV w M β H v u → RepV w' M' β' H' v u) → ∀ {us : List Value}, RepL w M β H vs us → RepL w' M' β' H' vs us
  | [], _, _, h => h
  | v :: vs, hv, _, ⟨u, r, h1, h2, h3⟩ => ⟨u, r, h1, hv v List.mem_cons_self u h2, RepL.pure (fun v hm => hv v (List.mem_cons_of_mem _ hm)) h3⟩
theorem Pure.keep {v : V} (hp : Pure v) : ∀ {w w' : World} {M M' : Nat → Nat → Prop} {β β' : Nat → Hd} {H H' : List (Nat × Ob)}, Keeps w M w' M' → ∀ u, RepV w M β H v u → RepV w' M' β' H' v u := by
  induction hp with
  | d x => intro w w' M M' β β' H H' k u h; exact RepD.keep k x u h
  | nils => intro w w' M M' β β' H H' k u h; exact h
  | tup _ ih =>
    intro w w' M M' β β' H H' k u h
    obtain ⟨us, h1, h2⟩ := h
    exact ⟨us, h1, RepL.pure (fun v hv u hu => ih v hv k u hu) h2⟩
  | clo _ _ ih ih' =>
    intro w w' M M' β β' H H' k u h
    obtain ⟨fs, gs, h1, h2, h3⟩ := h
    exact ⟨fs, gs, h1, RepL.pure (fun v hv u hu => ih v hv k u hu) h2, RepL.pure (fun v hv u hu => ih' v hv k u hu) h3⟩
inductive Arg (H : List (Nat × Ob)) : V → V → Prop
  | d (x : D) : Arg H (.d x) (.d x)
  | own {n k e sz : Nat} {xs : List D} (h : look n H = some (.row e sz true xs k)) : Arg H (.own n k) (.d (.list sz xs))
  | nils (sz : Nat) : Arg H (.nils sz) (.d (.list sz []))
  | clo0 (fn : Fn) : Arg H (.clo fn [] []) (.clo fn [] [])
inductive Args (H : List (Nat × Ob)) : List V → List V → Prop
  | nil : Args H [] []
  | cons {v v' : V} {vs vs' : List V} (h : Arg H v v') (t : Args H vs vs') : Args H (v :: vs) (v' :: vs')
theorem Arg.rep {C : Ctx} {β : Nat → Hd} {S : Sd} {a : Act} {w : World} (h : StB C β S a w) {v v' : V} (ha : Arg S.H v v') {u : Value} (hu : RepV w (Mut C.M0 β S.H) β S.H v u) : RepV w (Mut C.M0 β S.H) noHd [] v' u := by
  cases ha with
  | d x => exact hu
  | own hl => exact (ToD.own hl).rep h hu
  | nils sz => exact (ToD.nils sz).rep h hu
  | clo0 fn => obtain ⟨fs, gs, h1, h2, h3⟩ := hu; exact ⟨fs, gs, h1, h2, h3⟩
theorem Arg.pure {H : List (Nat × Ob)} {v v' : V} (ha : Arg H v v') : Pure v' := by
  cases ha with
  | d x => exact .d x
  | own _ => exact .d _
  | nils sz => exact .d _
  | clo0 fn => exact .clo (fun _ h => by cases h) (fun _ h => by cases h)
theorem Args.rep {C : Ctx} {β : Nat → Hd} {S : Sd} {a : Act} {w : World} (h : StB C β S a w) {vs vs' : List V} (ha : Args S.H vs vs') : ∀ {us : List Value}, RepL w (Mut C.M0 β S.H) β S.H vs us → RepL w (Mut C.M0 β S.H) noHd [] vs' us := by
  induction ha with
  | nil => intro us h; exact h
  | cons h1 _ ih => intro us hu; obtain ⟨u, r, h2, h3, h4⟩ := hu; exact ⟨u, r, h2, h1.rep h h3, ih h4⟩
def Globs (gl : List (Nat × List D)) (w : World) (M : Nat → Nat → Prop) : Prop := ∀ g cs, look g gl = some cs → GlobB w M g cs
def FnD (P : Program) (gl : List (Nat × List D)) (f : FuncId) (args : List V) (R : V → Prop) : Prop :=
  ∀ (w : World) (M : Nat → Nat → Prop) (us : List Value), (∀ b o, M b o → b < w.heap.size) → RepL w M noHd [] args us → Globs gl w M →
    Calls P f us.toArray w fun e w' => ∃ v x, R v ∧ Pure v ∧ e = .returned x ∧ Below w.heap.size w w' ∧ RepV w' M noHd [] v x
theorem StB.mut_low {C : Ctx} {β : Nat → Hd} {S : Sd} {a : Act} {w : World} (h : StB C β S a w) : ∀ b o, Mut C.M0 β S.H b o → b < w.heap.size := by
  rintro b o (hm | ⟨n, ob, h1, h2, _⟩)
  · have := h.low b o hm
    have := h.frame.size
    omega
  · exact h.old h1 h2
section
variable {E : Set} {Q : Exit → Sd → Prop} {S : Sd} {ops : Array Oper} {draw : Bool} {rest : Todo} {way : Way3} {ty : TypeId} {pos : String} {af : Array Edge} {gd : Option (Nat × Bool)}
theorem run_call {P : Program} {f : Nat} (hf : TFun P f) (a : Act) (xs : List Operand) (ats : Array TypeId) (dst : Option Tmp) (w : World) :
    (execOp a.eval ⟨dst, .call { callee := .value (.func f), args := xs.toArray, argTypes := ats }, ty, pos, af, gd⟩).run P w = .ok (.enter f (xs.map a.eval).toArray) w := by
  have := hf.ok
  unfold callOk at this
  cases hfn : P.funcs[f]? with
  | none => rw [hfn] at this; cases this
  | some fn =>
    rw [hfn] at this
    simp only [Bool.and_eq_true, Bool.not_eq_true'] at this
    have h2 : ¬ fn.name = "runtime.NumGoroutine" := by simpa using this.2
    cases hb : fn.body with
    | none => rw [hb] at this; cases this.1
    | some c => simp [execOp, resolve, Act.eval, Deferred.ofValue, invoke, callFunc, hfn, hb, h2]
theorem tr_call {d f : Nat} {xs : List Operand} {ats : Array TypeId} {vs vs' : List V} {R : V → Prop} [hf : TFun E.P f] (hx : Evs S xs vs) (ha : Args S.H vs vs') (hc : FnD E.P S.gl f vs' R) (hd : d < E.C.nt) {o : Oper}
    (ho : o = ⟨some d, .call { callee := .value (.func f), args := xs.toArray, argTypes := ats }, ty, pos, af, gd⟩) (hg : S.gd ops o = some true) (hw : way.loud = true)
    (h : ∀ v, R v → TR E draw ops Q rest (S.put d v)) : TR E draw ops Q (.step o way rest) S := fun a w hS => by
  have hS0 := hS
  have key : ∀ w1, Grows w w1 → ∀ K : Act → World → Prop, (∀ a2 w2 v, R v → Grows w1 w2 → St E.C (S.put d v) a2 w2 → K a2 w2) → o.wp E.P a w1 K (Qof E.C Q) := fun w1 g K hK => by
    obtain ⟨β, hB⟩ := hS.later g
    unfold Oper.wp
    subst ho
    rw [run_call hf, Oper.upon_enter]
    refine (hc w1 (Mut E.C.M0 β S.H) _ hB.mut_low (ha.rep hB (hx.rep hB)) hB.glob).mono ?_
    rintro e w2 ⟨v, x, hr, hp, rfl, hb', hv⟩
    have g2 : Grows w1 w2 := hb'
    refine hK _ _ v hr g2 ⟨β, (hB.later g2).put hd (hp.keep (Keeps.refl _ _) x hv)⟩
  have hdf : isDefer o = false := by subst ho; rfl
  cases draw with
  | true =>
    dsimp only
    cases way with
    | pure => cases hw
    | quiet => cases hw
    | grow =>
      simp only [wpMix3]
      intro n
      rw [Sd.gd_sound hS0 hg, if_pos rfl]
      exact key n.w n.grows _ fun a2 w2 v hr g2 hs2 => ⟨g2, h v hr _ _ hs2⟩
    | bar =>
      simp only [wpMix3]
      intro n
      rw [Sd.gd_sound hS0 hg, if_pos rfl]
      exact key n.w n.grows _ fun a2 w2 v hr g2 hs2 => h v hr _ _ hs2
  | false => exact listIn_of_wp hS0 hg hdf fun K hK => key w (Grows.refl w) K fun a2 w2 v hr _ hs2 => hK _ _ (h v hr _ _ hs2)
inductive Res (P : Program) (S : Sd) : List ResultVar → List V → Prop
  | nil : Res P S [] []
  | tmp {t : Tmp} {v v' : V} {rs : List ResultVar} {vs : List V} (hl : S.ev (.tmp t) = some v) (ha : Arg S.H v v') (h : Res P S rs vs) : Res P S (.tmp t :: rs) (v' :: vs)
  | cell {t n ty off : Nat} {cs : List V} {v v' : V} {rs : List ResultVar} {vs : List V} [ht : TCell P ty] (hl : S.ev (.tmp t) = some (.ptr n off)) (hb : look n S.H = some (.box cs)) (hc : cs[off]? = some v) (ha : Arg S.H v v') (h : Res P S rs vs) : Res P S (.cell t ty :: rs) (v' :: vs)
  | cells {t n ty off m : Nat} {cs cs' : List V} {ds : List D} {rs : List ResultVar} {vs : List V} [ht : TAgg P ty m] (hl : S.ev (.tmp t) = some (.ptr n off)) (hb : look n S.H = some (.box cs)) (hc : Cut cs off m cs') (ha : ToDs S.H cs' ds) (hn : ds.all D.scalar = true) (h : Res P S rs vs) : Res P S (.cell t ty :: rs) (.d (.agg ds) :: vs)
def oneOf : List V → V
  | [v] => v
  | vs => .tup vs
structure Ends (P : Program) (rs : List ResultVar) (R : V → Prop) (e : Exit) (S : Sd) : Prop where
  how : e = .ret ∨ e = .normal
  res : ∃ vs, Res P S rs vs ∧ R (oneOf vs)
theorem noPanic_ends {P : Program} {rs : List ResultVar} {R : V → Prop} : noPanic (Ends P rs R) := fun c S h => by rcases h.how with h | h <;> cases h
theorem run_value {P : Program} {s : Sem Value} {w w' : World} {x : Value} (h : ((do pure (.value (← s)) : Sem Next)).run P w = .ok (.value x) w') : s.run P w = .ok x w' := by
  simp only [Sem.run_bind] at h
  cases hs : s.run P w with
  | ok v w2 => rw [hs] at h; simp only [Result.andThen_ok, Sem.run_pure, Result.ok.injEq, Next.value.injEq] at h; rw [h.1, h.2]
  | halt x w2 => rw [hs] at h; simp [Result.andThen] at h
theorem run_load_var {P : Program} {a : Act} {t ty : Nat} {w w' : World} {x : Value} {b o : Nat} (he : a.eval (.tmp t) = .pointer (some ⟨b, o, none⟩)) (h : (execOp a.eval ⟨none, .load ty (.tmp t), 0, "", #[], none⟩).run P w = .ok (.value x) w') :
    ((do loadVar ty (← asAddr (a.tmps.getD t undef))) : Sem Value).run P w = .ok x w' := by
  have h1 := run_value (s := Instr.loadAt ty (a.eval (.tmp t))) h
  rw [he] at h1
  have he' : a.tmps.getD t undef = .pointer (some ⟨b, o, none⟩) := he
  rw [he']
  exact h1
theorem res_run {P : Program} {C : Ctx} {β : Nat → Hd} {a : Act} {w : World} (h : StB C β S a w) {rs : List ResultVar} {vs : List V} (hr : Res P S rs vs) :
    ∃ us : List Value, (rs.mapM fun | .tmp t => pure (a.tmps.getD t undef) | .cell c t => do loadVar t (← asAddr (a.tmps.getD c undef)) : Sem (List Value)).run P w = .ok us w ∧ RepL w (Mut C.M0 β S.H) noHd [] vs us ∧ ∀ v ∈ vs, Pure v := by
  induction hr with
  | nil => exact ⟨[], rfl, rfl, fun v hv => by cases hv⟩
  | @tmp t v v' rs vs hl ha hr ih =>
    obtain ⟨us, h1, h2, h3⟩ := ih
    have h5 : RepV w (Mut C.M0 β S.H) β S.H v (a.tmps.getD t undef) := h.ev hl rfl
    refine ⟨a.tmps.getD t undef :: us, ?_, ⟨_, us, rfl, ha.rep h h5, h2⟩, fun v hv => ?_⟩
    · simp only [List.mapM_cons, Sem.run_bind, Sem.run_pure, Result.andThen_ok, h1]
    · rcases List.mem_cons.1 hv with rfl | hv
      · exact ha.pure
      · exact h3 v hv
  | @cell t n ty off cs v v' rs vs ht hl hb hc ha hr ih =>
    obtain ⟨us, h1, h2, h3⟩ := ih
    obtain ⟨x, h4, h5⟩ := (q_load_box (t := ty) (E := ⟨P, C, none⟩) (S := S) (dst := none) (ty := 0) (pos := "") (af := #[]) (gd := none) (x := .tmp t) hl hb hc).out β a w h
    obtain ⟨b, _, _, _, h6, _⟩ := h.boxAt (x := .tmp t) hl hb
    have h7 := run_load_var h6 (h4 w (Grows.refl w))
    refine ⟨x :: us, ?_, ⟨x, us, rfl, ha.rep h h5, h2⟩, fun v hv => ?_⟩
    · simp only [List.mapM_cons, Sem.run_bind] at h7 ⊢
      rw [h7]
      simp only [Result.andThen_ok, h1, Sem.run_pure]
    · rcases List.mem_cons.1 hv with rfl | hv
      · exact ha.pure
      · exact h3 v hv
  | @cells t n ty off m cs cs' ds rs vs ht hl hb hc ha hn hr ih =>
    obtain ⟨us, h1, h2, h3⟩ := ih
    obtain ⟨x, h4, h5⟩ := (q_load_boxs (t := ty) (E := ⟨P, C, none⟩) (S := S) (dst := none) (ty := 0) (pos := "") (af := #[]) (gd := none) (x := .tmp t) hl hb hc ha hn).out β a w h
    obtain ⟨b, _, _, _, h6, _⟩ := h.boxAt (x := .tmp t) hl hb
    have h7 := run_load_var h6 (h4 w (Grows.refl w))
    refine ⟨x :: us, ?_, ⟨x, us, rfl, h5, h2⟩, fun v hv => ?_⟩
    · simp only [List.mapM_cons, Sem.run_bind] at h7 ⊢
      rw [h7]
      simp only [Result.andThen_ok, h1, Sem.run_pure]
    · rcases List.mem_cons.1 hv with rfl | hv
      · exact .d _
      · exact h3 v hv
structure After (Ds : List Nat) (w w' : World) : Prop where
  os : w'.os = w.os
  tape : w'.tape = w.tape
  output : w'.output = w.output
  size : w'.heap.size = w.heap.size
  block : ∀ k, k ∉ Ds → w'.heap[k]? = w.heap[k]?
theorem leaves_marks {F : Fence} {n : Nat} {P : Program} {fn : Func} {tmps : Array Value} {R : Ending → World → Prop} : ∀ (Ds : List Nat) (w : World), Ds.Nodup → (∀ D ∈ Ds, w.heap[D]? = some (.deferred (some []))) →
    (∀ w', After Ds w w' → LeavesIn F n P fn tmps R [] .returning w') → LeavesInM F n P fn tmps R (Ds.map markOf) .returning w
  | [], w, _, _, h => h w ⟨rfl, rfl, rfl, rfl, fun _ _ => rfl⟩
  | D :: Ds, w, hnd, hD, h => by
    obtain ⟨h1, h2⟩ := List.nodup_cons.1 hnd
    refine ⟨by simp, .inl ⟨D, _, rfl, run_takeDeferred (hD D List.mem_cons_self), leaves_marks Ds (w.putObj D (.deferred none)) h2 (fun D' h' => ?_) (fun w' hw' => h w' ?_)⟩⟩
    · rw [World.putObj_heap_other (by rintro rfl; exact h1 h')]
      exact hD D' (List.mem_cons_of_mem _ h')
    · refine ⟨hw'.os, hw'.tape, hw'.output, hw'.size.trans (by simp [World.putObj]), fun k hk => ?_⟩
      rw [List.mem_cons, not_or] at hk
      rw [hw'.block k hk.2, World.putObj_heap_other hk.1]
theorem StB.after {C : Ctx} {β : Nat → Hd} {a : Act} {w w' : World} (h : StB C β S a w) {Ds : List Nat} (hD : ∀ D ∈ Ds, w.heap[D]? = some (.deferred (some [])) ∧ C.w0.heap.size ≤ D ∧ ∀ p ∈ C.sys, p.1 ≠ D) (k : After Ds w w') : StB C β S { a with defers := [] } w' := by
  have hn : ∀ b o, w.heap[b]? = some o → sysO o = false → b ∉ Ds := fun b o ho hs hb => by
    rw [(hD b hb).1] at ho
    cases ho
    cases hs
  have kp : Keeps w (Mut C.M0 β S.H) w' (Mut C.M0 β S.H) := ⟨fun b o y h1 h2 => ⟨h1, by
    have : b ∉ Ds := fun hb => by simp [World.cell?, (hD b hb).1] at h2
    rw [← h2]
    exact World.cell?_of_block (k.block b this)⟩, fun b ob hs h1 h2 => ⟨h1, (k.block b (hn b _ h2 hs)).trans h2⟩⟩
  have hr : ∀ n e sz sh xs q, look n S.H = some (.row e sz sh xs q) → ∃ sh' xs', look n S.H = some (.row e sz sh' xs' q) := fun n e sz sh xs q h => ⟨sh, xs, h⟩
  refine ⟨h.size, h.small, ⟨[], rfl, List.nodup_nil, fun D h => by cases h⟩, fun p hp => ⟨(k.block p.1 (fun hb => (hD p.1 hb).2.2 p hp rfl)).trans (h.sys p hp).1, (h.sys p hp).2⟩, fun t v hl => ?_, fun n ob hl => ?_, h.apart, h.place, fun g cs hl => (h.glob g cs hl).keep kp, ?_, h.out, h.low, h.fix, h.has⟩
  · obtain ⟨x, h1, h2⟩ := h.env t v hl
    exact ⟨x, h1, RepV.keep kp (fun _ => rfl) hr v x h2⟩
  · have h1 := h.obs n ob hl
    refine RepO.keep kp (fun b hb' => ?_) (fun vs h2 => RepL.keep kp (fun _ => rfl) hr _ _ h2) h1
    obtain ⟨o, h2, h3, _⟩ := h1.kind hb'
    exact k.block b (hn b o h2 h3)
  · exact ⟨k.os.trans h.frame.os, k.tape.trans h.frame.tape, k.output.trans h.frame.output, by rw [k.size]; exact h.frame.size, fun i hi he => (k.block i (fun hb => by have := (hD i hb).2.1; omega)).trans (h.frame.block i hi he)⟩
theorem calls_of_tc {P : Program} {f : FuncId} {fn : Func} {c : Code} {C : Ctx} {S : Sd} {us : List Value} {w : World} {Q : Exit → Sd → Prop} {R : Ending → World → Prop} (hf : P.funcs[f]? = some fn) (hb : fn.body = some c) (h : TC ⟨P, C, none⟩ c Q S)
    (hst : St C S { tmps := us.toArray ++ Array.replicate (fn.ntmps - us.toArray.size) undef, defers := [] } w)
    (hR : ∀ e S' β a' w', StB C β S' a' w' → Q e S' → (e = .ret ∨ e = .normal) ∧ ∃ x, (results fn a'.tmps).run P w' = .ok x w' ∧ R (.returned x) w') : Calls P f us.toArray w R := by
  refine (callsIn_wide (n := 0)).1 (callsIn_of_wp_marks hf hb trivial ?_ rfl)
  refine wpIn_mono (h _ _ hst) fun e a' w' hq => ?_
  obtain ⟨S', ⟨β, hB⟩, hq⟩ := hq
  obtain ⟨Ds, h1, h2, h3⟩ := hB.defers
  have key : LeavesInM (WF none) 0 P fn a'.tmps R a'.defers .returning w' := by
    rw [h1]
    refine leaves_marks Ds w' h2 (fun D hD => (h3 D hD).1) fun w2 hw2 => ?_
    obtain ⟨_, x, h4, h5⟩ := hR e S' β { a' with defers := [] } w2 (hB.after h3 hw2) hq
    exact ⟨x, h4, h5⟩
  rcases (hR e S' β _ _ hB hq).1 with rfl | rfl <;> exact key
def slots (args : List V) : List (Nat × V) := args.zipIdx.map fun x => (x.2, x.1)
theorem env_args {w : World} {M : Nat → Nat → Prop} {β : Nat → Hd} {H : List (Nat × Ob)} {args : List V} {us : List Value} (hargs : RepL w M β H args us) {C : Ctx} {nt : Nat} (hle : args.length ≤ nt) (hs : nt ≤ 100000) {t : Nat} {v : V} (hl : look t (slots args) = some v) :
    ∃ x, slotV C { tmps := us.toArray ++ Array.replicate (nt - us.toArray.size) undef, defers := [] } t = some x ∧ RepV w M β H v x := by
  have hm := look_mem hl
  obtain ⟨⟨v', t'⟩, h1, h2⟩ := List.mem_map.1 hm
  simp only [Prod.mk.injEq] at h2
  obtain ⟨rfl, rfl⟩ := h2
  have h3 : args[t']? = some v' := by
    have := List.mem_zipIdx h1
    simp at this
    obtain ⟨h4, h5⟩ := this
    rw [h5]
    exact List.getElem?_eq_getElem h4
  obtain ⟨u, h4, h5⟩ := RepL.get hargs h3
  refine ⟨u, ?_, h5⟩
  have hlt : t' < us.length := (List.getElem?_eq_some_iff.1 h4).1
  have hlen := hargs.length
  have : Nat.blt t' 100000 = true := Nat.ble_eq_true_of_le (by omega)
  simp only [slotV, this, cond_true]
  rw [Array.getElem?_append_left (by simpa using hlt)]
  simpa using h4
theorem run_results {P : Program} {fn : Func} {rs : Array ResultVar} {a : Act} {w : World} {us' : List Value} (hr : fn.results = rs) (h3 : (rs.toList.mapM fun | .tmp t => pure (a.tmps.getD t undef) | .cell c t => do loadVar t (← asAddr (a.tmps.getD c undef)) : Sem (List Value)).run P w = .ok us' w) :
    (results fn a.tmps).run P w = .ok (if h : us'.toArray.size = 1 then us'.toArray[0] else .tuple us'.toArray) w := by
  unfold results
  rw [hr, Array.mapM_eq_mapM_toList]
  simp only [Sem.run_bind, Sem.run_map]
  refine (congrArg (fun r : Result (List Value) => (r.andThen fun a w' => Result.ok a.toArray w').andThen fun a w' => Sem.run P (pure (if h : a.size = 1 then a[0] else Value.tuple a)) w') h3).trans ?_
  simp only [Result.andThen_ok, Sem.run_pure]
theorem rep_oneOf {w : World} {M : Nat → Nat → Prop} {β : Nat → Hd} {H : List (Nat × Ob)} {vs : List V} {us : List Value} (h6 : RepL w M β H vs us) : RepV w M β H (oneOf vs) (if h : us.toArray.size = 1 then us.toArray[0] else .tuple us.toArray) := by
  have hlen := h6.length
  unfold oneOf
  split
  · obtain ⟨u, r, rfl, h7, h8⟩ := h6
    simp only [RepL] at h8
    subst h8
    exact h7
  · rename_i hne
    have : us.toArray.size ≠ 1 := by
      intro h1
      rw [List.size_toArray, hlen] at h1
      obtain ⟨v, hv⟩ := List.length_eq_one_iff.1 h1
      exact hne v hv
    rw [dif_neg this]
    exact ⟨us, rfl, h6⟩
theorem fn_intro {P : Program} {gl : List (Nat × List D)} {f : FuncId} {fn : Func} {c : Code} {args : List V} {R : V → Prop} {nt : Nat} {rs : Array ResultVar} (hf : P.funcs[f]? = some fn) (hb : fn.body = some c) (hn : fn.ntmps = nt) (hr : fn.results = rs) (hle : args.length ≤ nt) (hs : nt ≤ 100000)
    (h : ∀ w M, TC ⟨P, Ctx.fn nt w M, none⟩ c (Ends P rs.toList R) ⟨slots args, [], gl⟩) : FnD P gl f args R := fun w M us hlow hargs hgl => by
  have hlen := hargs.length
  have hM : Mut M noHd [] = M := by
    funext b o
    apply propext
    constructor
    · rintro (h | ⟨n, ob, h1, _⟩)
      · exact h
      · cases h1
    · exact .inl
  refine calls_of_tc hf hb (h w M) ?_ fun e S' β a' w' hB hq => ⟨hq.how, ?_⟩
  · refine ⟨noHd, ⟨?_, hs, ⟨[], rfl, List.nodup_nil, (fun D h => by cases h)⟩, (fun p hp => by cases hp), ?_, (fun n ob hl => by cases hl), (fun n m b ob ob' _ hl => by cases hl), (fun n ob b hl => by cases hl), ?_, Frm.refl _ _, (fun n ob b o hl => by cases hl), hlow, (fun n hn => by cases hn), (fun n hn => by cases hn)⟩⟩
    · simp [hn, Ctx.fn]; omega
    · intro t v hl
      dsimp only [Ctx.fn] at hl ⊢
      rw [hM, hn]
      exact env_args hargs hle hs hl
    · dsimp only [Ctx.fn]
      rw [hM]
      exact hgl
  · obtain ⟨_, vs, hres, hR⟩ := hq
    obtain ⟨us', h3, h4, h5⟩ := res_run hB hres
    have hk : Keeps w' (Mut M β S'.H) w' M := Keeps.weak fun b o hm => .inl hm
    refine ⟨_, run_results hr h3, oneOf vs, _, hR, ?_, rfl, Frm.below (w := w) hB.frame, rep_oneOf (RepL.pure (fun v hv u hu => (h5 v hv).keep hk u hu) h4)⟩
    unfold oneOf
    split
    · exact h5 _ (by simp)
    · exact .tup h5
end
end
end Go.Proofs.YtjhbglklcddekaaGreatDoor
