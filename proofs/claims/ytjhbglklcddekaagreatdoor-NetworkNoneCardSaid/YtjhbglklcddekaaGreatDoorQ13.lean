/- Parts: D24, D25. -/
import Derived.Test.YtjhbglklcddekaaGreatDoorQ12
set_option linter.all false
set_option maxRecDepth 100000
set_option maxHeartbeats 16000000
namespace Go.Proofs.YtjhbglklcddekaaGreatDoor
open Go.RowKit
section
theorem nat_lit_eq {n : Nat} : (OfNat.ofNat n : Int) = ((OfNat.ofNat n : Nat) : Int) := rfl
section
variable {E : Set} {Q : Exit → Sd → Prop} {S : Sd} {ops : Array Oper} {draw : Bool} {rest : Todo} {way : Way3} {ty : TypeId} {pos : String} {af : Array Edge} {gd : Option (Nat × Bool)} {dst : Option Tmp} {o : Oper} {v : V}
variable {env : List (Nat × V)} {H : List (Nat × Ob)} {gl : List (Nat × List D)} {d : Nat} {k : IntKind} {p q r : Int} {xt yt : TypeId} {x y : Operand}
theorem z_p (hq : Swift E ⟨env, H, gl⟩ o v) (h : TR E draw ops Q rest ⟨(d, v) :: env, H, gl⟩) (hdst : o.dst = some d := by exact rfl) (hd : d < E.C.nt := by exact ltd rfl) (hg : Sd.gd ⟨env, H, gl⟩ ops o = some true := by exact rfl) (hdf : isDefer o = false := by exact rfl) : TR E draw ops Q (.step o way rest) ⟨env, H, gl⟩ := s_p hq hdst hd hg hdf h
theorem z_q (hq : Quiet E ⟨env, H, gl⟩ o v) (h : TR E draw ops Q rest ⟨(d, v) :: env, H, gl⟩) (hdst : o.dst = some d := by exact rfl) (hd : d < E.C.nt := by exact ltd rfl) (hg : Sd.gd ⟨env, H, gl⟩ ops o = some true := by exact rfl) (hdf : isDefer o = false := by exact rfl) (hw : way.known = false := by exact rfl) : TR E draw ops Q (.step o way rest) ⟨env, H, gl⟩ := s_q hq hdst hd hg hdf hw h
theorem w_move {x : Operand} {v : V} (hx : S.ev x = some v := by exact rfl) (ho : okOp x = true := by exact rfl) : Swift E S ⟨dst, .move x, ty, pos, af, gd⟩ v := q_move hx ho
theorem w_buildn {t : Nat} {ps : List (Nat × Operand)} {vs : List V} {zs ds : List D} [ht : TStruct E.P t] [hz : TZero E.P t vs] (hzd : ZeroD vs zs := by (repeat (first | exact ZeroD.nil | apply ZeroD.d | apply ZeroD.none)); fail_if_success intros) (hb : Build E.P S t zs ps ds := by (repeat (first | exact Build.nil _ | apply Build.cons rfl rfl (by first | exact ToD.d _ | exact ToD.nils _ | exact ToD.own rfl) (by first | exact CellsD.agg _ | constructor) (by rfl) (by (repeat (first | exact Repl.done _ | apply Repl.here | apply Repl.there)); fail_if_success intros))); fail_if_success intros) : Swift E S ⟨dst, .build t ps.toArray, ty, pos, af, gd⟩ (.d (.agg ds)) := q_build hzd hb
theorem w_load_boxs {t n off m : Nat} {x : Operand} {cs vs' : List V} {ds : List D} [ht : TAgg E.P t m] (hx : S.ev x = some (.ptr n off) := by exact rfl) (hl : look n S.H = some (.box cs) := by exact rfl) (hc : Cut cs off m vs' := by (repeat (first | exact Cut.done _ | apply Cut.take | apply Cut.skip)); fail_if_success intros) (hd : ToDs S.H vs' ds := by (repeat (first | exact ToDs.nil | apply ToDs.cons (ToD.d _) | apply ToDs.cons (ToD.nils _) | apply ToDs.cons (ToD.own rfl))); fail_if_success intros) (hn : ds.all D.scalar = true := by exact rfl) : Quiet E S ⟨dst, .load t x, ty, pos, af, gd⟩ (.d (.agg ds)) := q_load_boxs hx hl hc hd hn
theorem w_load_box {t : Nat} {x : Operand} {n off : Nat} {cs : List V} {v : V} [ht : TCell E.P t] (hx : S.ev x = some (.ptr n off) := by exact rfl) (hl : look n S.H = some (.box cs) := by exact rfl) (hc : cs[off]? = some v := by exact rfl) : Quiet E S ⟨dst, .load t x, ty, pos, af, gd⟩ v := q_load_box hx hl hc
theorem w_field_box {s f off' ft n off : Nat} {x : Operand} [ht : TField E.P s f off' ft] (hx : S.ev x = some (.ptr n off) := by exact rfl) : Swift E S ⟨dst, .fieldAddr s x f, ty, pos, af, gd⟩ (.ptr n (off + off')) := q_field_box hx
theorem w_nil_box {n off : Nat} {x : Operand} (hx : S.ev x = some (.ptr n off) := by exact rfl) : Swift E S ⟨dst, .nilCheck x, ty, pos, af, gd⟩ (.ptr n off) := q_nil_box hx
theorem w_slice_suf {t e sz n k p l e' : Nat} {sh : Bool} {xs : List D} {x lo : Operand} {li : IntKind} {lv : Int} [ht : TSlice E.P t e sz] (hx : S.ev x = some (.suf n k p) := by exact rfl) (hox : okOp x = true := by exact rfl) (hl : look n S.H = some (.row e' sz sh xs k) := by exact rfl) (hlo : S.ev lo = some (.d (.int li lv)) := by exact rfl) (hol : okOp lo = true := by exact rfl) (el : lv = (l : Nat) := by first | with_reducible exact nat_lit_eq | exact rfl | exact (Int.toNat_of_nonneg (by omega)).symm) (hlm : p + l ≤ xs.length := by first | omega | (simp only [List.length_cons, List.length_nil, List.length_append, List.length_map, List.length_take, List.length_drop]; omega)) : Swift E S ⟨dst, .slice t x (some lo) none none, ty, pos, af, gd⟩ (.suf n k (p + l)) := q_slice_suf hx hox hl hlo hol el hlm
theorem z_alloc {t : Nat} {vs : List V} [ht : TZero E.P t vs] (n : Nat) (h : TR E draw ops Q rest ⟨(d, .ptr n 0) :: env, (n, .box vs) :: H, gl⟩) (hn : Sd.fresh ⟨env, H, gl⟩ n = true := by exact rfl) (hs : saysL n vs = false := by rfl) (hd : d < E.C.nt := by exact ltd rfl) (hg : Sd.gd ⟨env, H, gl⟩ ops ⟨some d, .alloc t, ty, pos, af, gd⟩ = some true := by exact rfl) (hw : way.loud = true := by exact rfl) : TR E draw ops Q (.step ⟨some d, .alloc t, ty, pos, af, gd⟩ way rest) ⟨env, H, gl⟩ := s_alloc n hn hs hd hg hw h
theorem z_box {t : Nat} {x : Operand} {v : V} {vs : List V} (n : Nat) (h : TR E draw ops Q rest ⟨(d, .ptr n 0) :: env, (n, .box vs) :: H, gl⟩) (hx : Sd.ev ⟨env, H, gl⟩ x = some v := by exact rfl) (hox : okOp x = true := by exact rfl) (hown : ownOk ⟨env, H, gl⟩ v = true := by first | exact rfl | exact ownOk_row rfl) (hc : CellsV v vs := by first | (refine CellsV.d (by first | exact CellsD.agg _ | constructor) (by (repeat (first | exact MapD.nil | apply MapD.nils | apply MapD.cons)); fail_if_success intros)) | constructor) (hn : Sd.fresh ⟨env, H, gl⟩ n = true := by exact rfl) (hs : saysL n vs = false := by rfl) (hd : d < E.C.nt := by exact ltd rfl) (hg : Sd.gd ⟨env, H, gl⟩ ops ⟨some d, .box t x, ty, pos, af, gd⟩ = some true := by exact rfl) (hw : way.loud = true := by exact rfl) : TR E draw ops Q (.step ⟨some d, .box t x, ty, pos, af, gd⟩ way rest) ⟨env, H, gl⟩ := s_box n hx hox hown hc hn hs hd hg hw h
theorem z_lit {t e sz len : Nat} {ps : List (Nat × Operand)} {xs : List D} [ht : TSlice E.P t e sz] (n : Nat) (h : TR E draw ops Q rest ⟨(d, .own n 0) :: env, (n, .row e sz true xs 0) :: H, gl⟩) (hp : Elems ⟨env, H, gl⟩ sz 0 ps xs := by (repeat (first | exact Elems.nil _ | apply Elems.cons rfl rfl (by first | exact ToD.d _ | exact ToD.nils _ | exact ToD.own rfl) (by first | exact CellsD.agg _ | constructor) (by rfl))); fail_if_success intros) (hlen : xs.length = len := by rfl) (hsmall : len * sz ≤ 16777216 := by decide) (hn : Sd.fresh ⟨env, H, gl⟩ n = true := by exact rfl) (hd : d < E.C.nt := by exact ltd rfl) (hg : Sd.gd ⟨env, H, gl⟩ ops ⟨some d, .buildSlice t len ps.toArray, ty, pos, af, gd⟩ = some true := by exact rfl) (hw : way.loud = true := by exact rfl) : TR E draw ops Q (.step ⟨some d, .buildSlice t len ps.toArray, ty, pos, af, gd⟩ way rest) ⟨env, H, gl⟩ := s_lit n hp hlen hsmall hn hd hg hw h
theorem z_store {t n off m : Nat} {x y : Operand} {v : V} {vs cs cs' : List V} [ht : TSize E.P t m] (h : TR E draw ops Q rest ⟨env, (n, .box cs') :: H, gl⟩) (hx : Sd.ev ⟨env, H, gl⟩ x = some (.ptr n off) := by exact rfl) (hox : okOp x = true := by exact rfl) (hy : Sd.ev ⟨env, H, gl⟩ y = some v := by exact rfl) (hoy : okOp y = true := by exact rfl) (hown : ownOk ⟨env, H, gl⟩ v = true := by first | exact rfl | exact ownOk_row rfl) (hl : look n H = some (.box cs) := by exact rfl) (hc : CellsV v vs := by first | (refine CellsV.d (by first | exact CellsD.agg _ | constructor) (by (repeat (first | exact MapD.nil | apply MapD.nils | apply MapD.cons)); fail_if_success intros)) | constructor) (hm : vs.length = m := by rfl) (hr : Repl cs off vs cs' := by (repeat (first | exact Repl.done _ | apply Repl.here | apply Repl.there)); fail_if_success intros) (hg : Sd.gd ⟨env, H, gl⟩ ops ⟨none, .store t x y, ty, pos, af, gd⟩ = some true := by exact rfl) (hw : isBar draw way = true := by exact rfl) : TR E draw ops Q (.step ⟨none, .store t x y, ty, pos, af, gd⟩ way rest) ⟨env, H, gl⟩ := s_store hx hox hy hoy hown hl hc hm hr hg hw h
theorem z_store_el {t n k i e sz : Nat} {x y : Operand} {v : V} {z : D} {xs zs : List D} [ht : TSize E.P t sz] (h : TR E draw ops Q rest ⟨env, (n, .row e sz false (xs.set i z) k) :: H, gl⟩) (hx : Sd.ev ⟨env, H, gl⟩ x = some (.el n k i 0) := by exact rfl) (hox : okOp x = true := by exact rfl) (hl : look n H = some (.row e sz false xs k) := by exact rfl) (hy : Sd.ev ⟨env, H, gl⟩ y = some v := by exact rfl) (hoy : okOp y = true := by exact rfl) (hz : ToD H v z := by first | exact ToD.d _ | exact ToD.nils _ | exact ToD.own rfl) (hc : CellsD z zs := by first | exact CellsD.agg _ | constructor) (hm : zs.length = sz := by exact rfl) (hi : i < xs.length := by first | omega | (simp only [List.length_cons, List.length_nil, List.length_append, List.length_map, List.length_take, List.length_drop]; omega)) (hg : Sd.gd ⟨env, H, gl⟩ ops ⟨none, .store t x y, ty, pos, af, gd⟩ = some true := by exact rfl) (hw : isBar draw way = true := by exact rfl) : TR E draw ops Q (.step ⟨none, .store t x y, ty, pos, af, gd⟩ way rest) ⟨env, H, gl⟩ := s_store_el hx hox hl hy hoy hz hc hm hi hg hw h
theorem z_store1 {t n off : Nat} {x y : Operand} {v : V} {cs : List V} [ht : TSize E.P t 1] (h : TR E draw ops Q rest ⟨env, (n, .box (cs.set off v)) :: H, gl⟩) (hx : Sd.ev ⟨env, H, gl⟩ x = some (.ptr n off) := by exact rfl) (hox : okOp x = true := by exact rfl) (hy : Sd.ev ⟨env, H, gl⟩ y = some v := by exact rfl) (hoy : okOp y = true := by exact rfl) (hown : ownOk ⟨env, H, gl⟩ v = true := by first | exact rfl | exact ownOk_row rfl) (hl : look n H = some (.box cs) := by exact rfl) (hc : CellsV v [v] := by first | (refine CellsV.d (by first | exact CellsD.agg _ | constructor) (by (repeat (first | exact MapD.nil | apply MapD.nils | apply MapD.cons)); fail_if_success intros)) | constructor) (hoff : off < cs.length := by first | omega | (simp only [List.length_cons, List.length_nil, List.length_append, List.length_map, List.length_take, List.length_drop]; omega)) (hg : Sd.gd ⟨env, H, gl⟩ ops ⟨none, .store t x y, ty, pos, af, gd⟩ = some true := by exact rfl) (hw : isBar draw way = true := by exact rfl) : TR E draw ops Q (.step ⟨none, .store t x y, ty, pos, af, gd⟩ way rest) ⟨env, H, gl⟩ := s_store1 hx hox hy hoy hown hl hc hoff hg hw h
theorem z_append0 {t e sz sz' : Nat} {s x : Operand} {v : V} {ys : List D} [ht : TSlice E.P t e sz] (n : Nat) (h : TR E draw ops Q rest ⟨(d, .own n 0) :: env, (n, .row e sz true ys 0) :: H, gl⟩) (hs : Sd.ev ⟨env, H, gl⟩ s = some (.nils sz') := by exact rfl) (hos : okOp s = true := by exact rfl) (hx : Sd.ev ⟨env, H, gl⟩ x = some v := by exact rfl) (hox : okOp x = true := by exact rfl) (hy : ToD H v (.list sz ys) := by first | exact ToD.d _ | exact ToD.nils _ | exact ToD.own rfl) (hlen : ys.length ≤ 100000000000 := by first | omega | (simp only [List.length_cons, List.length_nil, List.length_append, List.length_map, List.length_take, List.length_drop]; omega)) (hn : Sd.fresh ⟨env, H, gl⟩ n = true := by exact rfl) (hd : d < E.C.nt := by exact ltd rfl) (hg : Sd.gd ⟨env, H, gl⟩ ops ⟨some d, .call { callee := .builtin .append, args := #[s, x], argTypes := #[t, t] }, ty, pos, af, gd⟩ = some true := by exact rfl) (hw : way.loud = true := by exact rfl) : TR E draw ops Q (.step ⟨some d, .call { callee := .builtin .append, args := #[s, x], argTypes := #[t, t] }, ty, pos, af, gd⟩ way rest) ⟨env, H, gl⟩ := s_append0 n hs hos hx hox hy hlen hn hd hg hw h
theorem z_append {t e sz n k : Nat} {sh : Bool} {s x : Operand} {v : V} {xs ys : List D} [ht : TSlice E.P t e sz] (h : ∀ k', TR E draw ops Q rest ⟨(d, .own n k') :: env, (n, .row e sz sh (xs ++ ys) k') :: H, gl⟩) (hs : Sd.ev ⟨env, H, gl⟩ s = some (.own n k) := by exact rfl) (hos : okOp s = true := by exact rfl) (hl : look n H = some (.row e sz sh xs k) := by exact rfl) (hx : Sd.ev ⟨env, H, gl⟩ x = some v := by exact rfl) (hox : okOp x = true := by exact rfl) (hy : ToD H v (.list sz ys) := by first | exact ToD.d _ | exact ToD.nils _ | exact ToD.own rfl) (hlen : xs.length + ys.length ≤ 100000000000 := by first | omega | (simp only [List.length_cons, List.length_nil, List.length_append, List.length_map, List.length_take, List.length_drop]; omega)) (hN : E.C.N.contains n = false := by exact rfl) (hd : d < E.C.nt := by exact ltd rfl) (hg : Sd.gd ⟨env, H, gl⟩ ops ⟨some d, .call { callee := .builtin .append, args := #[s, x], argTypes := #[t, t] }, ty, pos, af, gd⟩ = some true := by exact rfl) (hw : isBar draw way = true := by exact rfl) : TR E draw ops Q (.step ⟨some d, .call { callee := .builtin .append, args := #[s, x], argTypes := #[t, t] }, ty, pos, af, gd⟩ way rest) ⟨env, H, gl⟩ := s_append hs hos hl hx hox hy hlen hN hd hg hw h
theorem z_append_suf {t e sz n k p : Nat} {s x : Operand} {v : V} {xs ys : List D} [ht : TSlice E.P t e sz] (h : ∀ xs' p' k', xs'.drop p' = xs.drop p ++ ys → p' ≤ xs'.length → xs'.length ≤ xs.length + ys.length → TR E draw ops Q rest ⟨(d, .suf n k' p') :: env, (n, .row e sz true xs' k') :: H, gl⟩) (hs : Sd.ev ⟨env, H, gl⟩ s = some (.suf n k p) := by exact rfl) (hos : okOp s = true := by exact rfl) (hl : look n H = some (.row e sz true xs k) := by exact rfl) (hx : Sd.ev ⟨env, H, gl⟩ x = some v := by exact rfl) (hox : okOp x = true := by exact rfl) (hy : ToD H v (.list sz ys) := by first | exact ToD.d _ | exact ToD.nils _ | exact ToD.own rfl) (hpos : 0 < ys.length := by first | omega | (simp only [List.length_cons, List.length_nil, List.length_append, List.length_map, List.length_take, List.length_drop]; omega)) (hlen : xs.length + ys.length ≤ 100000000000 := by first | omega | (simp only [List.length_cons, List.length_nil, List.length_append, List.length_map, List.length_take, List.length_drop]; omega)) (hN : E.C.N.contains n = false := by exact rfl) (hd : d < E.C.nt := by exact ltd rfl) (hg : Sd.gd ⟨env, H, gl⟩ ops ⟨some d, .call { callee := .builtin .append, args := #[s, x], argTypes := #[t, t] }, ty, pos, af, gd⟩ = some true := by exact rfl) (hw : isBar draw way = true := by exact rfl) : TR E draw ops Q (.step ⟨some d, .call { callee := .builtin .append, args := #[s, x], argTypes := #[t, t] }, ty, pos, af, gd⟩ way rest) ⟨env, H, gl⟩ := s_append_suf hs hos hl hx hox hy hpos hlen hN hd hg hw h
theorem z_pass {o : Oper} (h : TR E draw ops Q rest ⟨(d, .tup []) :: env, H, gl⟩) (hdst : o.dst = some d := by exact rfl) (hd : d < E.C.nt := by exact ltd rfl) (hg : Sd.gd ⟨env, H, gl⟩ ops o = some false := by exact rfl) : TR E draw ops Q (.step o way rest) ⟨env, H, gl⟩ := s_pass hdst hd hg h
theorem z_makeMap {t : Nat} (n : Nat) (h : TR E draw ops Q rest ⟨(d, .map n) :: env, (n, .map [] []) :: H, gl⟩) (hn : Sd.fresh ⟨env, H, gl⟩ n = true := by exact rfl) (hd : d < E.C.nt := by exact ltd rfl) (hg : Sd.gd ⟨env, H, gl⟩ ops ⟨some d, .makeMap t none, ty, pos, af, gd⟩ = some true := by exact rfl) (hw : way.loud = true := by exact rfl) : TR E draw ops Q (.step ⟨some d, .makeMap t none, ty, pos, af, gd⟩ way rest) ⟨env, H, gl⟩ := s_makeMap n hn hd hg hw h
theorem z_make {t e sz m : Nat} {k : IntKind} {p : Int} {x : Operand} {z : D} [ht : TSlice E.P t e sz] [hz : TZeroD E.P e z] (n : Nat) (h : TR E draw ops Q rest ⟨(d, .own n 0) :: env, (n, .row e sz false (List.replicate m z) 0) :: H, gl⟩) (hx : Sd.ev ⟨env, H, gl⟩ x = some (.d (.int k p)) := by exact rfl) (hox : okOp x = true := by exact rfl) (hp : p = (m : Nat) := by first | with_reducible exact nat_lit_eq | exact rfl | exact (Int.toNat_of_nonneg (by omega)).symm) (hm : m ≤ 1000000000 := by first | omega | (simp only [List.length_cons, List.length_nil, List.length_append, List.length_map, List.length_take, List.length_drop]; omega)) (hn : Sd.fresh ⟨env, H, gl⟩ n = true := by exact rfl) (hd : d < E.C.nt := by exact ltd rfl) (hg : Sd.gd ⟨env, H, gl⟩ ops ⟨some d, .makeSlice t x x, ty, pos, af, gd⟩ = some true := by exact rfl) (hw : way.loud = true := by exact rfl) : TR E draw ops Q (.step ⟨some d, .makeSlice t x x, ty, pos, af, gd⟩ way rest) ⟨env, H, gl⟩ := s_make n hx hox hp hm hn hd hg hw h
theorem z_str_eq {xt yt : TypeId} {x y : Operand} {s t : ByteArray} (h1 : s = t → TR E draw ops Q rest ⟨(d, .d (.bool true)) :: env, H, gl⟩) (h2 : ¬ s = t → TR E draw ops Q rest ⟨(d, .d (.bool false)) :: env, H, gl⟩) (hx : Sd.ev ⟨env, H, gl⟩ x = some (.d (.str s)) := by exact rfl) (hy : Sd.ev ⟨env, H, gl⟩ y = some (.d (.str t)) := by exact rfl) (hox : okOp x = true := by exact rfl) (hoy : okOp y = true := by exact rfl) (hd : d < E.C.nt := by exact ltd rfl) (hg : Sd.gd ⟨env, H, gl⟩ ops ⟨some d, .binOp .eql xt x y yt, ty, pos, af, gd⟩ = some true := by exact rfl) : TR E draw ops Q (.step ⟨some d, .binOp .eql xt x y yt, ty, pos, af, gd⟩ way rest) ⟨env, H, gl⟩ := s_str_eq hx hy hox hoy hd hg h1 h2
theorem z_agg_eq {t : Nat} {yt : TypeId} {x y : Operand} {ls : List Nat} {ds es : List D} {p : Prop} [ht : TEq E.P t ls] [hs : TAgg E.P t ls.length] (h1 : p → TR E draw ops Q rest ⟨(d, .d (.bool true)) :: env, H, gl⟩) (h2 : ¬ p → TR E draw ops Q rest ⟨(d, .d (.bool false)) :: env, H, gl⟩) (hx : Sd.ev ⟨env, H, gl⟩ x = some (.d (.agg ds)) := by exact rfl) (hy : Sd.ev ⟨env, H, gl⟩ y = some (.d (.agg es)) := by exact rfl) (hox : okOp x = true := by exact rfl) (hoy : okOp y = true := by exact rfl) (hE : EqC ls ds es p := by (repeat (first | exact EqC.nil | apply EqC.int | apply EqC.bool | apply EqC.str)); fail_if_success intros) (hd : d < E.C.nt := by exact ltd rfl) (hg : Sd.gd ⟨env, H, gl⟩ ops ⟨some d, .binOp .eql t x y yt, ty, pos, af, gd⟩ = some true := by exact rfl) : TR E draw ops Q (.step ⟨some d, .binOp .eql t x y yt, ty, pos, af, gd⟩ way rest) ⟨env, H, gl⟩ := s_agg_eq hx hy hox hoy hE hd hg h1 h2
theorem z_agg_ne {t : Nat} {yt : TypeId} {x y : Operand} {ls : List Nat} {ds es : List D} {p : Prop} [ht : TEq E.P t ls] [hs : TAgg E.P t ls.length] (h1 : p → TR E draw ops Q rest ⟨(d, .d (.bool false)) :: env, H, gl⟩) (h2 : ¬ p → TR E draw ops Q rest ⟨(d, .d (.bool true)) :: env, H, gl⟩) (hx : Sd.ev ⟨env, H, gl⟩ x = some (.d (.agg ds)) := by exact rfl) (hy : Sd.ev ⟨env, H, gl⟩ y = some (.d (.agg es)) := by exact rfl) (hox : okOp x = true := by exact rfl) (hoy : okOp y = true := by exact rfl) (hE : EqC ls ds es p := by (repeat (first | exact EqC.nil | apply EqC.int | apply EqC.bool | apply EqC.str)); fail_if_success intros) (hd : d < E.C.nt := by exact ltd rfl) (hg : Sd.gd ⟨env, H, gl⟩ ops ⟨some d, .binOp .neq t x y yt, ty, pos, af, gd⟩ = some true := by exact rfl) : TR E draw ops Q (.step ⟨some d, .binOp .neq t x y yt, ty, pos, af, gd⟩ way rest) ⟨env, H, gl⟩ := s_agg_ne hx hy hox hoy hE hd hg h1 h2
theorem z_cmp {op : BinOp} {xt yt : TypeId} {x y : Operand} {k : IntKind} {p q : Int} (h1 : cmp op p q → TR E draw ops Q rest ⟨(d, .d (.bool true)) :: env, H, gl⟩) (h2 : ¬ cmp op p q → TR E draw ops Q rest ⟨(d, .d (.bool false)) :: env, H, gl⟩) (hop : isCmp op = true := by exact rfl) (hx : Sd.ev ⟨env, H, gl⟩ x = some (.d (.int k p)) := by exact rfl) (hy : Sd.ev ⟨env, H, gl⟩ y = some (.d (.int k q)) := by exact rfl) (hox : okOp x = true := by exact rfl) (hoy : okOp y = true := by exact rfl) (hd : d < E.C.nt := by exact ltd rfl) (hg : Sd.gd ⟨env, H, gl⟩ ops ⟨some d, .binOp op xt x y yt, ty, pos, af, gd⟩ = some true := by exact rfl) : TR E draw ops Q (.step ⟨some d, .binOp op xt x y yt, ty, pos, af, gd⟩ way rest) ⟨env, H, gl⟩ := s_cmp hop hx hy hox hoy hd hg h1 h2
theorem z_call {f : Nat} {xs : List Operand} {ats : Array TypeId} {vs vs' : List V} {R : V → Prop} [hf : TFun E.P f] (h : ∀ v, R v → TR E draw ops Q rest ⟨(d, v) :: env, H, gl⟩) (hx : Evs ⟨env, H, gl⟩ xs vs := by (repeat (first | exact Evs.nil | apply Evs.cons rfl rfl)); fail_if_success intros) (ha : Args H vs vs' := by (repeat (first | exact Args.nil | apply Args.cons (Arg.d _) | apply Args.cons (Arg.own rfl) | apply Args.cons (Arg.nils _) | apply Args.cons (Arg.clo0 _))); fail_if_success intros) (hc : FnD E.P gl f vs' R) (hd : d < E.C.nt := by exact ltd rfl) (hg : Sd.gd ⟨env, H, gl⟩ ops ⟨some d, .call { callee := .value (.func f), args := xs.toArray, argTypes := ats }, ty, pos, af, gd⟩ = some true := by exact rfl) (hw : way.loud = true := by exact rfl) : TR E draw ops Q (.step ⟨some d, .call { callee := .value (.func f), args := xs.toArray, argTypes := ats }, ty, pos, af, gd⟩ way rest) ⟨env, H, gl⟩ := s_call hx ha hc hd hg hw h
theorem z_callE {f : Nat} {fx : Operand} {xs : List Operand} {ats : Array TypeId} {fs gs vs args : List V} {H0 : List (Nat × Ob)} {R : V → List (Nat × Ob) → Prop} [hf : TFun E.P f] (h : ∀ v H1, R v H1 → freshNew ⟨env, H, gl⟩ H0 H1 = true ∧ TR E draw ops Q rest ⟨(d, v) :: env, H1 ++ H, gl⟩) (hfx : Sd.ev ⟨env, H, gl⟩ fx = some (.clo (.func f) fs gs) := by exact rfl) (hof : okOp fx = true := by exact rfl) (hx : Evs ⟨env, H, gl⟩ xs vs := by (repeat (first | exact Evs.nil | apply Evs.cons rfl rfl)); fail_if_success intros) (ha : ArgsE H (fs ++ vs ++ gs) args := by (repeat (first | exact ArgsE.nil | apply ArgsE.cons (ArgE.own rfl) | apply ArgsE.cons (ArgE.nils _) | apply ArgsE.cons (ArgE.same _))); fail_if_success intros) (hc : FnE E.P gl f args H0 R) (hs : SubH H H0 := by (repeat (first | exact SubH.nil | apply SubH.cons rfl)); fail_if_success intros) (hwm : wholeMut H0 = true := by exact rfl) (hd : d < E.C.nt := by exact ltd rfl) (hg : Sd.gd ⟨env, H, gl⟩ ops ⟨some d, .call { callee := .value fx, args := xs.toArray, argTypes := ats }, ty, pos, af, gd⟩ = some true := by exact rfl) (hw : isBar draw way = true := by exact rfl) : TR E draw ops Q (.step ⟨some d, .call { callee := .value fx, args := xs.toArray, argTypes := ats }, ty, pos, af, gd⟩ way rest) ⟨env, H, gl⟩ := s_callE hfx hof hx ha hc hs hwm hd hg hw h
def memN (t : Nat) : List Nat → Bool
  | [] => false
  | s :: r => bif Nat.beq s t then true else memN t r
def delN (t : Nat) : List Nat → List Nat
  | [] => []
  | s :: r => bif Nat.beq s t then r else s :: delN t r
theorem memN_iff {t : Nat} : ∀ {l : List Nat}, memN t l = true ↔ t ∈ l
  | [] => by simp [memN]
  | s :: r => by
    show (bif Nat.beq s t then true else memN t r) = true ↔ _
    cases h : Nat.beq s t with
    | true => have := Nat.eq_of_beq_eq_true h; simp [this]
    | false => have := beq_false.1 h; simp only [cond_false, List.mem_cons, memN_iff]; exact ⟨.inr, fun h => h.resolve_left (fun e => this e.symm)⟩
theorem delN_sub {t x : Nat} : ∀ {l : List Nat}, x ∈ delN t l → x ∈ l
  | [], h => h
  | s :: r, h => by
    have h' : x ∈ (bif Nat.beq s t then r else s :: delN t r) := h
    cases hb : Nat.beq s t with
    | true => rw [hb] at h'; exact List.mem_cons_of_mem _ h'
    | false =>
      rw [hb] at h'
      rcases List.mem_cons.1 h' with rfl | h'
      · exact List.mem_cons_self
      · exact List.mem_cons_of_mem _ (delN_sub h')
theorem delN_nd {t : Nat} : ∀ {l : List Nat}, l.Nodup → (delN t l).Nodup ∧ t ∉ delN t l
  | [], h => ⟨h, fun h => by cases h⟩
  | s :: r, h => by
    obtain ⟨h1, h2⟩ := List.nodup_cons.1 h
    have e : delN t (s :: r) = (bif Nat.beq s t then r else s :: delN t r) := rfl
    rw [e]
    cases hb : Nat.beq s t with
    | true => have := Nat.eq_of_beq_eq_true hb; subst this; exact ⟨h2, h1⟩
    | false =>
      obtain ⟨q1, q2⟩ := delN_nd (t := t) h2
      refine ⟨List.nodup_cons.2 ⟨fun h => h1 (delN_sub h), q1⟩, fun h => ?_⟩
      rcases List.mem_cons.1 h with rfl | h
      · exact beq_false.1 hb rfl
      · exact q2 h
inductive Keep : List Nat → List (Nat × V) → List (Nat × V) → Prop
  | nil (ts : List Nat) : Keep ts [] []
  | take {ts : List Nat} {t : Nat} {v : V} {l r : List (Nat × V)} (h : memN t ts = true) (k : Keep (delN t ts) l r) : Keep ts ((t, v) :: l) ((t, v) :: r)
  | ghost {ts : List Nat} {t : Nat} {v : V} {l r : List (Nat × V)} (h : Nat.ble 100000 t = true) (k : Keep ts l r) : Keep ts ((t, v) :: l) ((t, v) :: r)
  | drop {ts : List Nat} {t : Nat} {v : V} {l r : List (Nat × V)} (h : Nat.ble 100000 t = false) (h' : memN t ts = false) (k : Keep ts l r) : Keep ts ((t, v) :: l) r
theorem Keep.from {ts : List Nat} {l r : List (Nat × V)} (h : Keep ts l r) {t : Nat} {v : V} (hl : look t r = some v) : t ∈ ts ∨ 100000 ≤ t := by
  induction h with
  | nil => cases hl
  | @take ts s u l r h k ih =>
    rw [look_cons] at hl
    split at hl
    · rename_i e; subst e; exact .inl (memN_iff.1 h)
    · exact (ih hl).imp delN_sub id
  | @ghost ts s u l r h k ih =>
    rw [look_cons] at hl
    split at hl
    · rename_i e; subst e; exact .inr (Nat.le_of_ble_eq_true h)
    · exact ih hl
  | drop _ _ _ ih => exact ih hl
theorem Keep.look {ts : List Nat} {l r : List (Nat × V)} (h : Keep ts l r) (hnd : ts.Nodup) : ∀ {t : Nat} {v : V}, Go.Proofs.YtjhbglklcddekaaGreatDoor.look t r = some v → Go.Proofs.YtjhbglklcddekaaGreatDoor.look t l = some v := by
  induction h with
  | nil => intro t v h; exact h
  | @take ts s u l r h k ih =>
    intro t v hl
    rw [look_cons] at hl ⊢
    split at hl
    · rename_i e; rw [if_pos e]; exact hl
    · rename_i e; rw [if_neg e]; exact ih (delN_nd hnd).1 hl
  | @ghost ts s u l r h k ih =>
    intro t v hl
    rw [look_cons] at hl ⊢
    split at hl
    · rename_i e; rw [if_pos e]; exact hl
    · rename_i e; rw [if_neg e]; exact ih hnd hl
  | @drop ts s u l r h h' k ih =>
    intro t v hl
    rw [look_cons]
    split
    · rename_i e
      subst e
      rcases k.from hl with q | q
      · rw [memN_iff.2 q] at h'; cases h'
      · have := Nat.ble_eq_true_of_le q; rw [this] at h; cases h
    · exact ih hnd hl
inductive KeepH : List Nat → List (Nat × Ob) → List (Nat × Ob) → Prop
  | nil (ts : List Nat) : KeepH ts [] []
  | take {ts : List Nat} {n : Nat} {ob : Ob} {l r : List (Nat × Ob)} (h : memN n ts = false) (k : KeepH (n :: ts) l r) : KeepH ts ((n, ob) :: l) ((n, ob) :: r)
  | drop {ts : List Nat} {n : Nat} {ob : Ob} {l r : List (Nat × Ob)} (h : memN n ts = true) (k : KeepH ts l r) : KeepH ts ((n, ob) :: l) r
theorem KeepH.look {ts : List Nat} {l r : List (Nat × Ob)} (h : KeepH ts l r) : ∀ {n : Nat}, n ∉ ts → Go.Proofs.YtjhbglklcddekaaGreatDoor.look n r = Go.Proofs.YtjhbglklcddekaaGreatDoor.look n l := by
  induction h with
  | nil => intro n _; rfl
  | @take ts m ob l r h k ih =>
    intro n hn
    rw [look_cons, look_cons]
    split
    · rfl
    · rename_i e
      exact ih (by rw [List.mem_cons, not_or]; exact ⟨fun e' => e e'.symm, hn⟩)
  | @drop ts m ob l r h k ih =>
    intro n hn
    rw [look_cons]
    split
    · rename_i e; subst e; exact absurd (memN_iff.1 h) hn
    · exact ih hn
def nodupN : List Nat → Bool
  | [] => true
  | t :: r => !memN t r && nodupN r
theorem nodupN_iff : ∀ {l : List Nat}, nodupN l = true → l.Nodup
  | [], _ => List.nodup_nil
  | t :: r, h => by
    simp only [nodupN, Bool.and_eq_true, Bool.not_eq_true'] at h
    exact List.nodup_cons.2 ⟨fun hm => (by rw [memN_iff.2 hm] at h; cases h.1), nodupN_iff h.2⟩
theorem z_nil (ts : List Nat) {env' : List (Nat × V)} {H' : List (Nat × Ob)} (h : Q .normal ⟨env', H', gl⟩) (hts : nodupN ts = true := by exact rfl) (hk : Keep ts env env' := by (repeat (first | exact Keep.nil _ | apply Keep.drop rfl rfl | apply Keep.take rfl | apply Keep.ghost rfl)); fail_if_success intros) (hh : KeepH [] H H' := by (repeat (first | exact KeepH.nil _ | apply KeepH.take rfl | apply KeepH.drop rfl)); fail_if_success intros) : TR E draw ops Q .nil ⟨env, H, gl⟩ := fun a w hS => by
  have wk1 : ∀ a w, St E.C ⟨env, H, gl⟩ a w → St E.C ⟨env', H', gl⟩ a w := fun a w ⟨β, hB⟩ => ⟨β, hB.weak (fun t v hl => hk.look (nodupN_iff hts) hl) (fun n ob hl => by
    have := hh.look (n := n) (by simp)
    dsimp only at hl ⊢
    rw [← this]; exact hl) (fun _ _ h => h) (fun n hn => by
    have := hh.look (n := n) (by simp)
    dsimp only
    rw [this]; exact hB.has n hn)⟩
  cases draw with
  | true => exact fun n => ⟨_, wk1 _ _ (hS.later n.grows), h⟩
  | false => exact wpListIn_nil ⟨_, wk1 _ _ hS, h⟩
end
end
section
def isBoolC (b : Bool) : Operand → Bool
  | .const (.bool c) => match b, c with
    | true, true => true
    | false, false => true
    | _, _ => false
  | _ => false
def isSlot (t : Nat) : Operand → Bool
  | .tmp s => Nat.beq s t
  | _ => false
theorem isBoolC_iff {b : Bool} {x : Operand} (h : isBoolC b x = true) : x = .const (.bool b) := by
  unfold isBoolC at h
  split at h
  · split at h
    · rfl
    · rfl
    · cases h
  · cases h
theorem isSlot_iff {t : Nat} {x : Operand} (h : isSlot t x = true) : x = .tmp t := by
  unfold isSlot at h
  split at h
  · rw [Nat.eq_of_beq_eq_true h]
  · cases h
def noKey (d : Nat) : List (Nat × V) → Bool
  | [] => true
  | (s, _) :: r => bif Nat.beq s d then false else noKey d r
theorem noKey_iff {d : Nat} : ∀ {l : List (Nat × V)}, noKey d l = true → ∀ v, look d l ≠ some v
  | [], _, _, h => by cases h
  | (s, u) :: r, h, v, h' => by
    rw [look_cons] at h'
    simp only [noKey] at h
    cases hb : Nat.beq s d with
    | true => rw [hb] at h; cases h
    | false =>
      rw [hb] at h
      rw [if_neg (beq_false.1 hb)] at h'
      exact noKey_iff h v h'
def isNilT : Todo → Bool
  | .nil => true
  | _ => false
def hasN (d : Nat) : List Nat → Bool
  | [] => false
  | s :: r => bif Nat.beq s d then true else hasN d r
theorem hasN_iff {d : Nat} : ∀ {l : List Nat}, hasN d l = true ↔ d ∈ l
  | [] => by simp [hasN]
  | s :: r => by
    simp only [hasN, List.mem_cons]
    cases hb : Nat.beq s d with
    | true => simp [Nat.eq_of_beq_eq_true hb]
    | false =>
      have : ¬ d = s := fun e => beq_false.1 hb e.symm
      simp [this, hasN_iff]
def chainT (b : Bool) (ops : Array Oper) (n : Nat) (env : List (Nat × V)) (t' : Nat) : Nat → List Nat → Todo → Bool
  | t, _, .nil => Nat.beq t t'
  | t, dead, .step o _ rest => match o.dst with
    | none => false
    | some d => (noKey d env || (Nat.beq d t' && isNilT rest)) && Nat.blt d n && Nat.blt d 100000 && !hasN d dead && (match o.guard with
      | none => (match o.op with
        | .move x => isSlot t x
        | .assign x => isSlot t x
        | .pick c x y => isSlot t c && (match b with
          | true => isBoolC true x
          | false => isBoolC false y)
        | _ => false) && chainT b ops n env t' d dead rest
      | some (j, want) => (match (nth ops.toList j).bind (·.dst) with
        | some g => hasN g dead || (Nat.beq g t && (match b, want with
          | true, false => true
          | false, true => true
          | _, _ => false))
        | none => false) && (bif Nat.beq d t then false else true) && chainT b ops n env t' t (d :: dead) rest)
  | _, _, .two .. => false
  | _, _, .mid .. => false
  | _, _, .or .. => false
  | _, _, .tail _ => false
section
variable {E : Set} {Q : Exit → Sd → Prop} {ops : Array Oper} {draw : Bool} {H : List (Nat × Ob)} {gl : List (Nat × List D)}
theorem chain_aux (b : Bool) (env : List (Nat × V)) (t' : Nat) (h : TR E draw ops Q .nil ⟨(t', .d (.bool b)) :: env, H, gl⟩) : ∀ (l : Todo) (t : Nat) (dead : List Nat) (env' : List (Nat × V)), chainT b ops E.C.nt env t' t dead l = true → Nat.blt t 100000 = true → look t env' = some (.d (.bool b)) →
    (∀ s ∈ dead, Nat.blt s 100000 = true ∧ look s env' = some (.tup [])) → (∀ s v, look s env = some v → (s ≠ t' ∨ isNilT l = false) → look s env' = some v) → TR E draw ops Q l ⟨env', H, gl⟩
  | .nil, t, dead, env', hc, _, hl, _, ha => fun a w hS => by
    obtain rfl : t = t' := Nat.eq_of_beq_eq_true hc
    obtain ⟨β, hB⟩ := hS
    refine h a w ⟨β, hB.weak (fun s v hs => ?_) (fun _ _ h => h) (fun _ _ h => h) (fun n hn => hB.has n hn)⟩
    dsimp only at hs
    rw [look_cons] at hs
    split at hs
    · rename_i e; subst e; cases hs; exact hl
    · rename_i e; exact ha s v hs (.inl fun e' => e e'.symm)
  | .step ⟨dst, op, ty, pos, af, gd⟩ way rest, t, dead, env', hc, ht, hl, hdd, ha => by
    have hev : Sd.ev ⟨env', H, gl⟩ (.tmp t) = some (.d (.bool b)) := by simp only [Sd.ev, ht, cond_true]; exact hl
    cases dst with
    | none => simp [chainT] at hc
    | some d =>
      simp only [chainT, Bool.and_eq_true] at hc
      obtain ⟨⟨⟨⟨hk, hn⟩, hm⟩, hnd⟩, hc⟩ := hc
      have hnd' : d ∉ dead := fun hd => by rw [hasN_iff.2 hd] at hnd; cases hnd
      have hadd : ∀ u, ∀ s v, look s env = some v → (s ≠ t' ∨ isNilT rest = false) → look s ((d, u) :: env') = some v := fun u s v hs hor => by
        have hsd : d ≠ s := fun e => by
          subst e
          simp only [Bool.or_eq_true, Bool.and_eq_true] at hk
          rcases hk with hk | hk
          · exact noKey_iff hk v hs
          · rcases hor with hor | hor
            · exact hor (Nat.eq_of_beq_eq_true hk.1)
            · rw [hk.2] at hor; cases hor
        rw [look_cons, if_neg hsd]
        exact ha s v hs (.inr rfl)
      have hdead : ∀ u, ∀ s ∈ dead, Nat.blt s 100000 = true ∧ look s ((d, u) :: env') = some (.tup []) := fun u s hs => by
        have hsd : d ≠ s := fun e => hnd' (by rw [e]; exact hs)
        refine ⟨(hdd s hs).1, ?_⟩
        rw [look_cons, if_neg hsd]
        exact (hdd s hs).2
      cases gd with
      | none =>
        simp only [Bool.and_eq_true] at hc
        obtain ⟨hop, hc⟩ := hc
        have fin : Swift E ⟨env', H, gl⟩ ⟨some d, op, ty, pos, af, none⟩ (.d (.bool b)) ∧ isDefer ⟨some d, op, ty, pos, af, none⟩ = false := by
          split at hop
          · rw [isSlot_iff hop]
            exact ⟨q_move hev rfl, rfl⟩
          · rw [isSlot_iff hop]
            exact ⟨q_assign hev rfl, rfl⟩
          · simp only [Bool.and_eq_true] at hop
            rw [isSlot_iff hop.1]
            cases b with
            | true => rw [isBoolC_iff hop.2]; exact ⟨q_pick_t hev rfl rfl rfl, rfl⟩
            | false => rw [isBoolC_iff hop.2]; exact ⟨q_pick_f hev rfl rfl rfl, rfl⟩
          · cases hop
        refine tr_still fin.1 rfl (ltd hn) rfl fin.2 ?_
        exact chain_aux b env t' h rest d dead _ hc hm (by rw [look_cons, if_pos rfl]) (hdead _) (hadd _)
      | some g =>
        obtain ⟨j, want⟩ := g
        simp only [Bool.and_eq_true] at hc
        obtain ⟨⟨hg, hd⟩, hc⟩ := hc
        have hdt : d ≠ t := fun e => by subst e; simp at hd
        refine tr_pass rfl (ltd hn) ?_ ?_
        · simp only [Sd.gd]
          cases hj : (nth ops.toList j).bind (·.dst) with
          | none => rw [hj] at hg; cases hg
          | some g =>
            rw [hj] at hg
            simp only [Bool.or_eq_true, Bool.and_eq_true] at hg
            dsimp only
            rcases hg with hg | ⟨hg, hw⟩
            · obtain ⟨q1, q2⟩ := hdd g (hasN_iff.1 hg)
              have : Sd.ev ⟨env', H, gl⟩ (.tmp g) = some (.tup []) := by simp only [Sd.ev, q1, cond_true]; exact q2
              simp only [this]
            · rw [Nat.eq_of_beq_eq_true hg]
              simp only [hev]
              cases b <;> cases want <;> simp at hw ⊢
        · refine chain_aux b env t' h rest t (d :: dead) _ hc ht (by rw [look_cons, if_neg hdt]; exact hl) (fun s hs => ?_) (hadd _)
          rcases List.mem_cons.1 hs with rfl | hs
          · exact ⟨hm, by rw [look_cons, if_pos rfl]⟩
          · exact hdead _ s hs
  | .two .., _, _, _, hc, _, _, _, _ => by simp [chainT] at hc
  | .mid .., _, _, _, hc, _, _, _, _ => by simp [chainT] at hc
  | .or .., _, _, _, hc, _, _, _, _ => by simp [chainT] at hc
  | .tail _, _, _, _, hc, _, _, _, _ => by simp [chainT] at hc
theorem z_short (b : Bool) (t t' : Nat) {l : Todo} {env : List (Nat × V)} (h : TR E draw ops Q .nil ⟨(t', .d (.bool b)) :: env, H, gl⟩) (hl : look t env = some (.d (.bool b)) := by exact rfl) (hc : chainT b ops E.C.nt env t' t [] l = true := by kernel_rfl) (ht : Nat.blt t 100000 = true := by exact rfl) : TR E draw ops Q l ⟨env, H, gl⟩ :=
  chain_aux b env t' h l t [] env hc ht hl (fun s hs => by cases hs) fun _ _ h _ => h
end
end
end Go.Proofs.YtjhbglklcddekaaGreatDoor
