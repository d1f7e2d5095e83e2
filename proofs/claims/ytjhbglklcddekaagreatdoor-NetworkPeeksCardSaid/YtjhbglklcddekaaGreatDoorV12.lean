/- Parts: D30, D31, D32, D33, D34, D35. -/
import Derived.Test.YtjhbglklcddekaaGreatDoorV11
set_option linter.all false
set_option maxRecDepth 100000
set_option maxHeartbeats 16000000
namespace Go.Proofs.YtjhbglklcddekaaGreatDoor
open Go.RowKit
section
structure EndsW (C : Ctx) (P : Program) (rs : List ResultVar) (H0 : List (Nat × Ob)) (R : V → List (Nat × Ob) → Prop) (e : Exit) (S : Sd) : Prop where
  out : ∃ S', Wk C S S' ∧ EndsE P rs H0 R e S'
theorem noPanic_endsW {C : Ctx} {P : Program} {rs : List ResultVar} {H0 : List (Nat × Ob)} {R : V → List (Nat × Ob) → Prop} : noPanic (EndsW C P rs H0 R) := fun c S h => by obtain ⟨S', _, h⟩ := h.out; rcases h.how with h | h <;> cases h
class TMixed (P : Program) : Prop where
  h : P.follows .mixedOrders = true
def wayN : Nat → Way3
  | 0 => .pure
  | 1 => .quiet
  | 2 => .grow
  | _ => .bar
def linT : List Nat → Plan → Plan
  | [], p => p
  | n :: r, p => .step (n / 4) (wayN (n % 4)) (linT r p)
def lin (l : List Nat) : Plan := linT l .nil
structure Halt (p : Prop) : Prop where
  go : p
theorem halt {p : Prop} (h : Halt p) : p := h.go
theorem unhalt {p : Prop} (h : p) : Halt p := ⟨h⟩
structure Step (A G : Prop) : Prop where
  go : A → G
structure Step2 (A B G : Prop) : Prop where
  go : A → B → G
inductive Unk : Bool → Prop
  | t : Unk true
  | f : Unk false
  | u (b : Bool) : Unk b
section
variable {E : Set} {Q : Exit → Sd → Prop} {S : Sd} {ops : Array Oper} {draw : Bool} {rest : Todo} {way : Way3} {o : Oper} {v : V} {ty : TypeId} {pos : String} {af : Array Edge} {gd : Option (Nat × Bool)} {dst : Option Tmp}
variable {env : List (Nat × V)} {H : List (Nat × Ob)} {gl : List (Nat × List D)} {d : Nat} {k : IntKind} {p q r : Int} {xt yt : TypeId} {x y : Operand}
theorem tr_at (d : Nat) {op : Op} (h : TR E draw ops Q (.step ⟨some d, op, ty, pos, af, gd⟩ way rest) S) : TR E draw ops Q (.step ⟨some d, op, ty, pos, af, gd⟩ way rest) S := h
theorem at_append {xs : Array Operand} {ats : Array TypeId} (h : TR E draw ops Q (.step ⟨dst, .call { callee := .builtin .append, args := xs, argTypes := ats }, ty, pos, af, gd⟩ way rest) S) : TR E draw ops Q (.step ⟨dst, .call { callee := .builtin .append, args := xs, argTypes := ats }, ty, pos, af, gd⟩ way rest) S := h
theorem at_call (f : Nat) {xs : Array Operand} {ats : Array TypeId} (h : TR E draw ops Q (.step ⟨dst, .call { callee := .value (.func f), args := xs, argTypes := ats }, ty, pos, af, gd⟩ way rest) S) : TR E draw ops Q (.step ⟨dst, .call { callee := .value (.func f), args := xs, argTypes := ats }, ty, pos, af, gd⟩ way rest) S := h
theorem at_nil (h : TR E draw ops Q .nil S) : TR E draw ops Q .nil S := h
theorem tc_at (id : Nat) {dr : Bool} (h : TC E (.region id ops dr) Q S) : TC E (.region id ops dr) Q S := h
inductive BoolIs : Bool → Prop → Prop → Prop
  | dec (p : Prop) [Decidable p] : BoolIs (decide p) p (¬ p)
  | any (b : Bool) : BoolIs b (b = true) (b = false)
theorem s_bu {b : Bool} {p q : Prop} (h1 : p → TR E draw ops Q rest ⟨(d, .d (.bool true)) :: env, H, gl⟩) (h2 : q → TR E draw ops Q rest ⟨(d, .d (.bool false)) :: env, H, gl⟩) (hu : Unk b := by (fail_if_success exact Unk.t); (fail_if_success exact Unk.f); exact Unk.u _) (hp : BoolIs b p q := by first | (with_reducible exact BoolIs.dec _) | exact .any _) : TR E draw ops Q rest ⟨(d, .d (.bool b)) :: env, H, gl⟩ := by
  cases hp with
  | dec => exact s_bv (fun h => h1 (of_decide_eq_true h)) (fun h => h2 (of_decide_eq_false h))
  | any => exact s_bv h1 h2
inductive CmpIs (x y : Int) : BinOp → Prop → Prop
  | eql : CmpIs x y .eql (x = y)
  | neq : CmpIs x y .neq (¬ x = y)
  | lss : CmpIs x y .lss (x < y)
  | leq : CmpIs x y .leq (x ≤ y)
  | gtr : CmpIs x y .gtr (y < x)
  | geq : CmpIs x y .geq (y ≤ x)
theorem st_p (hdst : o.dst = some d) (hg : Sd.gd ⟨env, H, gl⟩ ops o = some true) (hq : Swift E ⟨env, H, gl⟩ o v) (hd : d < E.C.nt) (hdf : isDefer o = false) : Step (TR E draw ops Q rest ⟨(d, v) :: env, H, gl⟩) (TR E draw ops Q (.step o way rest) ⟨env, H, gl⟩) := Step.mk fun h => s_p hq hdst hd hg hdf h
theorem st_q (hdst : o.dst = some d) (hg : Sd.gd ⟨env, H, gl⟩ ops o = some true) (hq : Quiet E ⟨env, H, gl⟩ o v) (hd : d < E.C.nt) (hdf : isDefer o = false) (hw : way.known = false) : Step (TR E draw ops Q rest ⟨(d, v) :: env, H, gl⟩) (TR E draw ops Q (.step o way rest) ⟨env, H, gl⟩) := Step.mk fun h => s_q hq hdst hd hg hdf hw h
theorem st_pass {o : Oper} (hdst : o.dst = some d) (hd : d < E.C.nt) (hg : Sd.gd ⟨env, H, gl⟩ ops o = some false) : Step (TR E draw ops Q rest ⟨(d, .tup []) :: env, H, gl⟩) (TR E draw ops Q (.step o way rest) ⟨env, H, gl⟩) := Step.mk fun h => z_pass h (hdst := hdst) (hd := hd) (hg := hg)
theorem st_store {t n off m : Nat} {x y : Operand} {v : V} {vs cs cs' : List V} [ht : TSize E.P t m] (hx : Sd.ev ⟨env, H, gl⟩ x = some (.ptr n off)) (hox : okOp x = true) (hy : Sd.ev ⟨env, H, gl⟩ y = some v) (hoy : okOp y = true) (hown : ownOk ⟨env, H, gl⟩ v = true) (hl : look n H = some (.box cs)) (hc : CellsV v vs) (hm : vs.length = m) (hr : Repl cs off vs cs') (hg : Sd.gd ⟨env, H, gl⟩ ops ⟨none, .store t x y, ty, pos, af, gd⟩ = some true) (hw : isBar draw way = true) : Step (TR E draw ops Q rest ⟨env, (n, .box cs') :: H, gl⟩) (TR E draw ops Q (.step ⟨none, .store t x y, ty, pos, af, gd⟩ way rest) ⟨env, H, gl⟩) := Step.mk fun h => z_store h (hx := hx) (hox := hox) (hy := hy) (hoy := hoy) (hown := hown) (hl := hl) (hc := hc) (hm := hm) (hr := hr) (hg := hg) (hw := hw)
theorem st_store_el {t n k i e sz : Nat} {x y : Operand} {v : V} {z : D} {xs zs : List D} [ht : TSize E.P t sz] (hx : Sd.ev ⟨env, H, gl⟩ x = some (.el n k i 0)) (hox : okOp x = true) (hl : look n H = some (.row e sz false xs k)) (hy : Sd.ev ⟨env, H, gl⟩ y = some v) (hoy : okOp y = true) (hz : ToD H v z) (hc : CellsD z zs) (hm : zs.length = sz) (hi : i < xs.length) (hg : Sd.gd ⟨env, H, gl⟩ ops ⟨none, .store t x y, ty, pos, af, gd⟩ = some true) (hw : isBar draw way = true) : Step (TR E draw ops Q rest ⟨env, (n, .row e sz false (xs.set i z) k) :: H, gl⟩) (TR E draw ops Q (.step ⟨none, .store t x y, ty, pos, af, gd⟩ way rest) ⟨env, H, gl⟩) := Step.mk fun h => z_store_el h (hx := hx) (hox := hox) (hl := hl) (hy := hy) (hoy := hoy) (hz := hz) (hc := hc) (hm := hm) (hi := hi) (hg := hg) (hw := hw)
theorem st_store1 {t n off : Nat} {x y : Operand} {v : V} {cs : List V} [ht : TSize E.P t 1] (hx : Sd.ev ⟨env, H, gl⟩ x = some (.ptr n off)) (hox : okOp x = true) (hy : Sd.ev ⟨env, H, gl⟩ y = some v) (hoy : okOp y = true) (hown : ownOk ⟨env, H, gl⟩ v = true) (hl : look n H = some (.box cs)) (hc : CellsV v [v]) (hoff : off < cs.length) (hg : Sd.gd ⟨env, H, gl⟩ ops ⟨none, .store t x y, ty, pos, af, gd⟩ = some true) (hw : isBar draw way = true) : Step (TR E draw ops Q rest ⟨env, (n, .box (cs.set off v)) :: H, gl⟩) (TR E draw ops Q (.step ⟨none, .store t x y, ty, pos, af, gd⟩ way rest) ⟨env, H, gl⟩) := Step.mk fun h => z_store1 h (hx := hx) (hox := hox) (hy := hy) (hoy := hoy) (hown := hown) (hl := hl) (hc := hc) (hoff := hoff) (hg := hg) (hw := hw)
theorem t2_cmp {op : BinOp} {xt yt : TypeId} {x y : Operand} {k : IntKind} {p q : Int} (hop : isCmp op = true) (hx : Sd.ev ⟨env, H, gl⟩ x = some (.d (.int k p))) (hy : Sd.ev ⟨env, H, gl⟩ y = some (.d (.int k q))) (hox : okOp x = true) (hoy : okOp y = true) (hd : d < E.C.nt) (hg : Sd.gd ⟨env, H, gl⟩ ops ⟨some d, .binOp op xt x y yt, ty, pos, af, gd⟩ = some true) : Step2 (cmp op p q → TR E draw ops Q rest ⟨(d, .d (.bool true)) :: env, H, gl⟩) (¬ cmp op p q → TR E draw ops Q rest ⟨(d, .d (.bool false)) :: env, H, gl⟩) (TR E draw ops Q (.step ⟨some d, .binOp op xt x y yt, ty, pos, af, gd⟩ way rest) ⟨env, H, gl⟩) := Step2.mk fun h1 h2 => z_cmp h1 h2 (hop := hop) (hx := hx) (hy := hy) (hox := hox) (hoy := hoy) (hd := hd) (hg := hg)
theorem t2_cmpi {c : Prop} {op : BinOp} {xt yt : TypeId} {x y : Operand} {k : IntKind} {p q : Int} (hop : isCmp op = true) (hci : CmpIs p q op c) (hx : Sd.ev ⟨env, H, gl⟩ x = some (.d (.int k p))) (hy : Sd.ev ⟨env, H, gl⟩ y = some (.d (.int k q))) (hox : okOp x = true) (hoy : okOp y = true) (hd : d < E.C.nt) (hg : Sd.gd ⟨env, H, gl⟩ ops ⟨some d, .binOp op xt x y yt, ty, pos, af, gd⟩ = some true) : Step2 (c → TR E draw ops Q rest ⟨(d, .d (.bool true)) :: env, H, gl⟩) (¬ c → TR E draw ops Q rest ⟨(d, .d (.bool false)) :: env, H, gl⟩) (TR E draw ops Q (.step ⟨some d, .binOp op xt x y yt, ty, pos, af, gd⟩ way rest) ⟨env, H, gl⟩) := by cases hci <;> exact t2_cmp hop hx hy hox hoy hd hg
theorem t2_str_eq {xt yt : TypeId} {x y : Operand} {s t : ByteArray} (hx : Sd.ev ⟨env, H, gl⟩ x = some (.d (.str s))) (hy : Sd.ev ⟨env, H, gl⟩ y = some (.d (.str t))) (hox : okOp x = true) (hoy : okOp y = true) (hd : d < E.C.nt) (hg : Sd.gd ⟨env, H, gl⟩ ops ⟨some d, .binOp .eql xt x y yt, ty, pos, af, gd⟩ = some true) : Step2 (s = t → TR E draw ops Q rest ⟨(d, .d (.bool true)) :: env, H, gl⟩) (¬ s = t → TR E draw ops Q rest ⟨(d, .d (.bool false)) :: env, H, gl⟩) (TR E draw ops Q (.step ⟨some d, .binOp .eql xt x y yt, ty, pos, af, gd⟩ way rest) ⟨env, H, gl⟩) := Step2.mk fun h1 h2 => z_str_eq h1 h2 (hx := hx) (hy := hy) (hox := hox) (hoy := hoy) (hd := hd) (hg := hg)
theorem t2_str_ne {xt yt : TypeId} {x y : Operand} {s t : ByteArray} (hx : Sd.ev ⟨env, H, gl⟩ x = some (.d (.str s))) (hy : Sd.ev ⟨env, H, gl⟩ y = some (.d (.str t))) (hox : okOp x = true) (hoy : okOp y = true) (hd : d < E.C.nt) (hg : Sd.gd ⟨env, H, gl⟩ ops ⟨some d, .binOp .neq xt x y yt, ty, pos, af, gd⟩ = some true) : Step2 (s = t → TR E draw ops Q rest ⟨(d, .d (.bool false)) :: env, H, gl⟩) (¬ s = t → TR E draw ops Q rest ⟨(d, .d (.bool true)) :: env, H, gl⟩) (TR E draw ops Q (.step ⟨some d, .binOp .neq xt x y yt, ty, pos, af, gd⟩ way rest) ⟨env, H, gl⟩) := Step2.mk fun h1 h2 => z_str_ne h1 h2 (hx := hx) (hy := hy) (hox := hox) (hoy := hoy) (hd := hd) (hg := hg)
theorem t2_agg_eq {t : Nat} {yt : TypeId} {x y : Operand} {ls : List Nat} {ds es : List D} {p : Prop} [ht : TEq E.P t ls] [hs : TAgg E.P t ls.length] (hx : Sd.ev ⟨env, H, gl⟩ x = some (.d (.agg ds))) (hy : Sd.ev ⟨env, H, gl⟩ y = some (.d (.agg es))) (hox : okOp x = true) (hoy : okOp y = true) (hE : EqC ls ds es p) (hd : d < E.C.nt) (hg : Sd.gd ⟨env, H, gl⟩ ops ⟨some d, .binOp .eql t x y yt, ty, pos, af, gd⟩ = some true) : Step2 (p → TR E draw ops Q rest ⟨(d, .d (.bool true)) :: env, H, gl⟩) (¬ p → TR E draw ops Q rest ⟨(d, .d (.bool false)) :: env, H, gl⟩) (TR E draw ops Q (.step ⟨some d, .binOp .eql t x y yt, ty, pos, af, gd⟩ way rest) ⟨env, H, gl⟩) := Step2.mk fun h1 h2 => z_agg_eq h1 h2 (hx := hx) (hy := hy) (hox := hox) (hoy := hoy) (hE := hE) (hd := hd) (hg := hg)
theorem t2_agg_ne {t : Nat} {yt : TypeId} {x y : Operand} {ls : List Nat} {ds es : List D} {p : Prop} [ht : TEq E.P t ls] [hs : TAgg E.P t ls.length] (hx : Sd.ev ⟨env, H, gl⟩ x = some (.d (.agg ds))) (hy : Sd.ev ⟨env, H, gl⟩ y = some (.d (.agg es))) (hox : okOp x = true) (hoy : okOp y = true) (hE : EqC ls ds es p) (hd : d < E.C.nt) (hg : Sd.gd ⟨env, H, gl⟩ ops ⟨some d, .binOp .neq t x y yt, ty, pos, af, gd⟩ = some true) : Step2 (p → TR E draw ops Q rest ⟨(d, .d (.bool false)) :: env, H, gl⟩) (¬ p → TR E draw ops Q rest ⟨(d, .d (.bool true)) :: env, H, gl⟩) (TR E draw ops Q (.step ⟨some d, .binOp .neq t x y yt, ty, pos, af, gd⟩ way rest) ⟨env, H, gl⟩) := Step2.mk fun h1 h2 => z_agg_ne h1 h2 (hx := hx) (hy := hy) (hox := hox) (hoy := hoy) (hE := hE) (hd := hd) (hg := hg)
theorem st_block {id : Nat} {c : Code} : Step (TC E c (Exit.inBlockD id Q) S) (TC E (.block id c) Q S) := Step.mk tc_block
theorem st_cond_t {c : Operand} {x y : Code} (hc : S.ev c = some (.d (.bool true))) (ho : okOp c = true) : Step (TC E x Q S) (TC E (.cond c x y) Q S) := Step.mk (tc_cond_t hc ho)
theorem st_cond_f {c : Operand} {x y : Code} (hc : S.ev c = some (.d (.bool false))) (ho : okOp c = true) : Step (TC E y Q S) (TC E (.cond c x y) Q S) := Step.mk (tc_cond_f hc ho)
theorem st_exit {id : Nat} : Step (Q (.exit id) S) (TC E (.exit id) Q S) := Step.mk tc_exit
theorem st_skip : Step (Q .normal S) (TC E .skip Q S) := Step.mk tc_skip
theorem st_region {id : Nat} {l : List Oper} : Step (TR E false l.toArray Q (todo l) S) (TC E (.region id l.toArray false) Q S) := Step.mk tc_region
theorem yyp {A G : Prop} (h : A) (hs : Step A G := by first | (apply st_p; exact rfl; exact rfl; (first | (apply q_m_int) | (apply q_m_bool) | (apply q_m_str) | (apply q_move; exact rfl; exact rfl) | (apply q_cmp_t; exact rfl; exact rfl; exact rfl; exact rfl; exact rfl; (focus (first | (simp only [cmp] <;> omega) | (simp only [cmp]; exact not_not_intro trivial)))) | (apply q_cmp_f; exact rfl; exact rfl; exact rfl; exact rfl; exact rfl; (focus (first | (simp only [cmp] <;> omega) | (simp only [cmp]; exact not_not_intro trivial)))) | (apply q_c_int) | (apply q_c_bool) | (apply q_nil) | (apply q_c_str) | (apply q_assign; exact rfl; exact rfl) | (apply q_len; exact rfl; exact rfl; (focus (first | exact List.length_map .. | rfl))) | (apply q_len_own; exact rfl; exact rfl; exact rfl; (focus (first | exact List.length_map .. | rfl))) | (apply q_len_nils; exact rfl; exact rfl) | (apply q_len_sl; exact rfl; exact rfl) | (apply q_len_suf; exact rfl; exact rfl; exact rfl; (focus (first | exact List.length_map .. | rfl))) | (apply q_len_str; exact rfl; exact rfl) | (apply q_extract; exact rfl; exact rfl; exact rfl) | (apply q_field_box; exact rfl) | (apply q_field_ref; exact rfl) | (apply q_field_el; exact rfl; exact rfl; exact rfl) | (apply q_add; exact rfl; exact rfl; exact rfl; exact rfl; (focus (simp only [inK]; omega))) | (apply q_add_w; exact rfl; exact rfl; exact rfl; exact rfl) | (apply q_sub; exact rfl; exact rfl; exact rfl; exact rfl; (focus (simp only [inK]; omega))) | (apply q_sub_w; exact rfl; exact rfl; exact rfl; exact rfl) | (apply q_index; exact rfl; exact rfl; exact rfl; exact rfl; (focus (first | with_reducible exact nat_lit_eq | exact rfl | exact (Int.toNat_of_nonneg (by omega)).symm)); (focus (first | assumption | exact get_map (by first | omega | (simp only [List.length_cons, List.length_nil, List.length_append, List.length_map, List.length_take, List.length_drop]; omega)) | exact get_list (by first | omega | (simp only [List.length_cons, List.length_nil, List.length_append, List.length_map, List.length_take, List.length_drop]; omega)) | rfl)); (focus (first | exact CellsD.agg _ | constructor))) | (apply q_index_own; exact rfl; exact rfl; exact rfl; exact rfl; exact rfl; (focus (first | with_reducible exact nat_lit_eq | exact rfl | exact (Int.toNat_of_nonneg (by omega)).symm)); (focus (first | omega | (simp only [List.length_cons, List.length_nil, List.length_append, List.length_map, List.length_take, List.length_drop]; omega)))) | (apply q_index_arr; exact rfl; exact rfl; exact rfl; exact rfl; (focus (first | with_reducible exact nat_lit_eq | exact rfl | exact (Int.toNat_of_nonneg (by omega)).symm)); (focus (first | omega | (simp only [List.length_cons, List.length_nil, List.length_append, List.length_map, List.length_take, List.length_drop]; omega)))) | (apply q_index_suf; exact rfl; exact rfl; exact rfl; exact rfl; exact rfl; (focus (first | with_reducible exact nat_lit_eq | exact rfl | exact (Int.toNat_of_nonneg (by omega)).symm)); (focus (first | omega | (simp only [List.length_cons, List.length_nil, List.length_append, List.length_map, List.length_take, List.length_drop]; omega)))) | (apply q_index_sl; exact rfl; exact rfl; exact rfl; exact rfl; (focus (first | with_reducible exact nat_lit_eq | exact rfl | exact (Int.toNat_of_nonneg (by omega)).symm)); (focus (first | omega | (simp only [List.length_cons, List.length_nil, List.length_append, List.length_map, List.length_take, List.length_drop]; omega)))) | (apply q_index_str; exact rfl; exact rfl; exact rfl; exact rfl; (focus (first | with_reducible exact nat_lit_eq | exact rfl | exact (Int.toNat_of_nonneg (by omega)).symm)); (focus (first | assumption | exact get_map (by first | omega | (simp only [List.length_cons, List.length_nil, List.length_append, List.length_map, List.length_take, List.length_drop]; omega)) | exact get_list (by first | omega | (simp only [List.length_cons, List.length_nil, List.length_append, List.length_map, List.length_take, List.length_drop]; omega)) | rfl))) | (apply q_p_t; exact rfl; exact rfl) | (apply q_p_f; exact rfl; exact rfl) | (apply q_pick_t; exact rfl; exact rfl; exact rfl; exact rfl) | (apply q_pick_f; exact rfl; exact rfl; exact rfl; exact rfl) | (apply q_not_t; exact rfl; exact rfl) | (apply q_not_f; exact rfl; exact rfl) | (apply q_not; exact rfl; exact rfl) | (apply q_field; exact rfl; exact rfl; exact rfl) | (apply q_fields; exact rfl; exact rfl; (focus ((repeat (first | exact Cut.done _ | apply Cut.take | apply Cut.skip)); fail_if_success intros))) | (apply q_conv; exact rfl; exact rfl; (focus (simp only [inK]; omega))) | (apply q_conv_w; exact rfl; exact rfl) | (apply q_slice; exact rfl; exact rfl; exact rfl; exact rfl; (focus (first | with_reducible exact nat_lit_eq | exact rfl | exact (Int.toNat_of_nonneg (by omega)).symm)); (focus (first | with_reducible exact nat_lit_eq | exact rfl | exact (Int.toNat_of_nonneg (by omega)).symm)); (focus (first | omega | (simp only [List.length_cons, List.length_nil, List.length_append, List.length_map, List.length_take, List.length_drop]; omega))); (focus (first | omega | (simp only [List.length_cons, List.length_nil, List.length_append, List.length_map, List.length_take, List.length_drop]; omega)))) | (apply q_nil_box; exact rfl) | (apply q_nil_ref; exact rfl) | (apply q_mul; exact rfl; exact rfl; exact rfl; exact rfl; (focus (simp only [inK]; omega))) | (apply q_mul_w; exact rfl; exact rfl; exact rfl; exact rfl) | (apply q_quo; exact rfl; exact rfl; exact rfl; exact rfl; omega; omega; (focus (simp only [inK]; omega))) | (apply q_quo_w; exact rfl; exact rfl; exact rfl; exact rfl; omega) | (apply q_rem; exact rfl; exact rfl; exact rfl; exact rfl; omega; omega) | (apply q_rem_w; exact rfl; exact rfl; exact rfl; exact rfl; omega) | (apply q_bits; exact rfl; exact rfl; exact rfl; exact rfl; exact rfl) | (apply q_shl; exact rfl; exact rfl; exact rfl; exact rfl; omega) | (apply q_shr; exact rfl; exact rfl; exact rfl; exact rfl; omega) | (apply q_bool_eql; kernel_rfl; exact rfl; exact rfl; exact rfl; exact rfl) | (apply q_str_add; exact rfl; exact rfl; exact rfl; exact rfl; omega) | (apply q_neg; exact rfl; exact rfl) | (apply q_build; (focus ((repeat (first | exact ZeroD.nil | apply ZeroD.d | apply ZeroD.nils)); fail_if_success intros)); (focus ((repeat (first | exact Build.nil _ | apply Build.cons rfl rfl (by first | exact ToD.d _ | exact ToD.nils _ | exact ToD.own rfl) (by first | exact CellsD.agg _ | constructor) (by rfl) (by (repeat (first | exact Repl.done _ | apply Repl.here | apply Repl.there)); fail_if_success intros))); fail_if_success intros))) | (apply w_build0; (focus ((repeat (first | exact ZeroD.nil | apply ZeroD.d | apply ZeroD.nils)); fail_if_success intros))) | (apply q_buildV; (focus ((repeat (first | exact BuildV.nil _ | apply BuildV.cons rfl rfl (by first | exact rfl | exact ownOk_row rfl) (by first | (refine CellsV.d (by first | exact CellsD.agg _ | constructor) (by (repeat (first | exact MapD.nil | apply MapD.nils | apply MapD.cons)); fail_if_success intros)) | constructor) (by rfl) (by (repeat (first | exact Repl.done _ | apply Repl.here | apply Repl.there)); fail_if_success intros))); fail_if_success intros))) | (apply q_makeFunc; (focus ((repeat (first | exact Evs.nil | apply Evs.cons rfl rfl)); fail_if_success intros)); (focus ((repeat (first | exact Evs.nil | apply Evs.cons rfl rfl)); fail_if_success intros))) | (apply q_min; exact rfl; exact rfl; exact rfl; exact rfl) | (apply q_max; exact rfl; exact rfl; exact rfl; exact rfl)); exact ltd rfl; exact rfl) | (apply st_q; exact rfl; exact rfl; (first | (apply q_load_boxs; exact rfl; exact rfl; (focus ((repeat (first | exact Cut.done _ | apply Cut.take | apply Cut.skip)); fail_if_success intros)); (focus ((repeat (first | exact ToDs.nil | apply ToDs.cons (ToD.d _) | apply ToDs.cons (ToD.nils _) | apply ToDs.cons (ToD.own rfl))); fail_if_success intros)); exact rfl) | (apply q_load_refs; exact rfl; (focus ((repeat (first | exact Cut.done _ | apply Cut.take | apply Cut.skip)); fail_if_success intros))) | (apply q_load_els; exact rfl; exact rfl; exact rfl; (focus (first | assumption | exact get_map (by first | omega | (simp only [List.length_cons, List.length_nil, List.length_append, List.length_map, List.length_take, List.length_drop]; omega)) | exact get_list (by first | omega | (simp only [List.length_cons, List.length_nil, List.length_append, List.length_map, List.length_take, List.length_drop]; omega)) | rfl)); (focus (first | exact CellsD.agg _ | constructor)); (focus ((repeat (first | exact Cut.done _ | apply Cut.take | apply Cut.skip)); fail_if_success intros))) | (apply q_load_box; exact rfl; exact rfl; exact rfl) | (apply q_load_ref; exact rfl; exact rfl) | (apply q_load_el; exact rfl; exact rfl; exact rfl; (focus (first | assumption | exact get_map (by first | omega | (simp only [List.length_cons, List.length_nil, List.length_append, List.length_map, List.length_take, List.length_drop]; omega)) | exact get_list (by first | omega | (simp only [List.length_cons, List.length_nil, List.length_append, List.length_map, List.length_take, List.length_drop]; omega)) | rfl)); (focus (first | exact CellsD.agg _ | constructor)); exact rfl) | (apply q_load_box; exact rfl; exact rfl; (focus (first | assumption | exact get_map (by first | omega | (simp only [List.length_cons, List.length_nil, List.length_append, List.length_map, List.length_take, List.length_drop]; omega)) | exact get_list (by first | omega | (simp only [List.length_cons, List.length_nil, List.length_append, List.length_map, List.length_take, List.length_drop]; omega)) | rfl))) | (apply q_conv_bytes; exact rfl; exact rfl; (focus (first | rfl | exact slice_lo .. | exact slice_all ..)))); exact ltd rfl; exact rfl; exact rfl)) : G := hs.go h
theorem yy {A G : Prop} (h : A) (hs : Step A G := by first | (apply st_pass; exact rfl; exact ltd rfl; exact rfl) | (apply st_pass0; exact rfl; exact rfl) | (apply st_block) | (apply st_cond_t; exact rfl; exact rfl) | (apply st_cond_f; exact rfl; exact rfl) | (apply st_exit) | (apply st_skip) | (apply st_label) | (apply st_region) | (apply st_store; exact rfl; exact rfl; exact rfl; exact rfl; (focus (first | exact rfl | exact ownOk_row rfl)); exact rfl; (focus (first | (refine CellsV.d (by first | exact CellsD.agg _ | constructor) (by (repeat (first | exact MapD.nil | apply MapD.nils | apply MapD.cons)); fail_if_success intros)) | constructor)); rfl; (focus ((repeat (first | exact Repl.done _ | apply Repl.here | apply Repl.there)); fail_if_success intros)); exact rfl; exact rfl) | (apply st_store_el; exact rfl; exact rfl; exact rfl; exact rfl; exact rfl; (focus (first | exact ToD.d _ | exact ToD.nils _ | exact ToD.own rfl)); (focus (first | exact CellsD.agg _ | constructor)); exact rfl; (focus (first | omega | (simp only [List.length_cons, List.length_nil, List.length_append, List.length_map, List.length_take, List.length_drop]; omega))); exact rfl; exact rfl) | (apply st_store1; exact rfl; exact rfl; exact rfl; exact rfl; (focus (first | exact rfl | exact ownOk_row rfl)); exact rfl; (focus (first | (refine CellsV.d (by first | exact CellsD.agg _ | constructor) (by (repeat (first | exact MapD.nil | apply MapD.nils | apply MapD.cons)); fail_if_success intros)) | constructor)); (focus (first | omega | (simp only [List.length_cons, List.length_nil, List.length_append, List.length_map, List.length_take, List.length_drop]; omega))); exact rfl; exact rfl)) : G := hs.go h
theorem yy2 {A B G : Prop} (h1 : A) (h2 : B) (hs : Step2 A B G := by first | (apply t2_cmpi; exact rfl; constructor; exact rfl; exact rfl; exact rfl; exact rfl; exact ltd rfl; exact rfl) | (apply t2_str_eq; exact rfl; exact rfl; exact rfl; exact rfl; exact ltd rfl; exact rfl) | (apply t2_str_ne; exact rfl; exact rfl; exact rfl; exact rfl; exact ltd rfl; exact rfl) | (apply t2_agg_eq; exact rfl; exact rfl; exact rfl; exact rfl; (focus ((repeat (first | exact EqC.nil | apply EqC.int | apply EqC.bool | apply EqC.str)); fail_if_success intros)); exact ltd rfl; exact rfl) | (apply t2_agg_ne; exact rfl; exact rfl; exact rfl; exact rfl; (focus ((repeat (first | exact EqC.nil | apply EqC.int | apply EqC.bool | apply EqC.str)); fail_if_success intros)); exact ltd rfl; exact rfl)) : G := hs.go h1 h2
theorem y_call {r : V} {f : Nat} {xs : List Operand} {ats : Array TypeId} {vs vs' : List V} [hf : TFun E.P f] (h : TR E draw ops Q rest ⟨(d, r) :: env, H, gl⟩) (hx : Evs ⟨env, H, gl⟩ xs vs := by (repeat (first | exact Evs.nil | apply Evs.cons rfl rfl)); fail_if_success intros) (ha : Args H vs vs' := by (repeat (first | exact Args.nil | apply Args.cons (Arg.d _) | apply Args.cons (Arg.own rfl) | apply Args.cons (Arg.nils _) | apply Args.cons (Arg.clo0 _))); fail_if_success intros) (hc : FnD E.P gl f vs' (fun v => v = r)) (hd : d < E.C.nt := by exact ltd rfl) (hg : Sd.gd ⟨env, H, gl⟩ ops ⟨some d, .call { callee := .value (.func f), args := xs.toArray, argTypes := ats }, ty, pos, af, gd⟩ = some true := by exact rfl) (hw : way.loud = true := by exact rfl) : TR E draw ops Q (.step ⟨some d, .call { callee := .value (.func f), args := xs.toArray, argTypes := ats }, ty, pos, af, gd⟩ way rest) ⟨env, H, gl⟩ := z_call (fun _ e => by cases e; exact h) (hx := hx) (ha := ha) (hc := hc) (hd := hd) (hg := hg) (hw := hw)
theorem y_callE {r : V} {H1 : List (Nat × Ob)} {f : Nat} {fx : Operand} {xs : List Operand} {ats : Array TypeId} {fs gs vs args : List V} {H0 : List (Nat × Ob)} [hf : TFun E.P f] (h : TR E draw ops Q rest ⟨(d, r) :: env, H1 ++ H, gl⟩) (hfx : Sd.ev ⟨env, H, gl⟩ fx = some (.clo (.func f) fs gs) := by exact rfl) (hof : okOp fx = true := by exact rfl) (hx : Evs ⟨env, H, gl⟩ xs vs := by (repeat (first | exact Evs.nil | apply Evs.cons rfl rfl)); fail_if_success intros) (ha : ArgsE H (fs ++ vs ++ gs) args := by (repeat (first | exact ArgsE.nil | apply ArgsE.cons (ArgE.own rfl) | apply ArgsE.cons (ArgE.nils _) | apply ArgsE.cons (ArgE.same _))); fail_if_success intros) (hc : FnE E.P gl f args H0 (fun v H2 => v = r ∧ H2 = H1)) (hs : SubH H H0 := by (repeat (first | exact SubH.nil | apply SubH.cons rfl)); fail_if_success intros) (hwm : wholeMut H0 = true := by exact rfl) (hd : d < E.C.nt := by exact ltd rfl) (hg : Sd.gd ⟨env, H, gl⟩ ops ⟨some d, .call { callee := .value fx, args := xs.toArray, argTypes := ats }, ty, pos, af, gd⟩ = some true := by exact rfl) (hw : isBar draw way = true := by exact rfl) (hfr : freshNew ⟨env, H, gl⟩ H0 H1 = true := by exact rfl) : TR E draw ops Q (.step ⟨some d, .call { callee := .value fx, args := xs.toArray, argTypes := ats }, ty, pos, af, gd⟩ way rest) ⟨env, H, gl⟩ := z_callE (fun _ _ e => by obtain ⟨rfl, rfl⟩ := e; exact ⟨hfr, h⟩) (hfx := hfx) (hof := hof) (hx := hx) (ha := ha) (hc := hc) (hs := hs) (hwm := hwm) (hd := hd) (hg := hg) (hw := hw)
theorem z_draw {id : Nat} {ops : Array Oper} [hm : TMixed E.P] (bars : List Nat) (plan : Plan) (h : TR E true ops Q (planL ops.toList plan) S) (hs : Region.noSelect ops = true := by kernel_rfl) (hd : noDefer ops = true := by kernel_rfl) (hl : plan.len = ops.size := by rfl) (hnd : bars.Nodup := by decide) (hev : plan.even = true := by kernel_rfl)
    (hB : mixOk3 .any ops bars (Array.replicate ops.size false) plan = true := by as_aux_lemma => kernel_rfl) (hQ : noPanic Q := by (repeat (first | exact noPanic_ends | exact noPanic_endsE | exact noPanic_endsI | exact noPanic_endsY | exact noPanic_endsA | exact noPanic_endsW | (with_reducible apply noPanic_then) | (with_reducible apply noPanic_block))); fail_if_success intros) : TC E (.region id ops true) Q S := tc_draw bars plan hm.h hs hd hl hnd hev hB hQ h
theorem z_sh (b : Bool) (t t' : Nat) (ts : List Nat) {l : Todo} {env' : List (Nat × V)} {H' : List (Nat × Ob)} (h : Q .normal ⟨env', H', gl⟩) (hl : look t env = some (.d (.bool b)) := by exact rfl) (ht : Nat.blt t 100000 = true := by exact rfl) (hc : chainT b ops E.C.nt env t' t [] l = true := by as_aux_lemma => kernel_rfl) (hts : nodupN ts = true := by exact rfl)
    (hk : Keep ts ((t', .d (.bool b)) :: env) env' := by (repeat (first | exact Keep.nil _ | apply Keep.drop rfl rfl | apply Keep.take rfl | apply Keep.ghost rfl)); fail_if_success intros) (hh : KeepH [] H H' := by (repeat (first | exact KeepH.nil _ | apply KeepH.take rfl | apply KeepH.drop rfl)); fail_if_success intros) : TR E draw ops Q l ⟨env, H, gl⟩ := z_short b t t' (z_nil ts h hts hk hh) hl hc ht
theorem slots0 : slots [] = [] := rfl
theorem slots1 {a : V} : slots [a] = [(0, a)] := rfl
theorem slots2 {a b : V} : slots [a, b] = [(0, a), (1, b)] := rfl
theorem slots3 {a b c : V} : slots [a, b, c] = [(0, a), (1, b), (2, c)] := rfl
theorem y_ret {P : Program} {rs : List ResultVar} {R : V → Prop} {vs : List V} (hr : R (oneOf vs)) (h : Res P S rs vs := by (repeat (first | exact Res.nil | apply Res.tmp rfl (by first | exact Arg.d _ | exact Arg.own rfl | exact Arg.nils _ | exact Arg.clo0 _) | apply Res.cells rfl rfl (by (repeat (first | exact Cut.done _ | apply Cut.take | apply Cut.skip)); fail_if_success intros) (by (repeat (first | exact ToDs.nil | apply ToDs.cons (ToD.d _) | apply ToDs.cons (ToD.nils _) | apply ToDs.cons (ToD.own rfl))); fail_if_success intros) (by rfl) | apply Res.cell rfl rfl rfl (by first | exact Arg.d _ | exact Arg.own rfl | exact Arg.nils _ | exact Arg.clo0 _))); fail_if_success intros) : Ends P rs R .ret S := end_ret h hr
theorem y_rete {P : Program} {rs : List ResultVar} {H0 H1 : List (Nat × Ob)} {R : V → List (Nat × Ob) → Prop} {vs : List V} (hr : R (oneOf vs) H1) (h : ResE P S rs vs := by (repeat (first | exact ResE.nil | apply ResE.tmp rfl (by first | exact ArgE.own rfl | exact ArgE.nils _ | exact ArgE.same _) | apply ResE.cells rfl rfl (by (repeat (first | exact Cut.done _ | apply Cut.take | apply Cut.skip)); fail_if_success intros) (by (repeat (first | exact ToDs.nil | apply ToDs.cons (ToD.d _) | apply ToDs.cons (ToD.nils _) | apply ToDs.cons (ToD.own rfl))); fail_if_success intros) (by rfl) | apply ResE.cell rfl rfl rfl (by first | exact ArgE.own rfl | exact ArgE.nils _ | exact ArgE.same _))); fail_if_success intros) (hsub : Sub S.H H1 := by (repeat (first | exact Sub.nil | apply Sub.cons rfl)); fail_if_success intros) (hok : endOk H0 H1 (oneOf vs) = true := by rfl) : EndsE P rs H0 R .ret S := EndsE.mk (.inl rfl) ⟨_, _, h, hsub, hok, hr⟩
theorem y_orete {P : Program} {rs : List ResultVar} {H0 H1 : List (Nat × Ob)} {R : V → List (Nat × Ob) → Prop} {vs : List V} (hr : R (oneOf vs) H1) (h : ResE P S rs vs := by (repeat (first | exact ResE.nil | apply ResE.tmp rfl (by exact ArgE.same _) | apply ResE.cells rfl rfl (by (repeat (first | exact Cut.done _ | apply Cut.take | apply Cut.skip)); fail_if_success intros) (by (repeat (first | exact ToDs.nil | apply ToDs.cons (ToD.d _) | apply ToDs.cons (ToD.nils _) | apply ToDs.cons (ToD.own rfl))); fail_if_success intros) (by rfl) | apply ResE.cell rfl rfl rfl (by exact ArgE.same _))); fail_if_success intros) (hsub : Sub S.H H1 := by (repeat (first | exact Sub.nil | apply Sub.cons rfl)); fail_if_success intros) (hok : endOk H0 H1 (oneOf vs) = true := by rfl) : EndsE P rs H0 R .ret S := EndsE.mk (.inl rfl) ⟨_, _, h, hsub, hok, hr⟩
theorem y_reti {P : Program} {rs : List ResultVar} {env0 : List (Nat × V)} {K : V → List (Nat × Ob) → Prop} {vs : List V} (hr : K (oneOf vs) H) (hsub : Sub env (shift env0) := by simp only [shift, List.map_cons, List.map_nil, Nat.reduceAdd]; (repeat (first | exact Sub.nil | apply Sub.cons rfl)); fail_if_success intros) (h : ResE P ⟨env, H, gl⟩ rs vs := by (repeat (first | exact ResE.nil | apply ResE.tmp rfl (by first | exact ArgE.own rfl | exact ArgE.nils _ | exact ArgE.same _) | apply ResE.cells rfl rfl (by (repeat (first | exact Cut.done _ | apply Cut.take | apply Cut.skip)); fail_if_success intros) (by (repeat (first | exact ToDs.nil | apply ToDs.cons (ToD.d _) | apply ToDs.cons (ToD.nils _) | apply ToDs.cons (ToD.own rfl))); fail_if_success intros) (by rfl) | apply ResE.cell rfl rfl rfl (by first | exact ArgE.own rfl | exact ArgE.nils _ | exact ArgE.same _))); fail_if_success intros) : EndsI P rs env0 gl K .ret ⟨env, H, gl⟩ := EndsI.mk (.inl rfl) rfl hsub ⟨_, h, hr⟩
theorem y_endi {P : Program} {rs : List ResultVar} {env0 : List (Nat × V)} {K : V → List (Nat × Ob) → Prop} {vs : List V} (hr : K (oneOf vs) H) (hsub : Sub env (shift env0) := by simp only [shift, List.map_cons, List.map_nil, Nat.reduceAdd]; (repeat (first | exact Sub.nil | apply Sub.cons rfl)); fail_if_success intros) (h : ResE P ⟨env, H, gl⟩ rs vs := by (repeat (first | exact ResE.nil | apply ResE.tmp rfl (by first | exact ArgE.own rfl | exact ArgE.nils _ | exact ArgE.same _) | apply ResE.cells rfl rfl (by (repeat (first | exact Cut.done _ | apply Cut.take | apply Cut.skip)); fail_if_success intros) (by (repeat (first | exact ToDs.nil | apply ToDs.cons (ToD.d _) | apply ToDs.cons (ToD.nils _) | apply ToDs.cons (ToD.own rfl))); fail_if_success intros) (by rfl) | apply ResE.cell rfl rfl rfl (by first | exact ArgE.own rfl | exact ArgE.nils _ | exact ArgE.same _))); fail_if_success intros) : EndsI P rs env0 gl K .normal ⟨env, H, gl⟩ := EndsI.mk (.inr rfl) rfl hsub ⟨_, h, hr⟩
theorem y_endy {env1 : List (Nat × V)} {K : List (Nat × Ob) → Prop} (hr : K H) (hsub : Sub env (shift env1) := by simp only [shift, List.map_cons, List.map_nil, Nat.reduceAdd]; (repeat (first | exact Sub.nil | apply Sub.cons rfl)); fail_if_success intros) : EndsY env1 gl K .normal ⟨env, H, gl⟩ := EndsY.mk rfl rfl hsub hr
theorem y_wk {C : Ctx} {env' : List (Nat × V)} {H' : List (Nat × Ob)} (h1 : Sub env env' := by (repeat (first | exact Sub.nil | apply Sub.cons rfl)); fail_if_success intros) (h2 : Sub H H' := by (repeat (first | exact Sub.nil | apply Sub.cons rfl)); fail_if_success intros) (h3 : (C.N.all fun n => (look n H').isSome) = true := by rfl) : Wk C ⟨env, H, gl⟩ ⟨env', H', gl⟩ := wk h1 h2 h3
theorem y_enter {P : Program} {gl : List (Nat × List D)} {f : FuncId} {fn : Func} {c : Code} {args : List V} {R : V → Prop} {nt : Nat} {rs : Array ResultVar} (hf : P.funcs[f]? = some fn) (hn : fn.ntmps = nt) (hr : fn.results = rs) (h : ∀ w M, TC ⟨P, Ctx.fn nt w M, none⟩ c (Ends P rs.toList R) ⟨env, [], gl⟩) (hsl : slots args = env := by first | exact slots1 | exact slots2 | exact slots3 | exact slots4 | exact slots0 | exact slots5 | exact slots6 | exact slots7 | exact slots8) (hb : fn.body = some c := by rfl) (hle : Nat.ble args.length nt = true := by rfl) (hs : Nat.ble nt 100000 = true := by rfl) : FnD P gl f args R :=
  fn_intro hf hb hn hr (Nat.le_of_ble_eq_true hle) (Nat.le_of_ble_eq_true hs) (hsl ▸ h)
theorem y_entere {P : Program} {gl : List (Nat × List D)} {f : FuncId} {fn : Func} {c : Code} {args : List V} {H0 : List (Nat × Ob)} {R : V → List (Nat × Ob) → Prop} {nt : Nat} {rs : Array ResultVar} (hf : P.funcs[f]? = some fn) (hn : fn.ntmps = nt) (hr : fn.results = rs)
    (h : ∀ w M E b0, TC ⟨P, ⟨nt, E, w, M, H0.map (·.1), b0, fun _ => .nilFunc, []⟩, none⟩ c (EndsE P rs.toList H0 R) ⟨env, H0, gl⟩) (hsl : slots args = env := by first | exact slots1 | exact slots2 | exact slots3 | exact slots4 | exact slots0 | exact slots5 | exact slots6 | exact slots7 | exact slots8) (hb : fn.body = some c := by rfl) (hle : Nat.ble args.length nt = true := by rfl) (hs : Nat.ble nt 100000 = true := by rfl) : FnE P gl f args H0 R :=
  fnE_intro hf hb hn hr (Nat.le_of_ble_eq_true hle) (Nat.le_of_ble_eq_true hs) (hsl ▸ h)
theorem y_famx {c : Code} {ι : Type} (ts ns : List Nat) (ch : ι → List (Nat × V)) (oh : ι → List (Nat × Ob)) (P : ι → Prop) (m : ι → Nat) (i0 : ι) {env' : List (Nat × V)} {H' : List (Nat × Ob)} (hp : P i0) (round : ∀ i, P i → TC E c (Exit.thenD (fun S' => ∃ j, P j ∧ m j < m i ∧ Wk E.C S' ⟨ch j ++ env', oh j ++ H', gl⟩) Q) ⟨ch i ++ env', oh i ++ H', gl⟩) (hd : Drop ts env env' := by (repeat (first | exact Drop.nil | apply Drop.drop rfl | apply Drop.take rfl)); fail_if_success intros) (hn : Drop ns H H' := by (repeat (first | exact Drop.nil | apply Drop.drop rfl | apply Drop.take rfl)); fail_if_success intros)
    (h0 : Wk E.C ⟨env, H, gl⟩ ⟨ch i0 ++ env', oh i0 ++ H', gl⟩ := by exact y_wk) : TC E (.loop c) Q ⟨env, H, gl⟩ := tc_famx ts ns ch oh P m i0 hp hd hn h0 round
theorem y_inline {f nt1 : Nat} {fx : Operand} {xs : List Operand} {ats : Array TypeId} {fs gs vs : List V} {env0 : List (Nat × V)} {fn : Func} {c : Code} {rs : Array ResultVar} [hf : TFun E.P f] (hfn : E.P.funcs[f]? = some fn) (hn : fn.ntmps = nt1) (hr : fn.results = rs)
    (h : ∀ tm sy, TC ⟨E.P, E.C.inner nt1 tm sy, none⟩ c (EndsI E.P rs.toList env0 gl fun v H1 => TR E draw ops Q rest ⟨(d, v) :: env0, H1, gl⟩) ⟨slots (fs ++ vs ++ gs) ++ shift env0, H, gl⟩) (hfx : Sd.ev ⟨env, H, gl⟩ fx = some (.clo (.func f) fs gs) := by rfl) (hof : okOp fx = true := by rfl) (hx : Evs ⟨env, H, gl⟩ xs vs := by (repeat (first | exact Evs.nil | apply Evs.cons rfl rfl)); fail_if_success intros)
    (hbody : fn.body = some c := by rfl) (hle : Nat.ble (fs ++ vs ++ gs).length nt1 = true := by rfl) (hs : Nat.ble nt1 100000 = true := by rfl) (hnub : Nub [] env env0 := by (repeat (first | exact Nub.nil _ | apply Nub.skip rfl | apply Nub.keep rfl)); fail_if_success intros) (hd : d < E.C.nt := by exact ltd rfl) (hg : Sd.gd ⟨env, H, gl⟩ ops ⟨some d, .call { callee := .value fx, args := xs.toArray, argTypes := ats }, ty, pos, af, gd⟩ = some true := by rfl) (hw : isBar draw way = true := by rfl) :
    TR E draw ops Q (.step ⟨some d, .call { callee := .value fx, args := xs.toArray, argTypes := ats }, ty, pos, af, gd⟩ way rest) ⟨env, H, gl⟩ := s_inline hfx hof hx hfn hbody hn hr hle hs hnub hd hg hw h
theorem y_callG {r : V} {H1 : List (Nat × Ob)} {f : Nat} {fx : Operand} {xs : List Operand} {ats : Array TypeId} {fs gs vs args : List V} [hf : TFun E.P f] (h : TR E draw ops Q rest ⟨(d, r) :: env, H1 ++ H, gl⟩) (hfx : Sd.ev ⟨env, H, gl⟩ fx = some (.clo (.func f) fs gs) := by rfl) (hof : okOp fx = true := by rfl) (hx : Evs ⟨env, H, gl⟩ xs vs := by (repeat (first | exact Evs.nil | apply Evs.cons rfl rfl)); fail_if_success intros) (ha : ArgsE H (fs ++ vs ++ gs) args := by (repeat (first | exact ArgsE.nil | apply ArgsE.cons (ArgE.own rfl) | apply ArgsE.cons (ArgE.nils _) | apply ArgsE.cons (ArgE.same _))); fail_if_success intros) (hc : FnE E.P gl f args [] (fun v H2 => v = r ∧ H2 = H1))
    (hp : Pures args := by (repeat (first | exact Pures.nil | apply Pures.cons (Pure.d _) | apply Pures.cons (Pure.nils _))); fail_if_success intros) (hd : d < E.C.nt := by exact ltd rfl) (hg : Sd.gd ⟨env, H, gl⟩ ops ⟨some d, .call { callee := .value fx, args := xs.toArray, argTypes := ats }, ty, pos, af, gd⟩ = some true := by rfl) (hw : way.loud = true := by rfl) (hfr : freshNew ⟨env, H, gl⟩ [] H1 = true := by rfl) : TR E draw ops Q (.step ⟨some d, .call { callee := .value fx, args := xs.toArray, argTypes := ats }, ty, pos, af, gd⟩ way rest) ⟨env, H, gl⟩ :=
  s_callG hfx hof hx ha hc hp hd hg hw fun _ _ e => by obtain ⟨rfl, rfl⟩ := e; exact ⟨hfr, h⟩
end
end
section
theorem StB.recast {C : Ctx} {β β' : Nat → Hd} {S : Sd} {a : Act} {w : World} (h : StB C β S a w) {H' : List (Nat × Ob)} (n q : Nat)
    (hold : ∀ m ob, m ≠ n → m ≠ q → look m H' = some ob → look m S.H = some ob) (hβ : ∀ m, m ≠ n → m ≠ q → β' m = β m) (hn : (β' n).v = (β n).v) (hnr : ∀ e sz sh xs k, look n H' ≠ some (.row e sz sh xs k)) (hq : S.fresh q = true ∨ (look q H' = none ∧ β' q = β q))
    (hown : ∀ m ob b o, m = n ∨ m = q → look m H' = some ob → own (β' m) ob b → (∃ m0 ob0, (m0 = n ∨ m0 = q) ∧ look m0 S.H = some ob0 ∧ own (β m0) ob0 b ∧ (ob.mut o → ob0.mut o)))
    (hap : ∀ b ob ob', n ≠ q → look n H' = some ob → look q H' = some ob' → own (β' n) ob b → ¬ own (β' q) ob' b)
    (hobs : Keeps w (Mut C.M0 β S.H) w (Mut C.M0 β' H') → (∀ x v, x.says q = false → RepV w (Mut C.M0 β S.H) β S.H x v → RepV w (Mut C.M0 β' H') β' H' x v) → (∀ xs vs, saysL q xs = false → RepL w (Mut C.M0 β S.H) β S.H xs vs → RepL w (Mut C.M0 β' H') β' H' xs vs) → ∀ m ob, n = m ∨ q = m → look m H' = some ob → RepO w (Mut C.M0 β' H') β' H' (β' m) ob)
    (hN : ∀ m ∈ C.N, (look m H').isSome = true) : StB C β' { S with H := H' } a w := by
  have hsn : ∀ m, m ≠ q → V.SameNames β β' S.H H' m := fun m hm => by
    by_cases hmn : m = n
    · subst hmn
      exact ⟨hn, fun e sz sh xs k hl => absurd hl (hnr _ _ _ _ _)⟩
    · exact ⟨congrArg Hd.v (hβ m hmn hm), fun e sz sh xs k hl => ⟨sh, xs, hold m _ hmn hm hl⟩⟩
  have hmut : ∀ b o, Mut C.M0 β' H' b o → Mut C.M0 β S.H b o := fun b o hm => by
    rcases hm with hm | ⟨m, ob, h1, h2, h3⟩
    · exact .inl hm
    · by_cases hmn : m = n ∨ m = q
      · obtain ⟨m0, ob0, _, h5, h6, h7⟩ := hown m ob b o hmn h1 h2
        exact .inr ⟨m0, ob0, h5, h6, h7 h3⟩
      · simp only [not_or] at hmn
        rw [hβ m hmn.1 hmn.2] at h2
        exact .inr ⟨m, ob, hold m ob hmn.1 hmn.2 h1, h2, h3⟩
  have k : Keeps w (Mut C.M0 β S.H) w (Mut C.M0 β' H') := Keeps.weak hmut
  have hq' : ∀ x : V, x.says q = false ∨ (look q H' = none ∧ β' q = β q) → ∀ m, x.says m = true → V.SameNames β β' S.H H' m := fun x hx m hm => by
    by_cases hmq : m = q
    · subst hmq
      rcases hx with hx | ⟨hx, hx'⟩
      · rw [hx] at hm; cases hm
      · exact ⟨congrArg Hd.v hx', fun e sz sh xs k hl => by rw [hx] at hl; cases hl⟩
    · exact hsn m hmq
  have hqL : ∀ xs : List V, saysL q xs = false ∨ (look q H' = none ∧ β' q = β q) → ∀ m, saysL m xs = true → V.SameNames β β' S.H H' m := fun x hx m hm => by
    by_cases hmq : m = q
    · subst hmq
      rcases hx with hx | ⟨hx, hx'⟩
      · rw [hx] at hm; cases hm
      · exact ⟨congrArg Hd.v hx', fun e sz sh xs k hl => by rw [hx] at hl; cases hl⟩
    · exact hsn m hmq
  have pl : ∀ m ob b, look m H' = some ob → own (β' m) ob b → ∃ m0 ob0, look m0 S.H = some ob0 ∧ own (β m0) ob0 b := fun m ob b h1 h2 => by
    by_cases hmn : m = n ∨ m = q
    · obtain ⟨m0, ob0, _, h5, h6, _⟩ := hown m ob b 0 hmn h1 h2
      exact ⟨m0, ob0, h5, h6⟩
    · simp only [not_or] at hmn
      rw [hβ m hmn.1 hmn.2] at h2
      exact ⟨m, ob, hold m ob hmn.1 hmn.2 h1, h2⟩
  refine ⟨h.size, h.small, h.defers, h.sys, fun t v hl => ?_, fun m ob hl => ?_, fun m m' b ob ob' hne h1 h2 h3 h4 => ?_, fun m ob b hl h1 => ?_, fun g cs hl => (h.glob g cs hl).keep k, h.frame, fun m ob b o hl h1 => ?_, h.low, fun m hm => ?_, hN⟩
  · obtain ⟨u, h1, h2⟩ := h.env t v hl
    refine ⟨u, h1, RepV.gen k v u (hq' v ?_) h2⟩
    rcases hq with hq | hq
    · simp only [Sd.fresh, Bool.and_eq_true] at hq
      exact .inl (noneSays_look hq.1 hl)
    · exact .inr hq
  · by_cases hmn : m = n ∨ m = q
    · refine hobs k (fun x v hx hr => RepV.gen k x v (hq' x (.inl hx)) hr) (fun x v hx hr => RepL.gen k x v (hqL x (.inl hx)) hr) m ob (hmn.imp Eq.symm Eq.symm) hl
    · simp only [not_or] at hmn
      rw [hβ m hmn.1 hmn.2]
      have hl0 := hold m ob hmn.1 hmn.2 hl
      refine RepO.keep k (fun _ _ => rfl) (fun vs hL => RepL.gen k _ vs (hqL _ ?_) hL) (h.obs m ob hl0)
      rcases hq with hq | hq
      · simp only [Sd.fresh, Bool.and_eq_true] at hq
        exact .inl (noneSaysO_look hq.2 hl0).2
      · exact .inr hq
  · have key : ∀ m m' ob ob', m ≠ m' → (m = n ∨ m = q) → ¬ (m' = n ∨ m' = q) → look m H' = some ob → look m' H' = some ob' → own (β' m) ob b → own (β' m') ob' b → False := fun m m' ob ob' hne hm hm' h1 h2 h3 h4 => by
      obtain ⟨m0, ob0, h5, h6, h7, _⟩ := hown m ob b 0 hm h1 h3
      simp only [not_or] at hm'
      rw [hβ m' hm'.1 hm'.2] at h4
      refine h.apart m0 m' b ob0 ob' ?_ h6 (hold m' ob' hm'.1 hm'.2 h2) h7 h4
      rintro rfl
      rcases h5 with h5 | h5
      · exact hm'.1 h5
      · exact hm'.2 h5
    by_cases hm : m = n ∨ m = q
    · by_cases hm' : m' = n ∨ m' = q
      · rcases hm with rfl | rfl
        · rcases hm' with rfl | rfl
          · exact hne rfl
          · exact hap b ob ob' hne h1 h2 h3 h4
        · rcases hm' with rfl | rfl
          · exact hap b ob' ob (Ne.symm hne) h2 h1 h4 h3
          · exact hne rfl
      · exact key m m' ob ob' hne hm hm' h1 h2 h3 h4
    · by_cases hm' : m' = n ∨ m' = q
      · exact key m' m ob' ob (Ne.symm hne) hm' hm h2 h1 h4 h3
      · simp only [not_or] at hm hm'
        rw [hβ m hm.1 hm.2] at h3
        rw [hβ m' hm'.1 hm'.2] at h4
        exact h.apart m m' b ob ob' hne (hold m ob hm.1 hm.2 h1) (hold m' ob' hm'.1 hm'.2 h2) h3 h4
  · obtain ⟨m0, ob0, h5, h6⟩ := pl m ob b hl h1
    exact h.place m0 ob0 b h5 h6
  · obtain ⟨m0, ob0, h5, h6⟩ := pl m ob b hl h1
    exact h.out m0 ob0 b o h5 h6
  · by_cases hmq : m = q
    · subst hmq
      rcases hq with hq | hq
      · have := h.has m hm
        rw [Sd.fresh_none hq] at this
        cases this
      · rw [hq.2]
        exact h.fix m hm
    · by_cases hmn : m = n
      · subst hmn
        rw [hn]
        exact h.fix m hm
      · rw [hβ m hmn hmq]
        exact h.fix m hm
section
variable {E : Set} {Q : Exit → Sd → Prop} {ops : Array Oper} {draw : Bool} {rest : Todo} {way : Way3} {ty : TypeId} {pos : String} {af : Array Edge} {gd : Option (Nat × Bool)} {dst : Option Tmp}
variable {env : List (Nat × V)} {H : List (Nat × Ob)} {gl : List (Nat × List D)} {d : Nat}
theorem StB.hboxOut {C : Ctx} {β : Nat → Hd} {S : Sd} {a : Act} {w : World} (h : StB C β S a w) {n q e sz i : Nat} {xs : List D} {cs : List V} (hl : look n S.H = some (.hbox e sz xs i cs)) (hq : S.fresh q = true) :
    ∃ β', StB C β' { S with H := (n, .box (cs.set i (.own q 0))) :: (q, .row e sz false xs 0) :: S.H } a w := by
  have hqn : n ≠ q := by
    rintro rfl
    rw [Sd.fresh_none hq] at hl
    cases hl
  obtain ⟨b, vs, u, t, ys, h1, h2, h3, h4, h5, h6, h7, h8⟩ := h.obs n _ hl
  have hbq : hb (β n).v = some b := by rw [h1]; rfl
  have hlq : ∀ m, look m ((n, Ob.box (cs.set i (.own q 0))) :: (q, Ob.row e sz false xs 0) :: S.H) = if n = m then some (.box (cs.set i (.own q 0))) else if q = m then some (.row e sz false xs 0) else look m S.H := fun m => by rw [look_cons, look_cons]
  refine ⟨fun m => if m = q then ⟨u, []⟩ else β m, h.recast n q (fun m ob hm hm' hl' => ?_) (fun m hm hm' => by simp [hm']) (by simp [hqn]) (fun e sz sh xs k hl' => ?_) (.inl hq) (fun m ob b' o hm hl' ho => ?_) (fun b' ob ob' _ hl1 hl2 ho1 ho2 => ?_) (fun k hV hL m ob hm hl' => ?_) (fun m hm => ?_)⟩
  · rw [hlq, if_neg (Ne.symm hm), if_neg (Ne.symm hm')] at hl'
    exact hl'
  · rw [hlq, if_pos rfl] at hl'
    cases hl'
  · refine ⟨n, _, .inl rfl, hl, ?_, fun _ => trivial⟩
    rcases hm with rfl | rfl
    · rw [hlq, if_pos rfl] at hl'
      cases hl'
      simp only [hqn, if_false] at ho
      exact .inl ((own_flat rfl).1 ho)
    · rw [hlq, if_neg hqn, if_pos rfl] at hl'
      cases hl'
      simp only [if_true] at ho
      exact .inr ⟨rfl, (h5 b').2 ((own_flat rfl).1 ho)⟩
  · rw [hlq, if_pos rfl] at hl1
    rw [hlq, if_neg hqn, if_pos rfl] at hl2
    cases hl1
    cases hl2
    simp only [hqn, if_false] at ho1
    simp only [if_true] at ho2
    have e1 := (own_flat rfl).1 ho1
    rw [hbq] at e1
    cases e1
    exact h6 ((h5 b).2 ((own_flat rfl).1 ho2))
  · rcases hm with rfl | rfl
    · rw [hlq, if_pos rfl] at hl'
      cases hl'
      simp only [hqn, if_false]
      refine ⟨b, vs.set i u, t, h1, h2, ?_⟩
      simp only [Sd.fresh, Bool.and_eq_true] at hq
      have h9 := RepL.set (hL cs vs (noneSaysO_look hq.2 hl).2 h8) i (x := .own q 0) (v := u) ?_
      · exact h9
      · intro e' sz' sh xs' hl''
        simp
    · rw [hlq, if_neg hqn, if_pos rfl] at hl'
      cases hl'
      simp only [if_true]
      exact ⟨ys, h3, RepE.keep k _ _ _ h4⟩
  · rw [hlq]
    split
    · rfl
    · split
      · rfl
      · exact h.has m hm
theorem StB.hboxIn {C : Ctx} {β : Nat → Hd} {S : Sd} {a : Act} {w : World} (h : StB C β S a w) {n q e sz i k : Nat} {xs : List D} {cs : List V} {H0 : List (Nat × Ob)} (hl : look n S.H = some (.box cs)) (hi : cs[i]? = some (.own q k)) (hr : look q S.H = some (.row e sz false xs k))
    (hs : saysL q (cs.set i (.nils 0)) = false) (hd : ∀ m, m ≠ q → look m H0 = look m S.H) (hdq : look q H0 = none) (hN : C.N.contains q = false) :
    ∃ β', StB C β' { S with H := (n, .hbox e sz xs i (cs.set i (.nils 0))) :: H0 } a w := by
  have hqn : n ≠ q := by
    rintro rfl
    rw [hl] at hr
    cases hr
  obtain ⟨b, vs, t, h1, h2, h3⟩ := h.obs n _ hl
  obtain ⟨ys, h4, h5⟩ := h.obs q _ hr
  obtain ⟨u, h6, h7⟩ := h3.get hi
  have hu : u = (β q).v := h7 e sz false xs hr
  subst hu
  have hiv : i < vs.length := (List.getElem?_eq_some_iff.1 h6).1
  have hbq : hb (β n).v = some b := by rw [h1]; rfl
  have hlq : ∀ m, look m ((n, Ob.hbox e sz xs i (cs.set i (.nils 0))) :: H0) = if n = m then some (.hbox e sz xs i (cs.set i (.nils 0))) else look m H0 := fun m => by rw [look_cons]
  refine ⟨fun m => if m = n then ⟨(β n).v, (hb (β q).v).toList⟩ else β m, h.recast n q (fun m ob hm hm' hl' => ?_) (fun m hm hm' => by simp [hm]) (by simp) (fun e sz sh xs k hl' => ?_) (.inr ⟨?_, by simp [Ne.symm hqn]⟩) (fun m ob b' o hm hl' ho => ?_) (fun b' ob ob' _ hl1 hl2 ho1 ho2 => ?_) (fun k hV hL m ob hm hl' => ?_) (fun m hm => ?_)⟩
  · rw [hlq, if_neg (Ne.symm hm), hd m hm'] at hl'
    exact hl'
  · rw [hlq, if_pos rfl] at hl'
    cases hl'
  · rw [hlq, if_neg hqn]
    exact hdq
  · rcases hm with hm | hm
    · have hm := hm.symm
      subst hm
      rw [hlq, if_pos rfl] at hl'
      cases hl'
      simp only [if_true] at ho
      rcases ho with ho | ⟨_, ho⟩
      · exact ⟨n, _, .inl rfl, hl, .inl ho, fun _ => trivial⟩
      · exact ⟨q, _, .inr rfl, hr, .inl (by simpa using ho), fun _ => .inl rfl⟩
    · have hm := hm.symm
      subst hm
      rw [hlq, if_neg hqn, hdq] at hl'
      cases hl'
  · rw [hlq, if_neg hqn, hdq] at hl2
    cases hl2
  · rcases hm with rfl | rfl
    · rw [hlq, if_pos rfl] at hl'
      cases hl'
      simp only [if_true]
      refine ⟨b, vs.set i (.slice none 0 0), (β q).v, t, ys, h1, ?_, h4, RepE.keep k _ _ _ h5, fun q' => by simp, ?_, by simpa using hiv, hL _ _ hs (RepL.set h3 i rfl)⟩
      · rw [List.set_set]
        rw [show vs.set i (β q).v = vs from by
          obtain ⟨h8, h9⟩ := List.getElem?_eq_some_iff.1 h6
          rw [← h9]; exact List.set_getElem_self h8]
        exact h2
      · intro hm
        have : hb (β q).v = some b := by simpa using hm
        exact h.apart n q b _ _ hqn hl hr (.inl hbq) (.inl this)
    · rw [hlq, if_neg hqn, hdq] at hl'
      cases hl'
  · rw [hlq]
    split
    · rfl
    · rename_i hmn
      by_cases hmq : m = q
      · subst hmq
        simp [hm] at hN
      · rw [hd m hmq]
        exact h.has m hm
end
end
section
theorem drop_tells {α : Type} {q : Nat} {l r : List (Nat × α)} (h : Drop [q] l r) : (∀ m, m ≠ q → look m r = look m l) ∧ look q r = none := by
  induction h with
  | nil => exact ⟨fun _ _ => rfl, rfl⟩
  | @take t v l r h1 _ ih =>
    have hne : t ≠ q := fun e => by subst e; simp [memN] at h1
    refine ⟨fun m hm => ?_, ?_⟩
    · rw [look_cons, look_cons]
      split
      · rfl
      · exact ih.1 m hm
    · rw [look_cons, if_neg hne]
      exact ih.2
  | @drop t v l r h1 _ ih =>
    refine ⟨fun m hm => ?_, ih.2⟩
    rw [look_cons, if_neg]
    · exact ih.1 m hm
    · rintro rfl
      simp [memN, Ne.symm hm] at h1
section
variable {E : Set} {Q : Exit → Sd → Prop} {ops : Array Oper} {draw : Bool} {rest : Todo} {way : Way3} {ty : TypeId} {pos : String} {af : Array Edge} {gd : Option (Nat × Bool)} {dst : Option Tmp}
variable {env : List (Nat × V)} {H : List (Nat × Ob)} {gl : List (Nat × List D)} {d : Nat} {C : Ctx}
theorem wk_hbox_out {n q e sz i : Nat} {xs : List D} {cs : List V} (hl : look n H = some (.hbox e sz xs i cs)) (hq : Sd.fresh ⟨env, H, gl⟩ q = true) : Wk C ⟨env, H, gl⟩ ⟨env, (n, .box (cs.set i (.own q 0))) :: (q, .row e sz false xs 0) :: H, gl⟩ :=
  fun _ _ ⟨_, hB⟩ => hB.hboxOut hl hq
theorem wk_hbox_in {n q e sz i k : Nat} {xs : List D} {cs : List V} {H0 : List (Nat × Ob)} (hl : look n H = some (.box cs)) (hi : cs[i]? = some (.own q k)) (hr : look q H = some (.row e sz false xs k)) (hs : saysL q (cs.set i (.nils 0)) = false) (hd : Drop [q] H H0) (hN : C.N.contains q = false) :
    Wk C ⟨env, H, gl⟩ ⟨env, (n, .hbox e sz xs i (cs.set i (.nils 0))) :: H0, gl⟩ :=
  fun _ _ ⟨_, hB⟩ => hB.hboxIn hl hi hr hs (drop_tells hd).1 (drop_tells hd).2 hN
theorem tc_wk {c : Code} {S S' : Sd} (hw : Wk E.C S S') (h : TC E c Q S') : TC E c Q S := fun a w hS => h a w (hw a w hS)
end
end
section
structure SwiftK (E : Set) (S : Sd) (o : Oper) (S' : Nat → Sd) (v : Nat → V) : Prop where
  out : ∀ β a w, StB E.C β S a w → ∃ x β' k, (∀ w', (execOp a.eval o).run E.P w' = .ok (.value x) w') ∧ StB E.C β' (S' k) a w ∧ RepV w (Mut E.C.M0 β' (S' k).H) β' (S' k).H (v k) x
theorem tr_stillK {E : Set} {Q : Exit → Sd → Prop} {S : Sd} {ops : Array Oper} {draw : Bool} {rest : Todo} {way : Way3} {o : Oper} {d : Nat} {S' : Nat → Sd} {v : Nat → V} (hq : SwiftK E S o S' v) (hdst : o.dst = some d) (hd : d < E.C.nt) (hg : S.gd ops o = some true) (hdf : isDefer o = false) (h : ∀ k, TR E draw ops Q rest ((S' k).put d (v k))) : TR E draw ops Q (.step o way rest) S := fun a w hS => by
  have hS0 := hS
  obtain ⟨β, hB⟩ := hS
  obtain ⟨x, β', k, h1, hB', h2⟩ := hq.out β a w hB
  have hput : ∀ w', Grows w w' → St E.C ((S' k).put d (v k)) (a.put o.dst x) w' := fun w' g => by
    rw [hdst]
    exact St.later ⟨β', hB'.put hd h2⟩ g
  cases draw with
  | true =>
    dsimp only
    cases way with
    | pure =>
      simp only [wpMix3]
      rw [Sd.gd_sound hS0 hg, if_pos rfl]
      exact ⟨x, fun w' => h1 w', h k _ _ (hput w (Grows.refl w))⟩
    | quiet =>
      simp only [wpMix3]
      rw [Sd.gd_sound hS0 hg, if_pos rfl]
      refine ⟨x, fun n => ?_, h k _ _ (hput w (Grows.refl w))⟩
      rw [h1 n.w]
      exact ⟨rfl, rfl⟩
    | grow =>
      simp only [wpMix3]
      intro n
      rw [Sd.gd_sound hS0 hg, if_pos rfl]
      exact wp_value (h1 n.w) ⟨Grows.refl _, h k _ _ (hput n.w n.grows)⟩
    | bar =>
      simp only [wpMix3]
      intro n
      rw [Sd.gd_sound hS0 hg, if_pos rfl]
      exact wp_value (h1 n.w) (h k _ _ (hput n.w n.grows))
  | false => exact listIn_of_wp hS0 hg hdf fun K hK => wp_value (h1 w) (hK _ _ (h k _ _ (hput w (Grows.refl w))))
section
variable {E : Set} {Q : Exit → Sd → Prop} {ops : Array Oper} {draw : Bool} {rest : Todo} {way : Way3} {ty : TypeId} {pos : String} {af : Array Edge} {gd : Option (Nat × Bool)} {dst : Option Tmp}
variable {env : List (Nat × V)} {H : List (Nat × Ob)} {gl : List (Nat × List D)} {d : Nat}
theorem tc_endsW {c : Code} {S : Sd} {P : Program} {rs : List ResultVar} {H0 : List (Nat × Ob)} {R : V → List (Nat × Ob) → Prop} (h : TC E c (EndsW E.C P rs H0 R) S) : TC E c (EndsE P rs H0 R) S :=
  fun a w hS => wpIn_mono (h a w hS) fun _ a w ⟨_, hS', ⟨S2, h1, h2⟩⟩ => ⟨S2, h1 a w hS', h2⟩
theorem endsW {C : Ctx} {S S' : Sd} {P : Program} {rs : List ResultVar} {H0 : List (Nat × Ob)} {R : V → List (Nat × Ob) → Prop} {e : Exit} (hw : Wk C S S') (h : EndsE P rs H0 R e S') : EndsW C P rs H0 R e S := ⟨S', hw, h⟩
theorem y_endn {P : Program} {H0 H1 : List (Nat × Ob)} {R : V → List (Nat × Ob) → Prop} {S : Sd} (hr : R (.tup []) H1) (hsub : Sub S.H H1 := by (repeat (first | exact Sub.nil | apply Sub.cons rfl)); fail_if_success intros) (hok : endOk H0 H1 (.tup []) = true := by rfl) : EndsE P [] H0 R .normal S := EndsE.mk (.inr rfl) ⟨[], _, ResE.nil, hsub, hok, hr⟩
end
end
section
section
variable {E : Set} {S : Sd} {dst : Option Tmp} {ty : TypeId} {pos : String} {af : Array Edge} {gd : Option (Nat × Bool)}
end
section
variable {E : Set} {Q : Exit → Sd → Prop} {env : List (Nat × V)} {H : List (Nat × Ob)} {gl : List (Nat × List D)}
end
end
section
section
variable {E : Set} {S : Sd} {Q : Exit → Sd → Prop} {ops : Array Oper} {draw : Bool} {rest : Todo} {way : Way3} {ty : TypeId} {pos : String} {af : Array Edge} {gd : Option (Nat × Bool)}
end
theorem kk {A G : Prop} (h : A) (hs : A → G := by intro x; apply_assumption -exfalso -symm; exact x) : G := hs h
end
end Go.Proofs.YtjhbglklcddekaaGreatDoor
