/- Parts: D41, D43, D44, To, F0, E1, F1. -/
import Derived.Test.YtjhbglklcddekaaGreatDoorV13
import Derived.Test.YtjhbglklcddekaaGreatDoorV11
set_option linter.all false
set_option maxRecDepth 100000
set_option maxHeartbeats 16000000
namespace Go.Proofs.YtjhbglklcddekaaGreatDoor
open Go.RowKit Go.Proofs.Tryz
section
section
variable {E : Set} {S : Sd} {dst : Option Tmp} {ty : TypeId} {pos : String} {af : Array Edge} {gd : Option (Nat × Bool)}
theorem q_pair {t e : Nat} {k : IntKind} {x y : Operand} {a b : Int} [ht : TArray E.P t 2 e 1] [hz : TZero E.P t [.d (.int k 0), .d (.int k 0)]] (hx : S.ev x = some (.d (.int k a))) (hy : S.ev y = some (.d (.int k b))) (hox : okOp x = true) (hoy : okOp y = true) :
    Swift E S ⟨dst, .build t #[(0, x), (1, y)], ty, pos, af, gd⟩ (.d (.agg [.int k a, .int k b])) := Swift.mk fun β act w h => by
  obtain ⟨ie, hu, hie, hs, hpos⟩ := array_parts ht
  obtain ⟨i, z, hi, hiz, h1, _⟩ := zero_parts hz
  have h2 := zeroD_rep (w := w) (M := Mut E.C.M0 β S.H) (.d (.d .nil)) h1
  obtain ⟨u0, r0, e0, _, q0, u1, r1, rfl, _, q1, q2⟩ := h2
  simp only [RepA] at q2
  subst q2
  have e1 := h.ev hx hox
  have e2 := h.ev hy hoy
  simp only [RepV, RepD] at e1 e2 q0 q1
  subst q0 q1
  have e0' : z.cells = #[.int k 0, .int k 0] := by rw [← Array.toArray_toList (xs := z.cells), e0]
  refine ⟨.agg #[.int k a, .int k b], fun w' _ => ?_, ⟨[.int k a, .int k b], rfl, ?_⟩⟩
  · simp only [execOp, Sem.run_bind, Instr.build, zeroValue, typeInfo, hi, hiz, run_underlying hu, Sem.run_pure, Result.andThen_ok, program, Sem.run, run_size hie, hs]
    have hf : Instr.fill (fun i => some (i * 1, 1)) #[.int k 0, .int k 0] [(0, .int k a), (1, .int k b)] = some #[.int k a, .int k b] := by simp [Instr.fill, Value.cells]
    have hp : ((#[(0, x), (1, y)] : Array (Nat × Operand)).map fun p => (p.1, act.eval p.2)).toList = [(0, .int k a), (1, .int k b)] := by simp [e1, e2]
    rw [hp, e0', hf]
    rfl
  · exact ⟨_, _, rfl, rfl, rfl, _, _, rfl, rfl, rfl, rfl⟩
theorem q_pair_ne {t e : Nat} {k : IntKind} {yt : TypeId} {x y : Operand} {a b c d : Int} [ht : TArray E.P t 2 e 1] [hk : TInt E.P e k] (hx : S.ev x = some (.d (.agg [.int k a, .int k b]))) (hy : S.ev y = some (.d (.agg [.int k c, .int k d]))) (hox : okOp x = true) (hoy : okOp y = true) (hm : E.P.eqGuardType E.P.depth t = false) :
    Swift E S ⟨dst, .binOp .neq t x y yt, ty, pos, af, gd⟩ (.d (.bool !(a == c && b == d))) := Swift.mk fun β act w h => by
  obtain ⟨ie, hu, hie, hs, hpos⟩ := array_parts ht
  have hk' := int_parts hk
  obtain ⟨us, e1, r1⟩ := h.ev hx hox
  obtain ⟨vs, e2, r2⟩ := h.ev hy hoy
  obtain ⟨u0, ur, rfl, _, q0, u1, ur1, rfl, _, q1, q2⟩ := r1
  obtain ⟨v0, vr, rfl, _, p0, v1, vr1, rfl, _, p1, p2⟩ := r2
  simp only [RepA] at q2 p2
  simp only [RepD] at q0 q1 p0 p1
  subst q2 p2 q0 q1 p0 p1
  refine ⟨.bool !(a == c && b == d), fun w' _ => ?_, rfl⟩
  have key : ∀ dp w', (Op.equalIn (dp + 1 + 1) t (.agg #[.int k a, .int k b]) (.agg #[.int k c, .int k d])).run E.P w' = .ok (a == c && b == d) w' := fun dp w' => by
    have g0 := fun w (v v' : Value) => part_cell (P := E.P) hk' (by simp) (by simp) (xs := [v, v']) (off := 0) (v := v) rfl w
    have g1 := fun w (v v' : Value) => part_cell (P := E.P) hk' (by simp) (by simp) (xs := [v, v']) (off := 1) (v := v') rfl w
    rw [Op.equalIn]
    simp only [Sem.run_bind, run_underlying hu, Result.andThen_ok, run_size hie, hs]
    simp only [Std.Legacy.Range.forIn_eq_forIn_range', Std.Legacy.Range.size, Nat.sub_zero, Nat.add_one_sub_one, Nat.div_one, List.range_eq_range']
    simp only [List.range', List.forIn_cons, List.forIn_nil, Sem.run_bind, Nat.zero_mul, Nat.one_mul, Nat.zero_add, g0, g1, run_equalIn_int _ _ e k k _ _ hk', Result.andThen_ok]
    cases h1 : a == c <;> cases h2 : b == d <;> simp only [Bool.not_true, Bool.not_false, Bool.false_eq_true, if_true, if_false, Bool.true_and, Bool.false_and, Sem.run_pure, Sem.run_bind, Result.andThen_ok, Nat.reduceAdd, g0, g1, run_equalIn_int _ _ e k k _ _ hk', h2]
  simp only [execOp, e1, e2, Sem.run_bind, run_eqGuard_agg w' _ t x y _ _ hm, Result.andThen_ok, run_eql_struct, run_neq_struct, key 9998 w', Sem.run_pure]
theorem q_pair_same {t e : Nat} {k : IntKind} {yt : TypeId} {x y : Operand} {a b : Int} [ht : TArray E.P t 2 e 1] [hk : TInt E.P e k] (hx : S.ev x = some (.d (.agg [.int k a, .int k b]))) (hy : S.ev y = some (.d (.agg [.int k a, .int k b]))) (hox : okOp x = true) (hoy : okOp y = true) (hm : E.P.eqGuardType E.P.depth t = false) :
    Swift E S ⟨dst, .binOp .neq t x y yt, ty, pos, af, gd⟩ (.d (.bool false)) := by
  have h := q_pair_ne (E := E) (S := S) (dst := dst) (ty := ty) (pos := pos) (af := af) (gd := gd) (yt := yt) hx hy hox hoy hm
  rw [show (!(a == a && b == b)) = false by simp] at h
  exact h
theorem q_iarr {t m e sz i : Nat} {x y : Operand} {k : IntKind} {p : Int} {cs ds : List D} [ht : TArray E.P t m e sz] [hc : TAgg E.P e sz] (hx : S.ev x = some (.d (.agg cs))) (hy : S.ev y = some (.d (.int k p))) (hox : okOp x = true) (hoy : okOp y = true) (hi : p = (i : Nat)) (hm : i < m) (hv : Cut cs (i * sz) sz ds) :
    Swift E S ⟨dst, .index t x y, ty, pos, af, gd⟩ (.d (.agg ds)) := Swift.mk fun β a w h => by
  subst hi
  obtain ⟨vs, h1, h2⟩ := h.ev hx hox
  have h1' : a.eval y = .int k (i : Nat) := h.ev hy hoy
  obtain ⟨h3, h4⟩ := hv.eq
  obtain ⟨ie, hu, hie, hs, hpos⟩ := array_parts ht
  obtain ⟨d, i', hu', n1, hi', hs'⟩ := agg_parts hc
  have h5 : RepA w (Mut E.C.M0 β S.H) ds ((vs.drop (i * sz)).take sz) := by rw [h3]; exact (h2.drop (i * sz)).take sz
  refine ⟨.agg ((vs.drop (i * sz)).take sz).toArray, fun w' _ => ?_, _, rfl, h5⟩
  have he : (vs.toArray.extract (i * sz) (i * sz + sz)) = ((vs.drop (i * sz)).take sz).toArray := by simp [List.extract_eq_take_drop]
  have hr : (0 : Int) ≤ (i : Nat) ∧ ((i : Nat) : Int) < (m : Nat) := ⟨by omega, by omega⟩
  simp only [execOp, h1, h1', Instr.index, asIntOf, Sem.run_bind, Sem.run_pure, Result.andThen_ok, run_underlying hu, if_pos hr, run_size hie, hs, Int.toNat_natCast, part, isAgg_yes hu' n1, run_size hi', hs', he, if_true]
end
end
section
section
variable {E : Set} {S : Sd} {dst : Option Tmp} {ty : TypeId} {pos : String} {af : Array Edge} {gd : Option (Nat × Bool)}
def isConc (P : Program) (t : TypeId) : Bool := match P.underlying t with
  | some (.interface _) => false
  | some _ => true
  | none => false
theorem q_makeIface {t : Nat} {x : Operand} {v : V} (hx : S.ev x = some v) (hox : okOp x = true) (hc : isConc E.P t = true) : Swift E S ⟨dst, .makeInterface t x, ty, pos, af, gd⟩ (.ifc t v) := Swift.mk fun β a w h => by
  refine ⟨.iface t (a.eval x), fun w' _ => ?_, _, rfl, h.ev hx hox⟩
  unfold isConc at hc
  cases hu : E.P.underlying t with
  | none => rw [hu] at hc; cases hc
  | some d =>
    rw [hu] at hc
    cases d <;> first | (exact absurd hc Bool.false_ne_true) | simp [execOp, Instr.makeInterface, run_underlying hu]
theorem q_load_sbox {t : Nat} {x : Operand} {n off : Nat} {cs : List V} {v : V} [ht : TCell E.P t] (hx : S.ev x = some (.ptr n off)) (hox : okOp x = true) (hl : look n S.H = some (.sbox cs)) (hc : cs[off]? = some v) : Quiet E S ⟨dst, .load t x, ty, pos, af, gd⟩ v := Quiet.mk fun β a w h => by
  obtain ⟨b, h1, h2⟩ := h.ev hx hox
  obtain ⟨b', vs, us, t', h3, h4, h5⟩ := h.obs n _ hl
  rw [h1] at h3
  cases h3
  obtain ⟨u, h11, h12⟩ := h5.get hc
  refine ⟨u, fun w' g => ?_, h12⟩
  have h13 : (vs ++ us)[off]? = some u := by rw [List.getElem?_append_left (List.getElem?_eq_some_iff.1 h11).1]; exact h11
  have := loadAt_cell ht (box_cell (grows_heap g h4) h13)
  simp [execOp, h2, this]
theorem q_len_bsl {t e sz n off l : Nat} {x : Operand} [ht : TSlice E.P t e sz] (hx : S.ev x = some (.bsl n off l)) (hox : okOp x = true) : Swift E S ⟨dst, .call { callee := .builtin .len, args := #[x], argTypes := #[t] }, ty, pos, af, gd⟩ (.d (.int .i64 (l : Nat))) := Swift.mk fun β a w h => by
  obtain ⟨ie, hu, _⟩ := slice_parts ht
  obtain ⟨b, c, h1, h2, _⟩ := h.ev hx hox
  refine ⟨.int .i64 (l : Nat), fun w' _ => ?_, rfl⟩
  simp [execOp, resolve, invoke, builtin, h2, Builtin.len_, goInt, run_underlying hu]
theorem q_index_bsl {t e sz i n off l : Nat} {x y : Operand} {k : IntKind} {p : Int} [ht : TSlice E.P t e sz] (hx : S.ev x = some (.bsl n off l)) (hy : S.ev y = some (.d (.int k p))) (hox : okOp x = true) (hoy : okOp y = true) (hi : p = (i : Nat)) (hm : i < l) :
    Swift E S ⟨dst, .indexAddr t x y, ty, pos, af, gd⟩ (.ptr n (off + i * sz)) := Swift.mk fun β a w h => by
  subst hi
  obtain ⟨b, c, h1, h2, _⟩ := h.ev hx hox
  have h3 : a.eval y = .int k (i : Nat) := h.ev hy hoy
  refine ⟨.pointer (some ⟨b, off + i * sz, none⟩), fun w' _ => ?_, b, h1, rfl⟩
  have := run_indexAt (P := E.P) ht (b := b) (o := off) (n := l) (c := c) (k := k) hm w'
  simp [execOp, h2, h3, this]
theorem CellsV.only {C : Ctx} {β : Nat → Hd} {a : Act} {w : World} (h : StB C β S a w) {v : V} (hc : CellsV v [v]) {u : Value} (hu : RepV w (Mut C.M0 β S.H) β S.H v u) (hown : ownOk S v = true) : ∃ c, u.cells = #[c] ∧ c.oneCell' = true ∧ RepV w (Mut C.M0 β S.H) β S.H v c := by
  obtain ⟨h1, h2⟩ := hc.rep h hu (ownOk_spec hown)
  obtain ⟨c, r, h3, h4, h5⟩ := h1
  simp only [RepL] at h5
  subst h5
  refine ⟨c, ?_, h2 c (by rw [h3]; simp), h4⟩
  rw [← Array.toArray_toList (xs := u.cells), h3]
def zero2 (P : Program) (t : TypeId) : Bool := match P.info? t with
  | some i => (match i.zero with | some z => z.cells.size == 2 | none => false)
  | none => false
theorem q_build2 {t e : Nat} {x y : Operand} {u v : V} [ht : TArray E.P t 2 e 1] (hz : zero2 E.P t = true) (hx : S.ev x = some u) (hy : S.ev y = some v) (hox : okOp x = true) (hoy : okOp y = true) (hcu : CellsV u [u]) (hcv : CellsV v [v]) (hu : ownOk S u = true) (hv : ownOk S v = true) :
    Swift E S ⟨dst, .build t #[(0, x), (1, y)], ty, pos, af, gd⟩ (.agg [u, v]) := Swift.mk fun β a w h => by
  obtain ⟨ie, hut, hie, hs, hpos⟩ := array_parts ht
  obtain ⟨i, z, hi, hiz, hz2⟩ : ∃ i z, E.P.info? t = some i ∧ i.zero = some z ∧ z.cells.size = 2 := by
    unfold zero2 at hz
    cases hi : E.P.info? t with
    | none => rw [hi] at hz; cases hz
    | some i =>
      rw [hi] at hz
      dsimp only at hz
      cases hiz : i.zero with
      | none => rw [hiz] at hz; cases hz
      | some z => rw [hiz] at hz; exact ⟨i, z, rfl, hiz, by simpa using hz⟩
  obtain ⟨c0, e0, o0, r0⟩ := hcu.only h (h.ev hx hox) hu
  obtain ⟨c1, e1, o1, r1⟩ := hcv.only h (h.ev hy hoy) hv
  refine ⟨.agg #[c0, c1], fun w' _ => ?_, [c0, c1], rfl, ?_, c0, _, rfl, r0, c1, _, rfl, r1, rfl⟩
  · obtain ⟨q0, q1, hq⟩ : ∃ q0 q1, z.cells = #[q0, q1] := by
      rcases hzc : z.cells with ⟨l⟩
      rw [hzc] at hz2
      match l, hz2 with
      | [p, q], _ => exact ⟨p, q, rfl⟩
    have hsz : ie.size = 1 := hs
    simp only [execOp, Sem.run_bind, Instr.build, zeroValue, typeInfo, hi, hiz, run_underlying hut, Sem.run_pure, Result.andThen_ok, program, Sem.run, run_size hie]
    simp [Instr.fill, e0, e1, hq, hsz]
  · intro q hq
    rcases List.mem_cons.1 hq with rfl | hq
    · exact o0
    · rcases List.mem_cons.1 hq with rfl | hq
      · exact o1
      · cases hq
inductive ElemsV (S : Sd) (sz : Nat) : Nat → List (Nat × Operand) → List V → Prop
  | nil (i : Nat) : ElemsV S sz i [] []
  | cons {i : Nat} {x : Operand} {v : V} {vs cs : List V} {ps : List (Nat × Operand)} (hx : S.ev x = some v) (ho : okOp x = true) (hown : ownOk S v = true) (hc : CellsV v vs) (hm : vs.length = sz) (h : ElemsV S sz (i + 1) ps cs) : ElemsV S sz i ((i, x) :: ps) (vs ++ cs)
theorem ElemsV.rep {C : Ctx} {β : Nat → Hd} {a : Act} {w : World} (h : StB C β S a w) {sz i : Nat} {ps : List (Nat × Operand)} {cs : List V} (he : ElemsV S sz i ps cs) :
    ∃ us : List Value, ps.map (fun x => (x.1, a.eval x.2)) = (us.zipIdx i).map (fun x => (x.2, x.1)) ∧ us.length = ps.length ∧ (∀ u ∈ us, u.cells.size = sz) ∧ RepL w (Mut C.M0 β S.H) β S.H cs (us.flatMap fun v => v.cells.toList) ∧ ∀ u ∈ us.flatMap (fun v => v.cells.toList), u.oneCell' = true := by
  induction he with
  | nil i => exact ⟨[], rfl, rfl, (fun u hu => by cases hu), rfl, fun u hu => by cases hu⟩
  | @cons i x v vs cs ps hx ho hown hc hm _ ih =>
    obtain ⟨us, h1, h2, h3, h4, h5⟩ := ih
    obtain ⟨h6, h7⟩ := hc.rep h (h.ev hx ho) (ownOk_spec hown)
    have h8 : (a.eval x).cells.size = sz := by have := h6.length; simp at this; omega
    refine ⟨a.eval x :: us, ?_, by simp [h2], fun u hu => ?_, ?_, fun u hu => ?_⟩
    · simp only [List.map_cons, h1, List.zipIdx_cons]
    · rcases List.mem_cons.1 hu with rfl | hu
      · exact h8
      · exact h3 u hu
    · rw [List.flatMap_cons]
      exact RepL.app h6 h4
    · rw [List.flatMap_cons, List.mem_append] at hu
      rcases hu with hu | hu
      · exact h7 u hu
      · exact h5 u hu
theorem g_lit_s {d n t e sz len : Nat} {ps : List (Nat × Operand)} {cs : List V} [ht : TSlice E.P t e sz] (hp : ElemsV S sz 0 ps cs) (hlen : ps.length = len) (h0 : 0 < len) (hsmall : len * sz ≤ 16777216) (hn : S.fresh n = true) (hs : saysL n cs = false) :
    Grow E S ⟨some d, .buildSlice t len ps.toArray, ty, pos, af, gd⟩ { S with H := (n, .sbox cs) :: S.H } (.bsl n 0 len) := Grow.mk fun β a w h => by
  obtain ⟨bytes, ⟨i, z, hu, hi, hz, hs', hby, hzs, hpos⟩, _⟩ := slice_elem ht
  obtain ⟨us, h1, h2, h3, h4, _⟩ := hp.rep h
  have hst : ∀ w', w' = w.alloc (.cells (us.flatMap fun v => v.cells.toList).toArray e) → StB E.C (upd β n (.pointer (some ⟨w.heap.size, 0, none⟩))) { S with H := (n, .sbox cs) :: S.H } a w' := fun w' e' => by
    subst e'
    refine h.newObj hn (.pointer (some ⟨w.heap.size, 0, none⟩)) (Grows.alloc w _) (fun b hb' => ?_) (.sbox cs) fun k => ?_
    · simp only [hb, Option.some.injEq] at hb'
      omega
    · exact ⟨w.heap.size, _, [], e, rfl, by rw [List.append_nil]; exact heap_alloc_new w _, saysL_of hs k (fun m hm => upd_other β n _ hm) (fun m hm => by rw [look_set, if_neg (Ne.symm hm)]) h4⟩
  refine ⟨.slice (some ⟨w.heap.size, 0, none⟩) len len, _, _, ?_, Grows.alloc w _, hst _ rfl, w.heap.size, len, upd_v _ _ _, rfl, Nat.le_refl _, by unfold maxLen; have := Nat.le_mul_of_pos_right len hpos; omega⟩
  have hparts : (ps.toArray.map fun x => (x.1, a.eval x.2)).toList = (us.zipIdx 0).map (fun x => (x.2, x.1)) := by simp [← h1]
  have hne : ¬ len * i.size = 0 := by rw [hs']; exact Nat.mul_ne_zero (by omega) (by omega)
  have hf := Go.Great.fill_whole (s := sz) hpos us ((Array.range (len * sz)).map (z.cells[· % z.cells.size]!)) h3 (by simp; rw [h2, hlen])
  have hr := run_buildSlice (P := E.P) w t e len (ps.toArray.map fun x => (x.1, a.eval x.2)) _ i z hu hi hz (by rw [hs']; omega) hne (by rw [hs', hparts]; exact hf)
  simp only [execOp, Sem.run_bind, hr, Result.andThen_ok, Sem.run_pure]
def V.one : V → Bool
  | .ptr _ _ => true
  | .ifc _ _ => true
  | .d (.int _ _) => true
  | _ => false
theorem V.one_rep {w : World} {M : Nat → Nat → Prop} {β : Nat → Hd} {H : List (Nat × Ob)} {v : V} (h : v.one = true) {u : Value} (hu : RepV w M β H v u) : u.oneCell' = true := by
  unfold V.one at h
  split at h
  · obtain ⟨b, _, rfl⟩ := hu; rfl
  · obtain ⟨b, rfl, _⟩ := hu; rfl
  · simp only [RepV, RepD] at hu; subst hu; rfl
  · cases h
theorem RepL.ones {w : World} {M : Nat → Nat → Prop} {β : Nat → Hd} {H : List (Nat × Ob)} : ∀ {cs : List V} {us : List Value}, RepL w M β H cs us → cs.all V.one = true → ∀ u ∈ us, u.oneCell' = true
  | [], _, h, _, u, hu => by simp only [RepL] at h; subst h; cases hu
  | c :: cs, _, ⟨v, r, h1, h2, h3⟩, ha, u, hu => by
    simp only [List.all_cons, Bool.and_eq_true] at ha
    subst h1
    rcases List.mem_cons.1 hu with rfl | hu
    · exact V.one_rep ha.1 h2
    · exact RepL.ones h3 ha.2 u hu
theorem g_append_s {d n m t e sz sz' len : Nat} {s x : Operand} {cs : List V} [ht : TSlice E.P t e sz] (hs : S.ev s = some (.nils sz')) (hos : okOp s = true) (hx : S.ev x = some (.bsl m 0 len)) (hox : okOp x = true) (hl : look m S.H = some (.sbox cs)) (hlen : cs.length = len * sz) (h0 : 0 < len) (hsm : len ≤ 1000000) (hone : cs.all V.one = true)
    (hn : S.fresh n = true) (hsy : saysL n cs = false) : Grow E S ⟨some d, .call { callee := .builtin .append, args := #[s, x], argTypes := #[t, t] }, ty, pos, af, gd⟩ { S with H := (n, .sbox cs) :: S.H } (.bsl n 0 len) := Grow.mk fun β a w h => by
  obtain ⟨bytes, he, hby⟩ := slice_elem ht
  have h1 : a.eval s = .slice none 0 0 := h.ev hs hos
  obtain ⟨b, c, q1, q2, q3, _⟩ := h.ev hx hox
  obtain ⟨b', vs, us, t', q4, q5, q6⟩ := h.obs m _ hl
  rw [q1] at q4
  cases q4
  have hvl : vs.length = len * sz := by rw [q6.length, hlen]
  obtain ⟨v', w', h10, h11, h12⟩ := run_app (P := E.P) (ty := ty) w he (World.ownsRow_nil w 0 e sz) (xa := some ⟨b, 0, none⟩) (m := len) (xc := c) (news := vs) hvl (fun j u hu => ⟨b, 0, rfl, by
    rw [Nat.zero_add]
    exact box_cell q5 (by rw [List.getElem?_append_left (List.getElem?_eq_some_iff.1 hu).1]; exact hu)⟩) (fun h => by cases h) q3 (q6.ones hone) (by omega) hby
  rw [Nat.zero_add, List.nil_append] at h11
  obtain ⟨r1, r2⟩ := h11
  rcases r2 with ⟨_, r2⟩ | ⟨g, cap, cur, rfl, _, r3, r4, r7, r5, r6⟩
  · omega
  · have hg : Grows w w' ∧ w.heap.size ≤ g := by
      rcases h12 with ⟨h13, _⟩ | ⟨h13, h14⟩
      · cases h13
      · exact ⟨(Below.refl _ _).grown h14 (Nat.le_refl _) (fun k hk => by cases hk), h13 g rfl⟩
    refine ⟨_, w', upd β n (.pointer (some ⟨g, 0, none⟩)), run_append_op (by rw [h1, q2]; exact h10), hg.1, ?_, g, cap, upd_v _ _ _, rfl, r4, r7⟩
    refine h.newObj hn (.pointer (some ⟨g, 0, none⟩)) hg.1 (fun q hq => ?_) (.sbox cs) fun k => ?_
    · simp only [hb, Option.some.injEq] at hq
      rw [← hq]
      exact hg.2
    · refine ⟨g, vs, cur.toList.drop (len * sz), e, rfl, ?_, saysL_of hsy k (fun m hm => upd_other β n _ hm) (fun m hm => by rw [look_set, if_neg (Ne.symm hm)]) q6⟩
      rw [r3, ← r6, List.take_append_drop]
theorem run_invoke {P : Program} {f : Nat} (hf : TFun P f) (a : Act) {x : Operand} {t : TypeId} {u : Value} (he : a.eval x = .iface t u) {name : String} {w : World} (hm : (method (P.types.size + Made.depth) t u name).run P w = .ok (f, u) w) (xs : List Operand) (ats : Array TypeId) (dst : Option Tmp) :
    (execOp a.eval ⟨dst, .call { callee := .invoke x name, args := xs.toArray, argTypes := ats }, ty, pos, af, gd⟩).run P w = .ok (.enter f (u :: xs.map a.eval).toArray) w := by
  have := hf.ok
  unfold callOk at this
  cases hfn : P.funcs[f]? with
  | none => rw [hfn] at this; cases this
  | some fn =>
    rw [hfn] at this
    simp only [Bool.and_eq_true, Bool.not_eq_true'] at this
    have h2 : ¬ fn.name = "runtime.NumGoroutine" := by simpa using this.2
    cases hb : fn.body with
    | none => rw [hb] at this; cases this.1
    | some c => simp [execOp, resolve, he, invoke, callMethod, callFunc, hfn, hb, h2, hm, List.take_of_length_le]
end
section
variable {E : Set} {Q : Exit → Sd → Prop} {ops : Array Oper} {draw : Bool} {rest : Todo} {way : Way3} {ty : TypeId} {pos : String} {af : Array Edge} {gd : Option (Nat × Bool)}
variable {env : List (Nat × V)} {H : List (Nat × Ob)} {gl : List (Nat × List D)} {d : Nat}
theorem s_invoke {f : Nat} {t : TypeId} {name : String} {x : Operand} {xs : List Operand} {ats : Array TypeId} {u : V} {vs args : List V} {H0 : List (Nat × Ob)} {R : V → List (Nat × Ob) → Prop} [hf : TFun E.P f] (hx0 : Sd.ev ⟨env, H, gl⟩ x = some (.ifc t u)) (hox : okOp x = true) (hme : ∀ v w, (method (E.P.types.size + Made.depth) t v name).run E.P w = .ok (f, v) w)
    (hx : Evs ⟨env, H, gl⟩ xs vs) (ha : ArgsE H (u :: vs) args)
    (hc : FnE E.P gl f args H0 R) (hs : SubH H H0) (hwm : wholeMut H0 = true) (hd : d < E.C.nt) (hg : Sd.gd ⟨env, H, gl⟩ ops ⟨some d, .call { callee := .invoke x name, args := xs.toArray, argTypes := ats }, ty, pos, af, gd⟩ = some true) (hw : isBar draw way = true)
    (h : ∀ v H1, R v H1 → freshNew ⟨env, H, gl⟩ H0 H1 = true ∧ TR E draw ops Q rest ⟨(d, v) :: env, H1 ++ H, gl⟩) : TR E draw ops Q (.step ⟨some d, .call { callee := .invoke x name, args := xs.toArray, argTypes := ats }, ty, pos, af, gd⟩ way rest) ⟨env, H, gl⟩ := by
  refine tr_calls rfl hd hg rfl hw fun β a w hB => ?_
  obtain ⟨u', h1, h2⟩ := hB.ev hx0 hox
  refine ⟨f, _, run_invoke hf a h1 (hme u' w) xs ats (some d), ?_⟩
  have hsub := hs.sub
  let M : Nat → Nat → Prop := fun b o => E.C.M0 b o ∨ ∃ m ob, look m H = some ob ∧ look m H0 = none ∧ own (β m) ob b ∧ ob.mut o
  have hMut : Mut M β H0 = Mut E.C.M0 β H := by
    funext b o
    apply propext
    constructor
    · rintro ((hm | ⟨m, ob, q1, _, q2, q3⟩) | ⟨n, ob, q1, q2, q3⟩)
      · exact .inl hm
      · exact .inr ⟨m, ob, q1, q2, q3⟩
      · exact .inr ⟨n, ob, hsub n ob q1, q2, q3⟩
    · rintro (hm | ⟨n, ob, q1, q2, q3⟩)
      · exact .inl (.inl hm)
      · cases h0 : look n H0 with
        | none => exact .inl (.inr ⟨n, ob, q1, h0, q2, q3⟩)
        | some ob0 =>
          have := hsub n ob0 h0
          rw [q1] at this
          cases this
          exact .inr ⟨n, ob, h0, q2, q3⟩
  have hrow : ∀ n e sz sh xs k, look n H0 = some (.row e sz sh xs k) → ∃ sh' xs', look n H = some (.row e sz sh' xs' k) := fun n e sz sh xs k hl => ⟨sh, xs, hsub n _ hl⟩
  have hargs := ha.rep hB (show RepL w (Mut E.C.M0 β H) β H (u :: vs) (u' :: xs.map a.eval) from ⟨u', _, rfl, h2, hx.rep hB⟩)
  refine (hc w M β _ ?_ ?_ ⟨fun n ob hl => ?_, fun n m b ob ob' hne q1 q2 => hB.apart n m b ob ob' hne (hsub n ob q1) (hsub m ob' q2), fun n ob b o hl hb' hm => ?_⟩ ?_).mono ?_
  · rintro b o (hm | ⟨m, ob, q1, _, q2, _⟩)
    · have := hB.low b o hm
      have := hB.frame.size
      omega
    · exact hB.old q1 q2
  · rw [hMut]
    exact RepL.keep (Keeps.refl _ _) (fun _ => rfl) hrow _ _ hargs
  · rw [hMut]
    exact RepO.keep (Keeps.refl _ _) (fun _ _ => rfl) (fun vs hL => RepL.keep (Keeps.refl _ _) (fun _ => rfl) hrow _ _ hL) (hB.obs n ob (hsub n ob hl))
  · rcases hm with hm | ⟨m, ob', q1, q2, q3, _⟩
    · exact hB.out n ob b o (hsub n ob hl) hb' hm
    · have hne : n ≠ m := by rintro rfl; rw [hl] at q2; cases q2
      exact hB.apart n m b ob ob' hne (hsub n ob hl) q1 hb' q3
  · rw [hMut]
    exact hB.glob
  · rintro e w' ⟨v, x, H1, β1, hR, hok, rfl, hfr, hβ, hnew, ho, hv⟩
    obtain ⟨hf', hT⟩ := h v H1 hR
    obtain ⟨β', hB', hv'⟩ := hB.called hsub hwm rfl hok hfr hβ hnew ho hf' hv
    exact ⟨x, _, β', v, rfl, hB', hv', hT⟩
theorem y_invoke {r : V} {H1 : List (Nat × Ob)} {f : Nat} {t : TypeId} {name : String} {x : Operand} {xs : List Operand} {ats : Array TypeId} {u : V} {vs args : List V} {H0 : List (Nat × Ob)} [hf : TFun E.P f] (h : TR E draw ops Q rest ⟨(d, r) :: env, H1 ++ H, gl⟩) (hx0 : Sd.ev ⟨env, H, gl⟩ x = some (.ifc t u) := by exact rfl) (hox : okOp x = true := by exact rfl) (hme : ∀ v w, (method (E.P.types.size + Made.depth) t v name).run E.P w = .ok (f, v) w := by exact fun _ _ => by kernel_rfl)
    (hx : Evs ⟨env, H, gl⟩ xs vs := by (repeat (first | exact Evs.nil | apply Evs.cons rfl rfl)); fail_if_success intros) (ha : ArgsE H (u :: vs) args := by (repeat (first | exact ArgsE.nil | apply ArgsE.cons (ArgE.own rfl) | apply ArgsE.cons (ArgE.nils _) | apply ArgsE.cons (ArgE.same _))); fail_if_success intros) (hc : FnE E.P gl f args H0 (fun v H2 => v = r ∧ H2 = H1)) (hs : SubH H H0 := by (repeat (first | exact SubH.nil | apply SubH.cons rfl)); fail_if_success intros) (hwm : wholeMut H0 = true := by exact rfl) (hd : d < E.C.nt := by exact ltd rfl)
    (hg : Sd.gd ⟨env, H, gl⟩ ops ⟨some d, .call { callee := .invoke x name, args := xs.toArray, argTypes := ats }, ty, pos, af, gd⟩ = some true := by exact rfl) (hw : isBar draw way = true := by exact rfl) (hfr : freshNew ⟨env, H, gl⟩ H0 H1 = true := by exact rfl) :
    TR E draw ops Q (.step ⟨some d, .call { callee := .invoke x name, args := xs.toArray, argTypes := ats }, ty, pos, af, gd⟩ way rest) ⟨env, H, gl⟩ := s_invoke hx0 hox hme hx ha hc hs hwm hd hg hw fun _ _ e => by obtain ⟨rfl, rfl⟩ := e; exact ⟨hfr, h⟩
theorem y_lit_s {t e sz len : Nat} {ps : List (Nat × Operand)} {cs : List V} [ht : TSlice E.P t e sz] (n : Nat) (h : TR E draw ops Q rest ⟨(d, .bsl n 0 len) :: env, (n, .sbox cs) :: H, gl⟩) (hp : ElemsV ⟨env, H, gl⟩ sz 0 ps cs := by repeat (first | exact ElemsV.nil _ | (apply ElemsV.cons; exact rfl; exact rfl; exact rfl; (focus (first | (refine CellsV.d (by first | exact CellsD.agg _ | constructor) (by (repeat (first | exact MapD.nil | apply MapD.nils | apply MapD.cons)); fail_if_success intros)) | constructor)); rfl))) (hlen : ps.length = len := by rfl) (h0 : 0 < len := by exact ltd rfl) (hsmall : len * sz ≤ 16777216 := by decide) (hn : Sd.fresh ⟨env, H, gl⟩ n = true := by exact rfl) (hs : saysL n cs = false := by rfl) (hd : d < E.C.nt := by exact ltd rfl)
    (hg : Sd.gd ⟨env, H, gl⟩ ops ⟨some d, .buildSlice t len ps.toArray, ty, pos, af, gd⟩ = some true := by exact rfl) (hw : way.loud = true := by exact rfl) : TR E draw ops Q (.step ⟨some d, .buildSlice t len ps.toArray, ty, pos, af, gd⟩ way rest) ⟨env, H, gl⟩ := tr_grow (g_lit_s hp hlen h0 hsmall hn hs) rfl hd hg rfl hw h
theorem y_append_s {t e sz sz' m len : Nat} {s x : Operand} {cs : List V} [ht : TSlice E.P t e sz] (n : Nat) (h : TR E draw ops Q rest ⟨(d, .bsl n 0 len) :: env, (n, .sbox cs) :: H, gl⟩) (hs : Sd.ev ⟨env, H, gl⟩ s = some (.nils sz') := by exact rfl) (hos : okOp s = true := by exact rfl) (hx : Sd.ev ⟨env, H, gl⟩ x = some (.bsl m 0 len) := by exact rfl) (hox : okOp x = true := by exact rfl) (hl : look m H = some (.sbox cs) := by exact rfl) (hlen : cs.length = len * sz := by rfl) (h0 : 0 < len := by exact ltd rfl) (hsm : len ≤ 1000000 := by decide) (hone : cs.all V.one = true := by rfl) (hn : Sd.fresh ⟨env, H, gl⟩ n = true := by exact rfl) (hsy : saysL n cs = false := by rfl) (hd : d < E.C.nt := by exact ltd rfl)
    (hg : Sd.gd ⟨env, H, gl⟩ ops ⟨some d, .call { callee := .builtin .append, args := #[s, x], argTypes := #[t, t] }, ty, pos, af, gd⟩ = some true := by exact rfl) (hw : way.loud = true := by exact rfl) : TR E draw ops Q (.step ⟨some d, .call { callee := .builtin .append, args := #[s, x], argTypes := #[t, t] }, ty, pos, af, gd⟩ way rest) ⟨env, H, gl⟩ := tr_grow (g_append_s hs hos hx hox hl hlen h0 hsm hone hn hsy (d := d)) rfl hd hg rfl hw h
theorem yyw {A G : Prop} (h : A) (hs : Step A G := by (apply st_p; exact rfl; exact rfl; (first | (apply q_makeIface; exact rfl; exact rfl; kernel_rfl) | (apply q_len_bsl; exact rfl; exact rfl) | (apply q_index_bsl; exact rfl; exact rfl; exact rfl; exact rfl; (focus (first | with_reducible exact nat_lit_eq | exact rfl | exact (Int.toNat_of_nonneg (by omega)).symm)); (focus (first | omega | (simp only [List.length_cons, List.length_nil, List.length_append, List.length_map, List.length_take, List.length_drop]; omega))))); exact ltd rfl; exact rfl)) : G := hs.go h
theorem yyv {A G : Prop} (h : A) (hs : Step A G := by (apply st_q; exact rfl; exact rfl; (apply q_load_sbox; exact rfl; exact rfl; exact rfl; exact rfl); exact ltd rfl; exact rfl; exact rfl)) : G := hs.go h
end
end
section
section
variable {E : Set} {S : Sd} {dst : Option Tmp} {ty : TypeId} {pos : String} {af : Array Edge} {gd : Option (Nat × Bool)}
theorem row_slice {C : Ctx} {β : Nat → Hd} {a : Act} {w : World} (h : StB C β S a w) {n k e sz : Nat} {sh : Bool} {xs : List D} (hl : look n S.H = some (.row e sz sh xs k)) :
    ∃ ad c ys, (β n).v = .slice ad xs.length c ∧ xs.length ≤ c ∧ (ad = none → c = 0) ∧ RepE w (Mut C.M0 β S.H) sz xs ys ∧ ∀ j u, ys[j]? = some u → ∃ b o, ad = some ⟨b, o, none⟩ ∧ w.cell? ⟨b, o + j, none⟩ = some u := by
  obtain ⟨ys, h1, h2⟩ := h.obs n _ hl
  obtain ⟨h3, h4⟩ := h1
  rcases h4 with ⟨h4, h5⟩ | ⟨g, cap, cur, h4, _, h5, h6, h7, h8, h9⟩
  · refine ⟨none, 0, ys, by rw [h4, h5], by omega, fun _ => rfl, h2, fun j u hu => ?_⟩
    rw [h5, Nat.zero_mul] at h3
    rw [List.eq_nil_of_length_eq_zero h3] at hu
    cases hu
  · refine ⟨some ⟨g, 0, none⟩, cap, ys, h4, h6, fun h => (by cases h), h2, fun j u hu => ⟨g, 0, rfl, ?_⟩⟩
    rw [Nat.zero_add]
    have h10 : cur.toList[j]? = some u := by
      rw [← h9, List.getElem?_take] at hu
      split at hu
      · exact hu
      · cases hu
    exact box_cell (vs := cur.toList) (by rw [Array.toArray_toList]; exact h5) h10
theorem k_own_nil {n k e sz sz' : Nat} {sh : Bool} {xt yt : TypeId} {x y : Operand} {xs : List D} (hu : isSliceT E.P xt = true) (hx : S.ev x = some (.own n k)) (hl : look n S.H = some (.row e sz sh xs k)) (hy : S.ev y = some (.nils sz')) (hox : okOp x = true) (hoy : okOp y = true) :
    SwiftK E S ⟨dst, .binOp .eql xt x y yt, ty, pos, af, gd⟩ (fun _ => S) (fun k => .d (.bool (Nat.beq k 1 && xs.isEmpty))) := SwiftK.mk fun β a w h => by
  obtain ⟨ad, c, ys, h1, h4, h5, _, _⟩ := row_slice h hl
  have h0 : a.eval x = (β n).v := h.ev hx hox e sz sh xs hl
  rw [h1] at h0
  have h2 : a.eval y = .slice none 0 0 := h.ev hy hoy
  refine ⟨.bool ad.isNone, β, if ad.isNone then 1 else 0, fun w' => ?_, h, ?_⟩
  · have he := run_slice_eq_nil hu ad xs.length c w'
    have hb : (binOp .eql xt (.slice ad xs.length c) (.slice none 0 0)).run E.P w' = .ok (.bool ad.isNone) w' := by
      show (do pure (Value.bool (← Op.equal xt (.slice ad xs.length c) (.slice none 0 0))) : Sem Value).run E.P w' = _
      simp only [Sem.run_bind, he, Result.andThen_ok, Sem.run_pure]
    simp [execOp, h0, h2, eqGuard, hb]
  · show Value.bool ad.isNone = Value.bool (Nat.beq (if ad.isNone then 1 else 0) 1 && xs.isEmpty)
    cases ad with
    | some p => rfl
    | none =>
      have hc := h5 rfl
      have : xs = [] := List.eq_nil_of_length_eq_zero (by omega)
      subst this
      rfl
theorem t_append_row {d t e sz n k m km : Nat} {sh shm : Bool} {s x : Operand} {xs ys : List D} [ht : TSlice E.P t e sz] (hs : S.ev s = some (.own n k)) (hos : okOp s = true) (hl : look n S.H = some (.row e sz sh xs k)) (hx : S.ev x = some (.own m km)) (hox : okOp x = true) (hlm : look m S.H = some (.row e sz shm ys km)) (hlen : xs.length + ys.length ≤ 100000000000) (hN : E.C.N.contains n = false) :
    GrowK E S ⟨some d, .call { callee := .builtin .append, args := #[s, x], argTypes := #[t, t] }, ty, pos, af, gd⟩ (fun k' => { S with H := (n, .row e sz sh (xs ++ ys) k') :: S.H }) (fun k' => .own n k') := GrowK.mk fun β a w h => by
  obtain ⟨bytes, he, hby⟩ := slice_elem ht
  have h1 : a.eval s = (β n).v := h.ev hs hos e sz sh xs hl
  obtain ⟨olds, h2, h3⟩ := h.obs n _ hl
  obtain ⟨xa, xc, news, h4, h5, h7, h8, h9⟩ := row_slice h hlm
  have h0 : a.eval x = (β m).v := h.ev hx hox e sz shm ys hlm
  rw [h4] at h0
  obtain ⟨v', w', h10, h11, h12⟩ := run_app (P := E.P) (ty := ty) w he h2 (xa := xa) (m := ys.length) (xc := xc) (news := news) h8.length h9 h7 h5 h8.one hlen hby
  refine ⟨v', w', _, max (topE S.env) (topO S.H), run_append_op (by rw [h1, h0]; exact h10), h.append hl h2 h3 h8 h11 h12 _ (Nat.le_refl _) hN, repV_own⟩
end
section
variable {E : Set} {Q : Exit → Sd → Prop} {ops : Array Oper} {draw : Bool} {rest : Todo} {way : Way3} {ty : TypeId} {pos : String} {af : Array Edge} {gd : Option (Nat × Bool)}
variable {env : List (Nat × V)} {H : List (Nat × Ob)} {gl : List (Nat × List D)} {d : Nat}
theorem z_own_nil {n k e sz sz' : Nat} {sh : Bool} {xt yt : TypeId} {x y : Operand} {xs : List D} (h1 : xs = [] → TR E draw ops Q rest ⟨(d, .d (.bool true)) :: env, H, gl⟩) (h2 : TR E draw ops Q rest ⟨(d, .d (.bool false)) :: env, H, gl⟩) (hu : isSliceT E.P xt = true := by kernel_rfl) (hx : Sd.ev ⟨env, H, gl⟩ x = some (.own n k) := by exact rfl) (hl : look n H = some (.row e sz sh xs k) := by exact rfl) (hy : Sd.ev ⟨env, H, gl⟩ y = some (.nils sz') := by exact rfl) (hox : okOp x = true := by exact rfl) (hoy : okOp y = true := by exact rfl) (hd : d < E.C.nt := by exact ltd rfl)
    (hg : Sd.gd ⟨env, H, gl⟩ ops ⟨some d, .binOp .eql xt x y yt, ty, pos, af, gd⟩ = some true := by exact rfl) :
    TR E draw ops Q (.step ⟨some d, .binOp .eql xt x y yt, ty, pos, af, gd⟩ way rest) ⟨env, H, gl⟩ :=
  tr_stillK (k_own_nil (S := ⟨env, H, gl⟩) hu hx hl hy hox hoy) rfl hd hg rfl fun k => by
    show TR E draw ops Q rest ⟨(d, .d (.bool (Nat.beq k 1 && xs.isEmpty))) :: env, H, gl⟩
    cases hk : Nat.beq k 1 with
    | false => exact h2
    | true =>
      cases xs with
      | nil => exact h1 rfl
      | cons a t => exact h2
theorem z_append_row {t e sz n k m km : Nat} {sh shm : Bool} {s x : Operand} {xs ys : List D} [ht : TSlice E.P t e sz] (h : ∀ k', TR E draw ops Q rest ⟨(d, .own n k') :: env, (n, .row e sz sh (xs ++ ys) k') :: H, gl⟩) (hs : Sd.ev ⟨env, H, gl⟩ s = some (.own n k) := by exact rfl) (hos : okOp s = true := by exact rfl) (hl : look n H = some (.row e sz sh xs k) := by exact rfl) (hx : Sd.ev ⟨env, H, gl⟩ x = some (.own m km) := by exact rfl) (hox : okOp x = true := by exact rfl) (hlm : look m H = some (.row e sz shm ys km) := by exact rfl) (hlen : xs.length + ys.length ≤ 100000000000 := by first | omega | (simp only [List.length_cons, List.length_nil, List.length_append, List.length_map, List.length_take, List.length_drop]; omega)) (hN : E.C.N.contains n = false := by exact rfl) (hd : d < E.C.nt := by exact ltd rfl)
    (hg : Sd.gd ⟨env, H, gl⟩ ops ⟨some d, .call { callee := .builtin .append, args := #[s, x], argTypes := #[t, t] }, ty, pos, af, gd⟩ = some true := by exact rfl) (hw : isBar draw way = true := by exact rfl) : TR E draw ops Q (.step ⟨some d, .call { callee := .builtin .append, args := #[s, x], argTypes := #[t, t] }, ty, pos, af, gd⟩ way rest) ⟨env, H, gl⟩ :=
  tr_turnK (t_append_row hs hos hl hx hox hlm hlen hN (d := d)) rfl hd hg rfl hw h
end
end
section
namespace To
structure Port where
  node : Int
  link : Int
deriving DecidableEq
structure Wire where
  a : Port
  b : Port
deriving DecidableEq
structure Topo where
  nodes : Int
  wires : List Wire
  host : Port
def peer : List Wire → Port → Option Port
  | [], _ => none
  | w :: ws, p => if w.a = p then some w.b else if w.b = p then some w.a else peer ws p
end To
def dPort (p : To.Port) : D := .agg [.int .i64 p.node, .int .i64 p.link]
def dWire (w : To.Wire) : D := .agg [.int .i64 w.a.node, .int .i64 w.a.link, .int .i64 w.b.node, .int .i64 w.b.link]
def dTopo (t : To.Topo) : D := .agg [.int .i64 t.nodes, .list 4 (t.wires.map dWire), .int .i64 t.host.node, .int .i64 t.host.link]
namespace To
def ports (t : Topo) : List Port := t.host :: t.wires.flatMap fun w => [w.a, w.b]
def meet (ws : List Wire) (l : List Port) (p : Port) : List Port := match peer ws p with
  | some q => if l.all (fun x => x.node != q.node) then l ++ [q] else l
  | none => l
def visit (ws : List Wire) (l : List Port) (n : Int) (k : Nat) : List Port := (List.range' k (4 - k)).foldl (fun l (k : Nat) => meet ws l ⟨n, k⟩) l
def bfs (ws : List Wire) : Nat → Nat → List Port → List Port
  | 0, _, l => l
  | f + 1, i, l => match l[i]? with
    | some p => bfs ws f (i + 1) (visit ws l p.node 0)
    | none => l
def order (t : Topo) : List Port := bfs t.wires 9 0 [t.host]
def inR (n : Int) (p : Port) : Prop := 0 ≤ p.node ∧ p.node < n
structure Sound (t : Topo) : Prop where
  n : 1 ≤ t.nodes ∧ t.nodes ≤ 8
  host : inR t.nodes t.host
  wires : ∀ w ∈ t.wires, inR t.nodes w.a ∧ inR t.nodes w.b
  len : t.wires.length ≤ 32
structure Good (n : Int) (l : List Port) : Prop where
  apart : (l.map (·.node)).Nodup
  range : ∀ p ∈ l, inR n p
theorem peer_range {n : Int} : ∀ {ws : List Wire} {p q : Port}, (∀ w ∈ ws, inR n w.a ∧ inR n w.b) → peer ws p = some q → inR n q
  | [], _, _, _, h => by simp [peer] at h
  | w :: ws, p, q, hw, h => by
    unfold peer at h
    split at h
    · cases h; exact (hw w List.mem_cons_self).2
    · split at h
      · cases h; exact (hw w List.mem_cons_self).1
      · exact peer_range (fun w hm => hw w (List.mem_cons_of_mem _ hm)) h
theorem Good.meet {n : Int} {ws : List Wire} (hw : ∀ w ∈ ws, inR n w.a ∧ inR n w.b) {l : List Port} (h : Good n l) (p : Port) : Good n (meet ws l p) := by
  unfold To.meet
  split
  · rename_i q hq
    split
    · rename_i hall
      refine ⟨?_, fun x hx => ?_⟩
      · rw [List.map_append, List.nodup_append]
        refine ⟨h.apart, by simp, fun a ha b hb => ?_⟩
        simp at hb
        subst hb
        obtain ⟨y, hy, rfl⟩ := List.mem_map.1 ha
        have := List.all_eq_true.1 hall y hy
        simpa using this
      · rcases List.mem_append.1 hx with hx | hx
        · exact h.range x hx
        · simp at hx; subst hx; exact peer_range hw hq
    · exact h
  · exact h
theorem range_len : ∀ (n : Nat) (l : List Int), l.Nodup → (∀ x ∈ l, 0 ≤ x ∧ x < (n : Int)) → l.length ≤ n := by
  intro n
  induction n with
  | zero => intro l _ h; cases l with | nil => simp | cons x l => have := h x List.mem_cons_self; omega
  | succ n ih =>
    intro l hnd h
    have h1 := ih (l.erase (n : Int)) (hnd.erase _) (fun x hx => by
      have hm := (hnd.mem_erase_iff).1 hx
      have := h x hm.2
      have := hm.1
      omega)
    have := List.length_erase (a := (n : Int)) (l := l)
    split at this <;> omega
theorem Good.len {n : Int} {l : List Port} (h : Good n l) (hn : n ≤ 8) (h0 : 0 ≤ n) : l.length ≤ 8 := by
  have := range_len n.toNat (l.map (·.node)) h.apart (fun x hx => by
    obtain ⟨p, hp, rfl⟩ := List.mem_map.1 hx
    have := h.range p hp
    unfold inR at this
    omega)
  simp at this
  omega
theorem visit_step (ws : List Wire) (l : List Port) (n : Int) (k : Nat) (hk : k < 4) : visit ws l n k = visit ws (meet ws l ⟨n, k⟩) n (k + 1) := by
  unfold visit
  rw [show 4 - k = (4 - (k + 1)) + 1 by omega, List.range'_succ]
  rfl
theorem bfs_step (ws : List Wire) (f i : Nat) (l : List Port) (h : i < l.length) : bfs ws (f + 1) i l = bfs ws f (i + 1) (visit ws l l[i].node 0) := by
  simp [bfs, h]
theorem bfs_done (ws : List Wire) (f i : Nat) (l : List Port) (h : l.length ≤ i) : bfs ws f i l = l := by
  cases f with
  | zero => rfl
  | succ f => simp [bfs, h]
end To
theorem get_take {α : Type} (l : List α) {k : Nat} (h : k < l.length) : l.take k ++ [l[k]] = l.take (k + 1) := by
  rw [List.take_succ_eq_append_getElem h]
namespace To
def okPort (n : Int) (p : Port) : Prop := 0 ≤ p.node ∧ p.node < n ∧ 0 ≤ p.link ∧ p.link < 4
instance (n : Int) (p : Port) : Decidable (okPort n p) := by unfold okPort; infer_instance
def May (t : Topo) : Prop := 1 ≤ t.nodes ∧ t.nodes ≤ 8 ∧ t.wires.length ≤ 32 ∧ (∀ p ∈ ports t, okPort t.nodes p) ∧ (ports t).Nodup ∧ (∀ w ∈ t.wires, w.a.node ≠ w.b.node) ∧ ((order t).length : Int) = t.nodes
instance (t : Topo) : Decidable (May t) := by unfold May; infer_instance
theorem sound_of {t : Topo} (h1 : 1 ≤ t.nodes) (h2 : t.nodes ≤ 8) (h3 : t.wires.length ≤ 32) (h4 : ∀ p ∈ ports t, okPort t.nodes p) : Sound t where
  n := ⟨h1, h2⟩
  host := by have := h4 t.host (by simp [ports]); exact ⟨this.1, this.2.1⟩
  wires := fun w hw => by
    have ha := h4 w.a (by unfold ports; simp only [List.mem_cons, List.mem_flatMap]; exact Or.inr ⟨w, hw, by simp⟩)
    have hb := h4 w.b (by unfold ports; simp only [List.mem_cons, List.mem_flatMap]; exact Or.inr ⟨w, hw, by simp⟩)
    exact ⟨⟨ha.1, ha.2.1⟩, ⟨hb.1, hb.2.1⟩⟩
  len := h3
end To
namespace To
end To
namespace To
end To
end
section
namespace To
def pairs (ws : List Wire) : List (Port × Port) := ws.flatMap fun w => [(w.a, w.b), (w.b, w.a)]
def Joins (t : Topo) : Prop := 1 ≤ t.nodes ∧ t.nodes ≤ 8 ∧ t.wires.length ≤ 32 ∧ (∀ p ∈ ports t, okPort t.nodes p) ∧ (ports t).Nodup ∧ (∀ w ∈ t.wires, w.a.node ≠ w.b.node)
def Fits (t : Topo) (ws : List Wire) (w : Wire) : Prop := w.a ∉ (pairs ws).map Prod.fst ∧ w.b ∉ (pairs ws).map Prod.fst ∧ w.a.node ≠ w.b.node ∧ w.a ≠ t.host ∧ w.b ≠ t.host ∧ okPort t.nodes w.a ∧ okPort t.nodes w.b
def Some (t : Topo) (k : Nat) : Prop := ∀ j (h : j < t.wires.length), j < k → Fits t (t.wires.take j) t.wires[j]
theorem keys_eq (ws : List Wire) : (pairs ws).map Prod.fst = ws.flatMap fun w => [w.a, w.b] := by
  induction ws with
  | nil => rfl
  | cons w ws ih => simp only [pairs, List.flatMap_cons, List.map_append] at ih ⊢; rw [ih]; rfl
theorem pairs_take (ws : List Wire) (k : Nat) (h : k < ws.length) : pairs (ws.take (k + 1)) = pairs (ws.take k) ++ [(ws[k].a, ws[k].b), (ws[k].b, ws[k].a)] := by
  unfold pairs
  rw [← get_take _ h, List.flatMap_append]
  rfl
theorem some_nodup (t : Topo) (k : Nat) (hk : k ≤ t.wires.length) (h : Some t k) : (t.host :: (pairs (t.wires.take k)).map Prod.fst).Nodup := by
  induction k with
  | zero => simp [pairs]
  | succ k ih =>
    have h1 := ih (by omega) (fun j hj hlt => h j hj (by omega))
    have h2 := h k (by omega) (by omega)
    obtain ⟨q1, q2, q3, q4, q5, _⟩ := h2
    rw [pairs_take _ _ (by omega)]
    simp only [List.map_append, List.map_cons, List.map_nil]
    have hne : t.wires[k].a ≠ t.wires[k].b := fun e => q3 (by rw [e])
    rw [← List.cons_append, List.nodup_append]
    refine ⟨h1, by simp [hne], fun x hx y hy => ?_⟩
    simp only [List.mem_cons, List.not_mem_nil, or_false] at hx hy
    rintro rfl
    rcases hx with rfl | hx
    · rcases hy with e | e
      · exact q4 e.symm
      · exact q5 e.symm
    · rcases hy with rfl | rfl
      · exact q1 hx
      · exact q2 hx
theorem joins_iff (t : Topo) : Joins t ↔ 1 ≤ t.nodes ∧ t.nodes ≤ 8 ∧ t.wires.length ≤ 32 ∧ okPort t.nodes t.host ∧ Some t t.wires.length := by
  have hp : ports t = t.host :: (pairs t.wires).map Prod.fst := by rw [keys_eq]; rfl
  constructor
  · rintro ⟨h1, h2, h3, h4, h5, h6⟩
    refine ⟨h1, h2, h3, h4 _ (by rw [hp]; simp), fun j hj _ => ?_⟩
    rw [hp] at h5
    have hm : ∀ p, p ∈ (pairs (t.wires.take j)).map Prod.fst → p ∈ (pairs t.wires).map Prod.fst := fun p hp => by
      rw [keys_eq] at hp ⊢
      rw [List.mem_flatMap] at hp ⊢
      obtain ⟨w, q1, q2⟩ := hp
      exact ⟨w, List.mem_of_mem_take q1, q2⟩
    have hs : (pairs t.wires).map Prod.fst = (pairs (t.wires.take j)).map Prod.fst ++ [t.wires[j].a, t.wires[j].b] ++ (pairs (t.wires.drop (j + 1))).map Prod.fst := by
      conv => lhs; rw [← List.take_append_drop j t.wires, List.drop_eq_getElem_cons hj]
      rw [keys_eq, keys_eq, keys_eq, List.flatMap_append, List.flatMap_cons, List.append_assoc]
    rw [hs] at h5
    have hw : t.wires[j] ∈ t.wires := List.getElem_mem hj
    have ha : t.wires[j].a ∈ ports t := by rw [hp, hs]; simp
    have hb : t.wires[j].b ∈ ports t := by rw [hp, hs]; simp
    obtain ⟨q1, q2⟩ := List.nodup_cons.1 h5
    rw [List.append_assoc, List.nodup_append] at q2
    obtain ⟨_, q3, q4⟩ := q2
    refine ⟨fun h => q4 _ h t.wires[j].a (by simp) rfl, fun h => q4 _ h t.wires[j].b (by simp) rfl, h6 _ hw, fun e => q1 (by rw [← e]; simp), fun e => q1 (by rw [← e]; simp), h4 _ ha, h4 _ hb⟩
  · rintro ⟨h1, h2, h3, h4, h5⟩
    refine ⟨h1, h2, h3, fun p hpm => ?_, ?_, fun w hw => ?_⟩
    · rw [hp, keys_eq] at hpm
      rcases List.mem_cons.1 hpm with rfl | hpm
      · exact h4
      · obtain ⟨w, q1, q2⟩ := List.mem_flatMap.1 hpm
        obtain ⟨j, hj, rfl⟩ := List.mem_iff_getElem.1 q1
        have := h5 j hj hj
        simp only [List.mem_cons, List.not_mem_nil, or_false] at q2
        rcases q2 with rfl | rfl
        · exact this.2.2.2.2.2.1
        · exact this.2.2.2.2.2.2
    · have := some_nodup t t.wires.length (Nat.le_refl _) h5
      rw [List.take_length] at this
      rw [hp]
      exact this
    · obtain ⟨j, hj, rfl⟩ := List.mem_iff_getElem.1 hw
      exact (h5 j hj hj).2.2.1
end To
def dKeys (l : List (To.Port × To.Port)) : List D := l.map fun x => dPort x.1
def dVals (l : List (To.Port × To.Port)) : List D := l.map fun x => dPort x.2
def dGraph (t : To.Topo) : D := .ref [.int .i64 t.nodes, .list 4 (t.wires.map dWire), .int .i64 t.host.node, .int .i64 t.host.link, .map (dKeys (To.pairs t.wires)) (dVals (To.pairs t.wires))] 0
theorem keys_comp' (n k : Int) (l : List (To.Port × To.Port)) : ∀ y ∈ dKeys l, Comp (.agg [1, 1]) (.agg [.int .i64 n, .int .i64 k]) y := fun y hy => by
  obtain ⟨x, _, rfl⟩ := List.mem_map.1 hy
  exact .agg (.int (.int .nil))
theorem keys_more (n k : Int) (l : List (To.Port × To.Port)) (n' k' : Int) : ∀ y ∈ dKeys l ++ [D.agg [.int .i64 n', .int .i64 k']], Comp (.agg [1, 1]) (.agg [.int .i64 n, .int .i64 k]) y := fun y hy => by
  rcases List.mem_append.1 hy with hy | hy
  · exact keys_comp' n k l y hy
  · rw [List.mem_singleton.1 hy]
    exact .agg (.int (.int .nil))
theorem dPort_inj {p q : To.Port} (h : dPort p = dPort q) : p = q := by
  cases p; cases q; simp [dPort] at h; simp [h]
theorem mem_keys {p : To.Port} {l : List (To.Port × To.Port)} : dPort p ∈ dKeys l ↔ p ∈ l.map Prod.fst := by
  constructor
  · intro h
    obtain ⟨x, h1, h2⟩ := List.mem_map.1 h
    exact List.mem_map.2 ⟨x, h1, dPort_inj h2⟩
  · intro h
    obtain ⟨x, h1, rfl⟩ := List.mem_map.1 h
    exact List.mem_map.2 ⟨x, h1, rfl⟩
theorem kv_len (l : List (To.Port × To.Port)) : (dVals l).length = (dKeys l).length := by simp [dKeys, dVals]
namespace To
def lookP (l : List (Port × Port)) (p : Port) : Option Port := (l.find? fun x => decide (x.1 = p)).map Prod.snd
theorem lookP_pairs (ws : List Wire) (p : Port) : lookP (pairs ws) p = peer ws p := by
  induction ws with
  | nil => rfl
  | cons w ws ih =>
    have e : pairs (w :: ws) = (w.a, w.b) :: (w.b, w.a) :: pairs ws := rfl
    rw [e]
    unfold lookP at ih ⊢
    unfold peer
    simp only [List.find?_cons]
    by_cases h : w.a = p
    · simp [h]
    · by_cases h' : w.b = p
      · simp [h, h']
      · simp [h, h', ih]
end To
theorem lookP_hit {l : List (To.Port × To.Port)} {p : To.Port} {i : Nat} {z : D} (h1 : (dKeys l)[i]? = some (dPort p)) (h2 : (dVals l)[i]? = some z) (h3 : ∀ j, j < i → (dKeys l)[j]? ≠ some (dPort p)) : ∃ q, To.lookP l p = some q ∧ z = dPort q := by
  induction l generalizing i with
  | nil => simp [dKeys] at h1
  | cons x l ih =>
    cases i with
    | zero =>
      simp only [dKeys, List.map_cons, List.getElem?_cons_zero, Option.some.injEq] at h1
      simp only [dVals, List.map_cons, List.getElem?_cons_zero, Option.some.injEq] at h2
      have := dPort_inj h1
      exact ⟨x.2, by simp [To.lookP, this], h2.symm⟩
    | succ i =>
      have hx : x.1 ≠ p := fun e => h3 0 (by omega) (by simp [dKeys, e])
      obtain ⟨q, q1, q2⟩ := ih (i := i) (by simpa [dKeys] using h1) (by simpa [dVals] using h2) (fun j hj => by have := h3 (j + 1) (by omega); simpa [dKeys] using this)
      refine ⟨q, ?_, q2⟩
      unfold To.lookP at q1 ⊢
      rw [List.find?_cons_of_neg (by simpa using hx)]
      exact q1
theorem lookP_miss {l : List (To.Port × To.Port)} {p : To.Port} (h : dPort p ∉ dKeys l) : To.lookP l p = none := by
  unfold To.lookP
  rw [Option.map_eq_none_iff, List.find?_eq_none]
  intro x hx hp
  exact h (List.mem_map.2 ⟨x, hx, by rw [of_decide_eq_true hp]⟩)
section
variable {E : Set} {Q : Exit → Sd → Prop} {ops : Array Oper} {draw : Bool} {rest : Todo} {way : Way3} {ty : TypeId} {pos : String} {af : Array Edge} {gd : Option (Nat × Bool)}
variable {env : List (Nat × V)} {H : List (Nat × Ob)} {gl : List (Nat × List D)} {d : Nat}
theorem s_lookup_port {t k e : Nat} {x y : Operand} {l : List (To.Port × To.Port)} {n m : Int} [ht : TMap E.P t k e] [hkk : TKey E.P k (.agg [1, 1])] [hz : TZeroV E.P e (.d (.agg [.int .i64 0, .int .i64 0]))] (hx : Sd.ev ⟨env, H, gl⟩ x = some (.d (.map (dKeys l) (dVals l)))) (hox : okOp x = true) (hy : Sd.ev ⟨env, H, gl⟩ y = some (.d (.agg [.int .i64 n, .int .i64 m]))) (hoy : okOp y = true)
    (hd : d < E.C.nt) (hg : Sd.gd ⟨env, H, gl⟩ ops ⟨some d, .lookup t x y true, ty, pos, af, gd⟩ = some true) (hw : way.known = false)
    (h1 : ∀ q : To.Port, To.lookP l ⟨n, m⟩ = some q → TR E draw ops Q rest ⟨(d, .tup [.d (.agg [.int .i64 q.node, .int .i64 q.link]), .d (.bool true)]) :: env, H, gl⟩)
    (h2 : To.lookP l ⟨n, m⟩ = none → TR E draw ops Q rest ⟨(d, .tup [.d (.agg [.int .i64 0, .int .i64 0]), .d (.bool false)]) :: env, H, gl⟩) : TR E draw ops Q (.step ⟨some d, .lookup t x y true, ty, pos, af, gd⟩ way rest) ⟨env, H, gl⟩ := by
  refine s_lookup_d (kk := .agg [1, 1]) hx hox hy hoy (.agg (.int (.int .nil))) hd hg hw (keys_comp' n m l) (kv_len l) (fun i z q1 q2 q3 => ?_) (fun hm => h2 (lookP_miss hm))
  obtain ⟨q, e1, rfl⟩ := lookP_hit (p := ⟨n, m⟩) q1 q2 q3
  exact h1 q e1
theorem s_lookup_portm {t k e b : Nat} {x y : Operand} {l : List (To.Port × To.Port)} {n m : Int} [ht : TMap E.P t k e] [hkk : TKey E.P k (.agg [1, 1])] [hz : TZeroV E.P e (.d (.agg [.int .i64 0, .int .i64 0]))] (hx : Sd.ev ⟨env, H, gl⟩ x = some (.map b)) (hox : okOp x = true) (hl : look b H = some (.map (dKeys l) (dVals l))) (hy : Sd.ev ⟨env, H, gl⟩ y = some (.d (.agg [.int .i64 n, .int .i64 m]))) (hoy : okOp y = true)
    (hd : d < E.C.nt) (hg : Sd.gd ⟨env, H, gl⟩ ops ⟨some d, .lookup t x y true, ty, pos, af, gd⟩ = some true) (hw : way.known = false)
    (h1 : ∀ q : To.Port, To.lookP l ⟨n, m⟩ = some q → TR E draw ops Q rest ⟨(d, .tup [.d (.agg [.int .i64 q.node, .int .i64 q.link]), .d (.bool true)]) :: env, H, gl⟩)
    (h2 : To.lookP l ⟨n, m⟩ = none → TR E draw ops Q rest ⟨(d, .tup [.d (.agg [.int .i64 0, .int .i64 0]), .d (.bool false)]) :: env, H, gl⟩) : TR E draw ops Q (.step ⟨some d, .lookup t x y true, ty, pos, af, gd⟩ way rest) ⟨env, H, gl⟩ := by
  refine s_lookup (kk := .agg [1, 1]) hx hox hl hy hoy (.agg (.int (.int .nil))) hd hg hw (keys_comp' n m l) (kv_len l) (fun i z q1 q2 q3 => ?_) (fun hm => h2 (lookP_miss hm))
  obtain ⟨q, e1, rfl⟩ := lookP_hit (p := ⟨n, m⟩) q1 q2 q3
  exact h1 q e1
end
theorem lookP_none {l : List (To.Port × To.Port)} {p : To.Port} (h : To.lookP l p = none) : p ∉ l.map Prod.fst := by
  unfold To.lookP at h
  rw [Option.map_eq_none_iff, List.find?_eq_none] at h
  intro hm
  obtain ⟨x, hx, rfl⟩ := List.mem_map.1 hm
  exact h x hx (by simp)
theorem lookP_some {l : List (To.Port × To.Port)} {p q : To.Port} (h : To.lookP l p = some q) : p ∈ l.map Prod.fst := by
  unfold To.lookP at h
  obtain ⟨x, h1, h2⟩ := Option.map_eq_some_iff.1 h
  have := List.find?_some h1
  exact List.mem_map.2 ⟨x, List.mem_of_find?_eq_some h1, of_decide_eq_true this⟩
end
section
set_option maxHeartbeats 1000000 in
theorem exists_fn (gl : List (Nat × List D)) (n a b : Int) : FnD prog gl 153 [.d (.int .i64 n), .d (.agg [.int .i64 a, .int .i64 b])] (fun v => v = .d (.bool (decide (0 ≤ a ∧ a < n ∧ 0 ≤ b ∧ b < 4)))) := by
  (refine y_enter func153 ntmps153 results153 fun w M => ?_)
  (repeat' first | refine tr_at 3 ?_; (refine z_box 3 ?_) | refine yyp ?_; try refine s_bu ?_ ?_ <;> intro hb | refine yy ?_ | refine yy2 ?_ ?_ <;> intro hcmp | refine at_nil ?_; refine z_nil [0, 1, 3, 4, 5, 6, 7] ?_ | refine tc_seq fun K hK => ?_ | apply_assumption -exfalso -symm)
  all_goals
    (refine tc_ret (y_ret ?_))
    simp only [oneOf, V.d.injEq, D.bool.injEq, true_eq_decide_iff, false_eq_decide_iff]
    omega
end
section
end
end Go.Proofs.YtjhbglklcddekaaGreatDoor
