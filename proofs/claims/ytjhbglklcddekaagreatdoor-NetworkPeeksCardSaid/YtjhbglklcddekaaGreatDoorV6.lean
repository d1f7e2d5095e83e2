/- Parts: D11, D12, D13, D14, D15. -/
import Derived.Test.YtjhbglklcddekaaGreatDoorV5
import Derived.Laws.BytesArg
set_option linter.all false
set_option maxRecDepth 100000
set_option maxHeartbeats 16000000
namespace Go.Proofs.YtjhbglklcddekaaGreatDoor
open Go.RowKit
section
inductive Build (P : Program) (S : Sd) (t : Nat) : List D → List (Nat × Operand) → List D → Prop
  | nil (zs : List D) : Build P S t zs [] zs
  | cons {zs zs' ds cs : List D} {f off ft m : Nat} {x : Operand} {v : V} {d : D} {ps : List (Nat × Operand)} [hf : TField P t f off ft] [hs : TSize P ft m] (hx : S.ev x = some v) (ho : okOp x = true) (hd : ToD S.H v d) (hc : CellsD d cs) (hm : cs.length = m) (hr : Repl zs off cs zs') (h : Build P S t zs' ps ds) :
    Build P S t zs ((f, x) :: ps) ds
theorem foldl_repl (off : Nat) (l : List Value) (cs : Array Value) (h : off + l.length ≤ cs.size) :
    (l.toArray.zipIdx.foldl (fun cs (x : Value × Nat) => cs.setIfInBounds (off + x.2) x.1) cs) = (cs.toList.take off ++ l ++ cs.toList.drop (off + l.length)).toArray := by
  have := Go.Great.foldl_set off l 0 cs
  obtain ⟨h1, h2⟩ := this
  have e : l.toArray.zipIdx.foldl (fun cs (x : Value × Nat) => cs.setIfInBounds (off + x.2) x.1) cs = (l.zipIdx 0).foldl (fun cs (x : Value × Nat) => cs.setIfInBounds (off + x.2) x.1) cs := by
    simp
  rw [e]
  apply Array.ext_getElem?
  intro k
  rw [h2 k]
  have hlt : (cs.toList.take off).length = off := by simp; omega
  by_cases hk : off ≤ k ∧ k < off + l.length
  · rw [if_pos (by omega)]
    simp only [List.getElem?_toArray, List.append_assoc]
    rw [List.getElem?_append_right (by omega), List.getElem?_append_left (by omega), hlt]
    congr 1
  · rw [if_neg (by omega)]
    simp only [List.getElem?_toArray, List.append_assoc]
    by_cases hk2 : k < off
    · rw [List.getElem?_append_left (by omega), List.getElem?_take, if_pos hk2]
      simp
    · rw [List.getElem?_append_right (by omega), List.getElem?_append_right (by omega), hlt, List.getElem?_drop]
      simp only [Array.getElem?_toList]
      congr 1
      omega
theorem Build.rep {P : Program} {C : Ctx} {β : Nat → Hd} {S : Sd} {a : Act} {w : World} (h : StB C β S a w) {t : Nat} {fs : Array Field} (hu : P.underlying t = some (.struct fs)) {places : Array (Nat × Nat)} (hp : ∀ (f : Nat) (fd : Field) i, fs[f]? = some fd → P.info? fd.type = some i → places[f]? = some (fd.offset, i.size))
    {zs ds : List D} {ps : List (Nat × Operand)} (hb : Build P S t zs ps ds) : ∀ {us : List Value}, RepA w (Mut C.M0 β S.H) zs us →
    ∃ vs : List Value, Instr.fill (places[·]?) us.toArray (ps.map fun x => (x.1, a.eval x.2)) = some vs.toArray ∧ RepA w (Mut C.M0 β S.H) ds vs := by
  induction hb with
  | nil zs => intro us hr; exact ⟨us, rfl, hr⟩
  | @cons zs zs' ds cs f off ft m x v d ps hf hs hx ho hd hc hm hr hb ih =>
    intro us hrep
    obtain ⟨fs', fd, i, hu', h1, h2, h3, h4, _⟩ := field_parts hf
    rw [hu] at hu'
    cases hu'
    have hi : i.size = m := by have := hs.ok; rw [h4] at this; simpa using this
    have hpl := hp f fd i h1 (by rw [h3]; exact h4)
    have hd' := hd.rep h (h.ev hx ho)
    have hcs := hc.rep hd'
    have hlen := hcs.length
    obtain ⟨h5, h6⟩ := hr.eq
    have hul := hrep.length
    have hsz : (a.eval x).cells.size = m := by simp at hlen; omega
    have hnew : RepA w (Mut C.M0 β S.H) zs' (us.take off ++ (a.eval x).cells.toList ++ us.drop (off + (a.eval x).cells.toList.length)) := by
      rw [h5, ← hlen]
      exact ((hrep.take off).append hcs).append (hrep.drop _)
    obtain ⟨vs, h7, h8⟩ := ih hnew
    refine ⟨vs, ?_, h8⟩
    simp only [List.map_cons, Instr.fill, hpl]
    rw [if_neg (by
      simp only [ne_eq, Bool.or_eq_true, decide_eq_true_eq, not_or, Decidable.not_not, List.size_toArray]
      simp at hlen
      omega)]
    have hfo := foldl_repl fd.offset (a.eval x).cells.toList us.toArray (by simp at hlen ⊢; omega)
    rw [Array.toArray_toList] at hfo
    simp only [List.toList_toArray] at hfo
    rw [hfo, h2]
    exact h7
section
variable {E : Set} {S : Sd} {dst : Option Tmp} {ty : TypeId} {pos : String} {af : Array Edge} {gd : Option (Nat × Bool)}
theorem run_places {P : Program} (fs : List Field) (h : ∀ fd ∈ fs, (P.info? fd.type).isSome = true) :
    ∃ ps : List (Nat × Nat), (∀ w, (fs.mapM fun f => do pure (f.offset, ← sizeOf f.type) : Sem (List (Nat × Nat))).run P w = .ok ps w) ∧ ∀ (f : Nat) (fd : Field) i, fs[f]? = some fd → P.info? fd.type = some i → ps[f]? = some (fd.offset, i.size) := by
  induction fs with
  | nil => exact ⟨[], fun _ => rfl, fun f fd i hf => by simp at hf⟩
  | cons x fs ih =>
    obtain ⟨ps, h1, h2⟩ := ih (fun fd hfd => h fd (List.mem_cons_of_mem _ hfd))
    cases hi : P.info? x.type with
    | none => have := h x List.mem_cons_self; rw [hi] at this; cases this
    | some i =>
      refine ⟨(x.offset, i.size) :: ps, fun w => ?_, fun f fd j hf hj => ?_⟩
      · simp only [List.mapM_cons, Sem.run_bind, run_size hi, Result.andThen_ok, Sem.run_pure, h1]
      · cases f with
        | zero => simp at hf; subst hf; rw [hi] at hj; cases hj; rfl
        | succ f => exact h2 f fd j (by simpa using hf) hj
def structOk (P : Program) (t : Nat) : Bool := match P.underlying t with
  | some (.struct fs) => fs.toList.all fun fd => (P.info? fd.type).isSome
  | _ => false
class TStruct (P : Program) (t : Nat) : Prop where
  ok : structOk P t = true
theorem struct_parts {P : Program} {t : Nat} (h : TStruct P t) : ∃ fs, P.underlying t = some (.struct fs) ∧ ∀ fd ∈ fs.toList, (P.info? fd.type).isSome = true := by
  have := h.ok
  unfold structOk at this
  split at this
  · rename_i fs hu
    exact ⟨fs, hu, List.all_eq_true.1 this⟩
  · cases this
inductive ZeroD : List V → List D → Prop
  | nil : ZeroD [] []
  | d {x : D} {vs : List V} {xs : List D} (h : ZeroD vs xs) : ZeroD (.d x :: vs) (x :: xs)
  | nils {sz : Nat} {vs : List V} {xs : List D} (h : ZeroD vs xs) : ZeroD (.nils sz :: vs) (.list sz [] :: xs)
  | none {sz : Nat} {vs : List V} {xs : List D} (h : ZeroD vs xs) : ZeroD (.nils sz :: vs) (.nil sz :: xs)
theorem zeroD_rep {w : World} {M : Nat → Nat → Prop} {vs : List V} {ds : List D} (hz : ZeroD vs ds) : ∀ {us : List Value}, zeroRep us vs = true → RepA w M ds us := by
  induction hz with
  | nil => intro us h; cases us with | nil => rfl | cons _ _ => cases h
  | @d x vs xs hz ih =>
    intro us h
    cases us with
    | nil => cases h
    | cons u us =>
      simp only [zeroRep, Bool.and_eq_true] at h
      refine ⟨u, us, rfl, ?_, zeroCell_rep (β := noHd) (H := []) h.1, ih h.2⟩
      have := h.1
      unfold zeroCell at this
      split at this <;> first | rfl | cases this
  | @nils sz vs xs hz ih =>
    intro us h
    cases us with
    | nil => cases h
    | cons u us =>
      simp only [zeroRep, Bool.and_eq_true] at h
      have hu : u = .slice none 0 0 := zeroCell_rep (w := w) (M := M) (β := noHd) (H := []) h.1
      subst hu
      exact ⟨_, us, rfl, rfl, ⟨none, 0, [], rfl, Nat.le_refl _, Nat.zero_le _, fun _ => rfl, rfl, Reads.nil _ _ _⟩, ih h.2⟩
  | @none sz vs xs hz ih =>
    intro us h
    cases us with
    | nil => cases h
    | cons u us =>
      simp only [zeroRep, Bool.and_eq_true] at h
      have hu : u = .slice none 0 0 := zeroCell_rep (w := w) (M := M) (β := noHd) (H := []) h.1
      subst hu
      exact ⟨_, us, rfl, rfl, rfl, ih h.2⟩
theorem q_build {t : Nat} {ps : List (Nat × Operand)} {vs : List V} {zs ds : List D} [ht : TStruct E.P t] [hz : TZero E.P t vs] (hzd : ZeroD vs zs) (hb : Build E.P S t zs ps ds) : Swift E S ⟨dst, .build t ps.toArray, ty, pos, af, gd⟩ (.d (.agg ds)) := Swift.mk fun β a w h => by
  obtain ⟨fs, hu, hfs⟩ := struct_parts ht
  obtain ⟨i, z, hi, hiz, h1, _⟩ := zero_parts hz
  obtain ⟨pl, h2, h3⟩ := run_places (P := E.P) fs.toList hfs
  obtain ⟨us, h4, h5⟩ := hb.rep h hu (places := pl.toArray) (fun f fd i hf hi => by simpa using h3 f fd i (by simpa using hf) hi) (zeroD_rep (w := w) (M := Mut E.C.M0 β S.H) hzd h1)
  refine ⟨.agg us.toArray, fun w' _ => ?_, us, rfl, h5⟩
  have hpl : (fs.mapM fun f => do pure (f.offset, ← sizeOf f.type) : Sem (Array (Nat × Nat))).run E.P w' = .ok pl.toArray w' := by
    rw [Array.mapM_eq_mapM_toList]
    simp only [Sem.run_map]
    refine (congrArg (fun r : Result (List (Nat × Nat)) => r.andThen fun a w' => Result.ok a.toArray w') (h2 w')).trans ?_
    rfl
  rw [Array.toArray_toList] at h4
  simp only [execOp, Sem.run_bind, Instr.build, zeroValue, typeInfo, hi, hiz, run_underlying hu, Sem.run_pure, Result.andThen_ok, program, Sem.run]
  simp only [hpl, Result.andThen_ok]
  have e : (ps.toArray.map fun x => (x.1, a.eval x.2)).toList = ps.map fun x => (x.1, a.eval x.2) := by simp
  rw [e, h4]
  rfl
end
end
section
inductive Elems (S : Sd) (sz : Nat) : Nat → List (Nat × Operand) → List D → Prop
  | nil (i : Nat) : Elems S sz i [] []
  | cons {i : Nat} {x : Operand} {v : V} {d : D} {cs : List D} {ps : List (Nat × Operand)} {ds : List D} (hx : S.ev x = some v) (ho : okOp x = true) (hd : ToD S.H v d) (hc : CellsD d cs) (hm : cs.length = sz) (h : Elems S sz (i + 1) ps ds) : Elems S sz i ((i, x) :: ps) (d :: ds)
theorem Elems.rep {C : Ctx} {β : Nat → Hd} {S : Sd} {a : Act} {w : World} (h : StB C β S a w) {sz i : Nat} {ps : List (Nat × Operand)} {ds : List D} (he : Elems S sz i ps ds) :
    ∃ us : List Value, ps.map (fun x => (x.1, a.eval x.2)) = (us.zipIdx i).map (fun x => (x.2, x.1)) ∧ us.length = ds.length ∧ (∀ u ∈ us, u.cells.size = sz) ∧ RepE w (Mut C.M0 β S.H) sz ds (us.flatMap fun v => v.cells.toList) := by
  induction he with
  | nil i => exact ⟨[], rfl, rfl, (fun u hu => by cases hu), rfl⟩
  | @cons i x v d cs ps ds hx ho hd hc hm _ ih =>
    obtain ⟨us, h1, h2, h3, h4⟩ := ih
    have h5 := hd.rep h (h.ev hx ho)
    have h6 := (hc.rep h5).length
    have h7 : (a.eval x).cells.size = sz := by simp at h6; omega
    refine ⟨a.eval x :: us, ?_, by simp [h2], fun u hu => ?_, a.eval x, _, by simp, h7, h5, h4⟩
    · simp only [List.map_cons, h1, List.zipIdx_cons]
    · rcases List.mem_cons.1 hu with rfl | hu
      · exact h7
      · exact h3 u hu
theorem StB.newRow {C : Ctx} {β : Nat → Hd} {S : Sd} {a : Act} {w w' : World} (h : StB C β S a w) {n e sz : Nat} {sh : Bool} {xs : List D} (hn : S.fresh n = true) (g : Grows w w') {v : Value} {ys : List Value} (hv : ∀ b, v.ownBlock = some b → w.heap.size ≤ b) (hown : w'.ownsRow 0 e sz v xs.length ys)
    (hr : RepE w (Mut C.M0 β S.H) sz xs ys) : StB C (upd β n v) { S with H := (n, .row e sz sh xs 0) :: S.H } a w' :=
  h.newObj hn v g (fun b hb' => hv b (by rw [← hb_row hown]; exact hb')) _ fun k => ⟨ys, hown, RepE.keep k _ _ _ hr⟩
section
variable {E : Set} {Q : Exit → Sd → Prop} {S : Sd} {ops : Array Oper} {draw : Bool} {rest : Todo} {way : Way3} {ty : TypeId} {pos : String} {af : Array Edge} {gd : Option (Nat × Bool)}
theorem repV_own {w : World} {M : Nat → Nat → Prop} {β : Nat → Hd} {H : List (Nat × Ob)} {n : Nat} {v : Value} {k : Nat} : RepV w M (upd β n v) H (.own n k) v := fun _ _ _ _ _ => (upd_v β n v).symm
theorem g_lit {d n t e sz len : Nat} {ps : List (Nat × Operand)} {xs : List D} [ht : TSlice E.P t e sz] (hp : Elems S sz 0 ps xs) (hlen : xs.length = len) (hsmall : len * sz ≤ 16777216) (hn : S.fresh n = true) :
    Grow E S ⟨some d, .buildSlice t len ps.toArray, ty, pos, af, gd⟩ { S with H := (n, .row e sz true xs 0) :: S.H } (.own n 0) := Grow.mk fun β a w h => by
  obtain ⟨bytes, ⟨i, z, hu, hi, hz, hs, hby, hzs, hpos⟩, _⟩ := slice_elem ht
  obtain ⟨us, h1, h2, h3, h4⟩ := hp.rep h
  have hfl : (us.flatMap fun v => v.cells.toList).length = len * sz := by rw [h4.length, hlen]
  have hown := owns_new w (us.flatMap fun v => v.cells.toList) e len sz 0 hfl (by unfold maxLen; have := Nat.le_mul_of_pos_right len hpos; omega) (Nat.zero_le _)
  have hst : ∀ w', w' = w.alloc (.cells (us.flatMap fun v => v.cells.toList).toArray e) → StB E.C (upd β n (.slice (some ⟨w.heap.size, 0, none⟩) len len)) { S with H := (n, .row e sz true xs 0) :: S.H } a w' := fun w' e' => by
    subst e'
    refine h.newRow hn (Grows.alloc w _) (fun b hb' => ?_) (by rw [hlen]; exact hown) h4
    simp only [Value.ownBlock, Option.some.injEq] at hb'
    omega
  refine ⟨.slice (some ⟨w.heap.size, 0, none⟩) len len, _, _, ?_, Grows.alloc w _, hst _ rfl, repV_own⟩
  have hparts : (ps.toArray.map fun x => (x.1, a.eval x.2)).toList = (us.zipIdx 0).map (fun x => (x.2, x.1)) := by simp [← h1]
  by_cases h0 : len = 0
  · subst h0
    have hus : us = [] := List.eq_nil_of_length_eq_zero (by rw [h2, hlen])
    subst hus
    simp only [List.zipIdx_nil, List.map_nil] at hparts
    have hps : ps = [] := by simpa using hparts
    subst hps
    have e0 : Array.range 0 = #[] := Array.eq_empty_of_size_eq_zero (by simp)
    simp [execOp, Instr.buildSlice, run_underlying hu, run_size hi, Instr.fill, newRow, e0]
  · have hne : ¬ len * i.size = 0 := by rw [hs]; exact Nat.mul_ne_zero h0 (by omega)
    have hf := Go.Great.fill_whole (s := sz) hpos us ((Array.range (len * sz)).map (z.cells[· % z.cells.size]!)) h3 (by simp; rw [h2, hlen])
    have hr := run_buildSlice (P := E.P) w t e len (ps.toArray.map fun x => (x.1, a.eval x.2)) _ i z hu hi hz (by rw [hs]; omega) hne (by rw [hs, hparts]; exact hf)
    simp only [execOp, Sem.run_bind, hr, Result.andThen_ok, Sem.run_pure]
structure GrowK (E : Set) (S : Sd) (o : Oper) (S' : Nat → Sd) (v : Nat → V) : Prop where
  out : ∀ β a w, StB E.C β S a w → ∃ x w' β' k, (execOp a.eval o).run E.P w = .ok (.value x) w' ∧ StB E.C β' (S' k) a w' ∧ RepV w' (Mut E.C.M0 β' (S' k).H) β' (S' k).H (v k) x
theorem tr_turnK {o : Oper} {d : Nat} {S' : Nat → Sd} {v : Nat → V} (hq : GrowK E S o S' v) (hdst : o.dst = some d) (hd : d < E.C.nt) (hg : S.gd ops o = some true) (hdf : isDefer o = false) (hw : isBar draw way = true) (h : ∀ k, TR E draw ops Q rest ((S' k).put d (v k))) : TR E draw ops Q (.step o way rest) S := fun a w hS => by
  have hS0 := hS
  have key : ∀ w1, Grows w w1 → ∀ K : Act → World → Prop, (∀ k a2 w2, St E.C ((S' k).put d (v k)) a2 w2 → K a2 w2) → o.wp E.P a w1 K (Qof E.C Q) := fun w1 g K hK => by
    obtain ⟨β, hB⟩ := hS.later g
    obtain ⟨x, w', β', k, h1, h2, h3⟩ := hq.out β a w1 hB
    refine wp_value h1 (hK k _ _ ?_)
    rw [hdst]
    exact ⟨β', h2.put hd h3⟩
  cases draw with
  | true =>
    dsimp only
    cases way with
    | pure => cases hw
    | quiet => cases hw
    | grow => cases hw
    | bar =>
      simp only [wpMix3]
      intro n
      rw [Sd.gd_sound hS0 hg, if_pos rfl]
      exact key n.w n.grows _ fun k a2 w2 hs2 => h k _ _ hs2
  | false => exact listIn_of_wp hS0 hg hdf fun K hK => key w (Grows.refl w) K fun k a2 w2 hs2 => hK _ _ (h k _ _ hs2)
theorem run_append_op {P : Program} {a : Act} {s x : Operand} {t : TypeId} {dst : Option Tmp} {w w' : World} {v : Value} (h : (Builtin.append_ #[t, t] ty #[a.eval s, a.eval x]).run P w = .ok v w') :
    (execOp a.eval ⟨dst, .call { callee := .builtin .append, args := #[s, x], argTypes := #[t, t] }, ty, pos, af, gd⟩).run P w = .ok (.value v) w' := by
  simp [execOp, resolve, invoke, builtin, h]
theorem t_append {d t e sz n k : Nat} {sh : Bool} {s x : Operand} {v : V} {xs ys : List D} [ht : TSlice E.P t e sz] (hs : S.ev s = some (.own n k)) (hos : okOp s = true) (hl : look n S.H = some (.row e sz sh xs k)) (hx : S.ev x = some v) (hox : okOp x = true) (hy : ToD S.H v (.list sz ys)) (hlen : xs.length + ys.length ≤ 100000000000) (hN : E.C.N.contains n = false) :
    GrowK E S ⟨some d, .call { callee := .builtin .append, args := #[s, x], argTypes := #[t, t] }, ty, pos, af, gd⟩ (fun k' => { S with H := (n, .row e sz sh (xs ++ ys) k') :: S.H }) (fun k' => .own n k') := GrowK.mk fun β a w h => by
  obtain ⟨bytes, he, hby⟩ := slice_elem ht
  have h1 : a.eval s = (β n).v := h.ev hs hos e sz sh xs hl
  obtain ⟨olds, h2, h3⟩ := h.obs n _ hl
  obtain ⟨xa, xc, news, h4, h5, h6, h7, h8, h9⟩ := hy.rep h (h.ev hx hox)
  obtain ⟨v', w', h10, h11, h12⟩ := run_app (P := E.P) (ty := ty) w he h2 (xa := xa) (m := ys.length) (xc := xc) (news := news) h8.length (fun j u hu => by
    obtain ⟨b, o, e1, _, e2⟩ := h9 j u hu
    exact ⟨b, o, e1, e2⟩) h7 h5 h8.one hlen hby
  refine ⟨v', w', _, max (topE S.env) (topO S.H), run_append_op (by rw [h1, h4]; exact h10), h.append hl h2 h3 h8 h11 h12 _ (Nat.le_refl _) hN, repV_own⟩
theorem g_append {d n t e sz sz' : Nat} {s x : Operand} {v : V} {ys : List D} [ht : TSlice E.P t e sz] (hs : S.ev s = some (.nils sz')) (hos : okOp s = true) (hx : S.ev x = some v) (hox : okOp x = true) (hy : ToD S.H v (.list sz ys)) (hlen : ys.length ≤ 100000000000) (hn : S.fresh n = true) :
    Grow E S ⟨some d, .call { callee := .builtin .append, args := #[s, x], argTypes := #[t, t] }, ty, pos, af, gd⟩ { S with H := (n, .row e sz true ys 0) :: S.H } (.own n 0) := Grow.mk fun β a w h => by
  obtain ⟨bytes, he, hby⟩ := slice_elem ht
  have h1 : a.eval s = .slice none 0 0 := h.ev hs hos
  obtain ⟨xa, xc, news, h4, h5, h6, h7, h8, h9⟩ := hy.rep h (h.ev hx hox)
  obtain ⟨v', w', h10, h11, h12⟩ := run_app (P := E.P) (ty := ty) w he (World.ownsRow_nil w 0 e sz) (xa := xa) (m := ys.length) (xc := xc) (news := news) h8.length (fun j u hu => by
    obtain ⟨b, o, e1, _, e2⟩ := h9 j u hu
    exact ⟨b, o, e1, e2⟩) h7 h5 h8.one (by omega) hby
  rw [Nat.zero_add, List.nil_append] at h11
  have hg : Grows w w' ∧ ∀ b, v'.ownBlock = some b → w.heap.size ≤ b := by
    rcases h12 with ⟨h13, h14⟩ | ⟨h13, h14⟩
    · exact ⟨(Below.refl _ _).grown h14 (Nat.le_refl _) (fun k hk => by cases hk), fun b hb' => by rw [h13] at hb'; cases hb'⟩
    · exact ⟨(Below.refl _ _).grown h14 (Nat.le_refl _) (fun k hk => by cases hk), h13⟩
  exact ⟨v', w', upd β n v', run_append_op (by rw [h1, h4]; exact h10), hg.1, h.newRow hn hg.1 hg.2 h11 h8, repV_own⟩
theorem StB.nilRow {C : Ctx} {β : Nat → Hd} {a : Act} {w : World} (h : StB C β S a w) {n e sz : Nat} (hn : S.fresh n = true) : StB C (upd β n (.slice none 0 0)) { S with H := (n, .row e sz true [] 0) :: S.H } a w :=
  h.newRow hn (Grows.refl w) (fun b hb' => by cases hb') (World.ownsRow_nil w 0 e sz) rfl
end
end
section
section
variable {E : Set} {Q : Exit → Sd → Prop} {ops : Array Oper} {draw : Bool} {rest : Todo} {way : Way3} {ty : TypeId} {pos : String} {af : Array Edge} {gd : Option (Nat × Bool)} {dst : Option Tmp}
variable {env : List (Nat × V)} {H : List (Nat × Ob)} {gl : List (Nat × List D)} {d : Nat}
theorem s_p {v : V} {o : Oper} (hq : Swift E ⟨env, H, gl⟩ o v) (hdst : o.dst = some d) (hd : d < E.C.nt) (hg : Sd.gd ⟨env, H, gl⟩ ops o = some true) (hdf : isDefer o = false) (h : TR E draw ops Q rest ⟨(d, v) :: env, H, gl⟩) : TR E draw ops Q (.step o way rest) ⟨env, H, gl⟩ :=
  tr_still hq hdst hd hg hdf h
theorem s_q {v : V} {o : Oper} (hq : Quiet E ⟨env, H, gl⟩ o v) (hdst : o.dst = some d) (hd : d < E.C.nt) (hg : Sd.gd ⟨env, H, gl⟩ ops o = some true) (hdf : isDefer o = false) (hw : way.known = false) (h : TR E draw ops Q rest ⟨(d, v) :: env, H, gl⟩) : TR E draw ops Q (.step o way rest) ⟨env, H, gl⟩ :=
  tr_quiet hq hdst hd hg hdf hw h
theorem s_pass {o : Oper} (hdst : o.dst = some d) (hd : d < E.C.nt) (hg : Sd.gd ⟨env, H, gl⟩ ops o = some false) (h : TR E draw ops Q rest ⟨(d, .tup []) :: env, H, gl⟩) : TR E draw ops Q (.step o way rest) ⟨env, H, gl⟩ := tr_pass hdst hd hg h
theorem s_alloc (n : Nat) {t : Nat} {vs : List V} [ht : TZero E.P t vs] (hn : Sd.fresh ⟨env, H, gl⟩ n = true) (hs : saysL n vs = false) (hd : d < E.C.nt) (hg : Sd.gd ⟨env, H, gl⟩ ops ⟨some d, .alloc t, ty, pos, af, gd⟩ = some true) (hw : way.loud = true)
    (h : TR E draw ops Q rest ⟨(d, .ptr n 0) :: env, (n, .box vs) :: H, gl⟩) : TR E draw ops Q (.step ⟨some d, .alloc t, ty, pos, af, gd⟩ way rest) ⟨env, H, gl⟩ := tr_grow (g_alloc hn hs) rfl hd hg rfl hw h
theorem s_box (n : Nat) {t : Nat} {x : Operand} {v : V} {vs : List V} (hx : Sd.ev ⟨env, H, gl⟩ x = some v) (hox : okOp x = true) (hown : ownOk ⟨env, H, gl⟩ v = true) (hc : CellsV v vs) (hn : Sd.fresh ⟨env, H, gl⟩ n = true) (hs : saysL n vs = false) (hd : d < E.C.nt)
    (hg : Sd.gd ⟨env, H, gl⟩ ops ⟨some d, .box t x, ty, pos, af, gd⟩ = some true) (hw : way.loud = true)
    (h : TR E draw ops Q rest ⟨(d, .ptr n 0) :: env, (n, .box vs) :: H, gl⟩) : TR E draw ops Q (.step ⟨some d, .box t x, ty, pos, af, gd⟩ way rest) ⟨env, H, gl⟩ := tr_grow (g_box hx hox hown hc hn hs) rfl hd hg rfl hw h
theorem s_store {t n off m : Nat} {x y : Operand} {v : V} {vs cs cs' : List V} [ht : TSize E.P t m] (hx : Sd.ev ⟨env, H, gl⟩ x = some (.ptr n off)) (hox : okOp x = true) (hy : Sd.ev ⟨env, H, gl⟩ y = some v) (hoy : okOp y = true) (hown : ownOk ⟨env, H, gl⟩ v = true)
    (hl : look n H = some (.box cs)) (hc : CellsV v vs) (hm : vs.length = m) (hr : Repl cs off vs cs') (hg : Sd.gd ⟨env, H, gl⟩ ops ⟨none, .store t x y, ty, pos, af, gd⟩ = some true) (hw : isBar draw way = true)
    (h : TR E draw ops Q rest ⟨env, (n, .box cs') :: H, gl⟩) : TR E draw ops Q (.step ⟨none, .store t x y, ty, pos, af, gd⟩ way rest) ⟨env, H, gl⟩ := tr_turn (t_store hx hox hy hoy hown hl hc hm hr) rfl hg rfl hw h
theorem s_lit (n : Nat) {t e sz len : Nat} {ps : List (Nat × Operand)} {xs : List D} [ht : TSlice E.P t e sz] (hp : Elems ⟨env, H, gl⟩ sz 0 ps xs) (hlen : xs.length = len) (hsmall : len * sz ≤ 16777216) (hn : Sd.fresh ⟨env, H, gl⟩ n = true) (hd : d < E.C.nt)
    (hg : Sd.gd ⟨env, H, gl⟩ ops ⟨some d, .buildSlice t len ps.toArray, ty, pos, af, gd⟩ = some true) (hw : way.loud = true)
    (h : TR E draw ops Q rest ⟨(d, .own n 0) :: env, (n, .row e sz true xs 0) :: H, gl⟩) : TR E draw ops Q (.step ⟨some d, .buildSlice t len ps.toArray, ty, pos, af, gd⟩ way rest) ⟨env, H, gl⟩ := tr_grow (g_lit hp hlen hsmall hn) rfl hd hg rfl hw h
theorem s_append {t e sz n k : Nat} {sh : Bool} {s x : Operand} {v : V} {xs ys : List D} [ht : TSlice E.P t e sz] (hs : Sd.ev ⟨env, H, gl⟩ s = some (.own n k)) (hos : okOp s = true) (hl : look n H = some (.row e sz sh xs k)) (hx : Sd.ev ⟨env, H, gl⟩ x = some v) (hox : okOp x = true) (hy : ToD H v (.list sz ys))
    (hlen : xs.length + ys.length ≤ 100000000000) (hN : E.C.N.contains n = false) (hd : d < E.C.nt) (hg : Sd.gd ⟨env, H, gl⟩ ops ⟨some d, .call { callee := .builtin .append, args := #[s, x], argTypes := #[t, t] }, ty, pos, af, gd⟩ = some true) (hw : isBar draw way = true)
    (h : ∀ k', TR E draw ops Q rest ⟨(d, .own n k') :: env, (n, .row e sz sh (xs ++ ys) k') :: H, gl⟩) : TR E draw ops Q (.step ⟨some d, .call { callee := .builtin .append, args := #[s, x], argTypes := #[t, t] }, ty, pos, af, gd⟩ way rest) ⟨env, H, gl⟩ :=
  tr_turnK (t_append hs hos hl hx hox hy hlen hN (d := d)) rfl hd hg rfl hw h
theorem s_append0 (n : Nat) {t e sz sz' : Nat} {s x : Operand} {v : V} {ys : List D} [ht : TSlice E.P t e sz] (hs : Sd.ev ⟨env, H, gl⟩ s = some (.nils sz')) (hos : okOp s = true) (hx : Sd.ev ⟨env, H, gl⟩ x = some v) (hox : okOp x = true) (hy : ToD H v (.list sz ys)) (hlen : ys.length ≤ 100000000000) (hn : Sd.fresh ⟨env, H, gl⟩ n = true)
    (hd : d < E.C.nt) (hg : Sd.gd ⟨env, H, gl⟩ ops ⟨some d, .call { callee := .builtin .append, args := #[s, x], argTypes := #[t, t] }, ty, pos, af, gd⟩ = some true) (hw : way.loud = true)
    (h : TR E draw ops Q rest ⟨(d, .own n 0) :: env, (n, .row e sz true ys 0) :: H, gl⟩) : TR E draw ops Q (.step ⟨some d, .call { callee := .builtin .append, args := #[s, x], argTypes := #[t, t] }, ty, pos, af, gd⟩ way rest) ⟨env, H, gl⟩ :=
  tr_grow (g_append hs hos hx hox hy hlen hn (d := d)) rfl hd hg rfl hw h
theorem s_call {f : Nat} {xs : List Operand} {ats : Array TypeId} {vs vs' : List V} {R : V → Prop} [hf : TFun E.P f] (hx : Evs ⟨env, H, gl⟩ xs vs) (ha : Args H vs vs') (hc : FnD E.P gl f vs' R) (hd : d < E.C.nt)
    (hg : Sd.gd ⟨env, H, gl⟩ ops ⟨some d, .call { callee := .value (.func f), args := xs.toArray, argTypes := ats }, ty, pos, af, gd⟩ = some true) (hw : way.loud = true)
    (h : ∀ v, R v → TR E draw ops Q rest ⟨(d, v) :: env, H, gl⟩) : TR E draw ops Q (.step ⟨some d, .call { callee := .value (.func f), args := xs.toArray, argTypes := ats }, ty, pos, af, gd⟩ way rest) ⟨env, H, gl⟩ :=
  tr_call hx ha hc hd rfl hg hw h
theorem s_cmp {op : BinOp} {xt yt : TypeId} {x y : Operand} {k : IntKind} {p q : Int} (hop : isCmp op = true) (hx : Sd.ev ⟨env, H, gl⟩ x = some (.d (.int k p))) (hy : Sd.ev ⟨env, H, gl⟩ y = some (.d (.int k q))) (hox : okOp x = true) (hoy : okOp y = true) (hd : d < E.C.nt)
    (hg : Sd.gd ⟨env, H, gl⟩ ops ⟨some d, .binOp op xt x y yt, ty, pos, af, gd⟩ = some true) (h1 : cmp op p q → TR E draw ops Q rest ⟨(d, .d (.bool true)) :: env, H, gl⟩) (h2 : ¬ cmp op p q → TR E draw ops Q rest ⟨(d, .d (.bool false)) :: env, H, gl⟩) :
    TR E draw ops Q (.step ⟨some d, .binOp op xt x y yt, ty, pos, af, gd⟩ way rest) ⟨env, H, gl⟩ := tr_cmp hop hx hy hox hoy hd rfl hg h1 h2
theorem s_str_eq {xt yt : TypeId} {x y : Operand} {s t : ByteArray} (hx : Sd.ev ⟨env, H, gl⟩ x = some (.d (.str s))) (hy : Sd.ev ⟨env, H, gl⟩ y = some (.d (.str t))) (hox : okOp x = true) (hoy : okOp y = true) (hd : d < E.C.nt)
    (hg : Sd.gd ⟨env, H, gl⟩ ops ⟨some d, .binOp .eql xt x y yt, ty, pos, af, gd⟩ = some true) (h1 : s = t → TR E draw ops Q rest ⟨(d, .d (.bool true)) :: env, H, gl⟩) (h2 : ¬ s = t → TR E draw ops Q rest ⟨(d, .d (.bool false)) :: env, H, gl⟩) :
    TR E draw ops Q (.step ⟨some d, .binOp .eql xt x y yt, ty, pos, af, gd⟩ way rest) ⟨env, H, gl⟩ := by
  by_cases h : s = t
  · exact tr_still (q_str_eql hx hy hox hoy (b := true) (propext ⟨fun _ => h, fun _ => rfl⟩)) rfl hd hg rfl (h1 h)
  · exact tr_still (q_str_eql hx hy hox hoy (b := false) (propext ⟨(fun h' => by cases h'), fun h' => absurd h' h⟩)) rfl hd hg rfl (h2 h)
theorem q_c_bool {S : Sd} {b : Bool} : Swift E S ⟨dst, .assign (.const (.bool b)), ty, pos, af, gd⟩ (.d (.bool b)) := q_assign rfl rfl
theorem q_c_int {S : Sd} {k : IntKind} {n : Int} : Swift E S ⟨dst, .assign (.const (.int k n)), ty, pos, af, gd⟩ (.d (.int k n)) := q_assign rfl rfl
theorem q_m_int {S : Sd} {k : IntKind} {n : Int} : Swift E S ⟨dst, .move (.const (.int k n)), ty, pos, af, gd⟩ (.d (.int k n)) := q_move rfl rfl
theorem q_p_t {S : Sd} {c y : Operand} {b : Bool} (hc : S.ev c = some (.d (.bool true))) (hk : okOp c = true) : Swift E S ⟨dst, .pick c (.const (.bool b)) y, ty, pos, af, gd⟩ (.d (.bool b)) := q_pick_t hc hk rfl rfl
theorem q_p_f {S : Sd} {c x : Operand} {b : Bool} (hc : S.ev c = some (.d (.bool false))) (hk : okOp c = true) : Swift E S ⟨dst, .pick c x (.const (.bool b)), ty, pos, af, gd⟩ (.d (.bool b)) := q_pick_f hc hk rfl rfl
theorem q_not_t {S : Sd} {xt : TypeId} {x : Operand} (hx : S.ev x = some (.d (.bool true))) (hox : okOp x = true) : Swift E S ⟨dst, .unOp .not xt x, ty, pos, af, gd⟩ (.d (.bool false)) := q_not hx hox
theorem q_not_f {S : Sd} {xt : TypeId} {x : Operand} (hx : S.ev x = some (.d (.bool false))) (hox : okOp x = true) : Swift E S ⟨dst, .unOp .not xt x, ty, pos, af, gd⟩ (.d (.bool true)) := q_not hx hox
theorem s_bv {rest : Todo} {b : Bool} (h1 : b = true → TR E draw ops Q rest ⟨(d, .d (.bool true)) :: env, H, gl⟩) (h2 : b = false → TR E draw ops Q rest ⟨(d, .d (.bool false)) :: env, H, gl⟩) : TR E draw ops Q rest ⟨(d, .d (.bool b)) :: env, H, gl⟩ := by
  cases b
  · exact h2 rfl
  · exact h1 rfl
theorem s_str_ne {xt yt : TypeId} {x y : Operand} {s t : ByteArray} (hx : Sd.ev ⟨env, H, gl⟩ x = some (.d (.str s))) (hy : Sd.ev ⟨env, H, gl⟩ y = some (.d (.str t))) (hox : okOp x = true) (hoy : okOp y = true) (hd : d < E.C.nt)
    (hg : Sd.gd ⟨env, H, gl⟩ ops ⟨some d, .binOp .neq xt x y yt, ty, pos, af, gd⟩ = some true) (h1 : s = t → TR E draw ops Q rest ⟨(d, .d (.bool false)) :: env, H, gl⟩) (h2 : ¬ s = t → TR E draw ops Q rest ⟨(d, .d (.bool true)) :: env, H, gl⟩) :
    TR E draw ops Q (.step ⟨some d, .binOp .neq xt x y yt, ty, pos, af, gd⟩ way rest) ⟨env, H, gl⟩ := by
  by_cases h : s = t
  · exact tr_still (q_str_neq hx hy hox hoy (b := false) (propext ⟨(fun h' => by cases h'), fun h' => absurd h h'⟩)) rfl hd hg rfl (h1 h)
  · exact tr_still (q_str_neq hx hy hox hoy (b := true) (propext ⟨fun _ => h, fun _ => rfl⟩)) rfl hd hg rfl (h2 h)
theorem get_map {α : Type} {l : List α} {f : α → D} {k : Nat} (h : k < l.length) : (l.map f)[k]? = some (f l[k]) := by simp [h]
theorem get_list {α : Type} {l : List α} {k : Nat} (h : k < l.length) : l[k]? = some l[k] := by simp [h]
theorem end_ret {P : Program} {S : Sd} {rs : List ResultVar} {R : V → Prop} {vs : List V} (h : Res P S rs vs) (hr : R (oneOf vs)) : Ends P rs R .ret S := ⟨.inl rfl, vs, h, hr⟩
theorem tc_cond_t {S : Sd} {c : Operand} {x y : Code} (hc : S.ev c = some (.d (.bool true))) (ho : okOp c = true) (ht : TC E x Q S) : TC E (.cond c x y) Q S := tc_cond hc ho (fun _ => ht) (fun h => by cases h)
theorem tc_cond_f {S : Sd} {c : Operand} {x y : Code} (hc : S.ev c = some (.d (.bool false))) (ho : okOp c = true) (ht : TC E y Q S) : TC E (.cond c x y) Q S := tc_cond hc ho (fun h => by cases h) (fun _ => ht)
end
end
section
def leavesF (P : Program) (rec : TypeId → Option (List Nat)) : Nat → List Field → Option (List Nat)
  | _, [] => some []
  | off, f :: fs => if f.name == "_" || f.offset != off then none else match rec f.type, P.info? f.type with
    | some l, some i => if i.size == l.length then (leavesF P rec (off + l.length) fs).map (l ++ ·) else none
    | _, _ => none
def leaves (P : Program) : Nat → TypeId → Option (List Nat)
  | 0, _ => none
  | d + 1, t => match P.underlying t with
    | some .bool => some [0]
    | some (.int _) => some [1]
    | some .string => some [2]
    | some (.struct fs) => if P.stoodInHeld t then none else leavesF P (leaves P d) 0 fs.toList
    | _ => none
def eqOk (P : Program) (t : Nat) (ls : List Nat) : Bool := (match P.underlying t with | some (.struct _) => true | _ => false) && leaves P 8 t == some ls && !P.eqGuardType P.depth t
class TEq (P : Program) (t : Nat) (ls : outParam (List Nat)) : Prop where
  ok : eqOk P t ls = true
inductive EqC : List Nat → List D → List D → Prop → Prop
  | nil : EqC [] [] [] True
  | bool {a b : Bool} {ls : List Nat} {ds es : List D} {p : Prop} (h : EqC ls ds es p) : EqC (0 :: ls) (.bool a :: ds) (.bool b :: es) (a = b ∧ p)
  | int {k : IntKind} {a b : Int} {ls : List Nat} {ds es : List D} {p : Prop} (h : EqC ls ds es p) : EqC (1 :: ls) (.int k a :: ds) (.int k b :: es) (a = b ∧ p)
  | str {a b : ByteArray} {ls : List Nat} {ds es : List D} {p : Prop} (h : EqC ls ds es p) : EqC (2 :: ls) (.str a :: ds) (.str b :: es) (a = b ∧ p)
def leafV : D → Value
  | .int k n => .int k n
  | .bool b => .bool b
  | .str s => .string s
  | _ => undef
theorem EqC.rep {ls : List Nat} {ds es : List D} {p : Prop} (h : EqC ls ds es p) {w : World} {M : Nat → Nat → Prop} : (∀ us, RepA w M ds us → us = ds.map leafV) ∧ (∀ us, RepA w M es us → us = es.map leafV) := by
  induction h with
  | nil => exact ⟨fun us h => h, fun us h => h⟩
  | bool _ ih => exact ⟨fun us h => by obtain ⟨v, r, rfl, _, h2, h3⟩ := h; simp only [RepD] at h2; subst h2; rw [ih.1 r h3]; rfl, fun us h => by obtain ⟨v, r, rfl, _, h2, h3⟩ := h; simp only [RepD] at h2; subst h2; rw [ih.2 r h3]; rfl⟩
  | int _ ih => exact ⟨fun us h => by obtain ⟨v, r, rfl, _, h2, h3⟩ := h; simp only [RepD] at h2; subst h2; rw [ih.1 r h3]; rfl, fun us h => by obtain ⟨v, r, rfl, _, h2, h3⟩ := h; simp only [RepD] at h2; subst h2; rw [ih.2 r h3]; rfl⟩
  | str _ ih => exact ⟨fun us h => by obtain ⟨v, r, rfl, _, h2, h3⟩ := h; simp only [RepD] at h2; subst h2; rw [ih.1 r h3]; rfl, fun us h => by obtain ⟨v, r, rfl, _, h2, h3⟩ := h; simp only [RepD] at h2; subst h2; rw [ih.2 r h3]; rfl⟩
theorem EqC.length {ls : List Nat} {ds es : List D} {p : Prop} (h : EqC ls ds es p) : ds.length = ls.length ∧ es.length = ls.length := by
  induction h with
  | nil => exact ⟨rfl, rfl⟩
  | bool _ ih => simp [ih.1, ih.2]
  | int _ ih => simp [ih.1, ih.2]
  | str _ ih => simp [ih.1, ih.2]
theorem EqC.inv0 {ds es : List D} {p : Prop} (h : EqC [0] ds es p) : ∃ a b, ds = [.bool a] ∧ es = [.bool b] ∧ p = (a = b ∧ True) := by
  cases h with | bool h => cases h; exact ⟨_, _, rfl, rfl, rfl⟩
theorem EqC.inv1 {ds es : List D} {p : Prop} (h : EqC [1] ds es p) : ∃ k a b, ds = [.int k a] ∧ es = [.int k b] ∧ p = (a = b ∧ True) := by
  cases h with | int h => cases h; exact ⟨_, _, _, rfl, rfl, rfl⟩
theorem EqC.inv2 {ds es : List D} {p : Prop} (h : EqC [2] ds es p) : ∃ a b, ds = [.str a] ∧ es = [.str b] ∧ p = (a = b ∧ True) := by
  cases h with | str h => cases h; exact ⟨_, _, rfl, rfl, rfl⟩
theorem EqC.split : ∀ (l : List Nat) {l' : List Nat} {ds es : List D} {p : Prop}, EqC (l ++ l') ds es p → ∃ d1 d2 e1 e2 p1 p2, ds = d1 ++ d2 ∧ es = e1 ++ e2 ∧ EqC l d1 e1 p1 ∧ EqC l' d2 e2 p2 ∧ p = (p1 ∧ p2)
  | [], l', ds, es, p, h => ⟨[], ds, [], es, True, p, rfl, rfl, .nil, h, by simp⟩
  | x :: l, l', ds, es, p, h => by
    generalize hl : x :: l ++ l' = L at h
    cases h with
    | nil => cases hl
    | bool h =>
      cases hl
      obtain ⟨d1, d2, e1, e2, p1, p2, rfl, rfl, h1, h2, rfl⟩ := EqC.split l h
      exact ⟨_ :: d1, d2, _ :: e1, e2, _, p2, rfl, rfl, .bool h1, h2, by simp [and_assoc]⟩
    | int h =>
      cases hl
      obtain ⟨d1, d2, e1, e2, p1, p2, rfl, rfl, h1, h2, rfl⟩ := EqC.split l h
      exact ⟨_ :: d1, d2, _ :: e1, e2, _, p2, rfl, rfl, .int h1, h2, by simp [and_assoc]⟩
    | str h =>
      cases hl
      obtain ⟨d1, d2, e1, e2, p1, p2, rfl, rfl, h1, h2, rfl⟩ := EqC.split l h
      exact ⟨_ :: d1, d2, _ :: e1, e2, _, p2, rfl, rfl, .str h1, h2, by simp [and_assoc]⟩
section
variable {P : Program}
theorem part_cell {t : TypeId} {d : TypeDesc} (hu : P.underlying t = some d) (h1 : ∀ fs, d ≠ .struct fs) (h2 : ∀ n e, d ≠ .array n e) {xs : List Value} {off : Nat} {v : Value} (hv : xs[off]? = some v) (w : World) : (part t xs.toArray off).run P w = .ok v w := by
  simp [part, isAgg_no hu h1 h2, hv]
theorem part_agg {t : TypeId} {fs : Array Field} (hu : P.underlying t = some (.struct fs)) {i : TypeInfo} (hi : P.info? t = some i) {pre us post : List Value} {off : Nat} (ho : pre.length = off) (hn : us.length = i.size) (w : World) :
    (part t (pre ++ us ++ post).toArray off).run P w = .ok (.agg us.toArray) w := by
  have he : ((pre ++ us ++ post).toArray.extract off (off + i.size)) = us.toArray := by
    simp [List.extract_eq_take_drop, ← ho, hn]
  simp only [part, Sem.run_bind, isAgg_yes hu (.inl ⟨fs, rfl⟩), Result.andThen_ok, if_true, run_size hi, Sem.run_pure, he]
theorem leaves_eq : ∀ (d D : Nat) (t : TypeId) (ls : List Nat), d ≤ D → leaves P d t = some ls → ∀ (i : TypeInfo), P.info? t = some i → i.size = ls.length → ∀ (ds es : List Go.Proofs.YtjhbglklcddekaaGreatDoor.D) (p : Prop), EqC ls ds es p → ∀ (pre post pre' post' : List Value) (off : Nat), pre.length = off → pre'.length = off →
    ∃ a c b, (∀ w, (part t (pre ++ ds.map leafV ++ post).toArray off).run P w = .ok a w) ∧ (∀ w, (part t (pre' ++ es.map leafV ++ post').toArray off).run P w = .ok c w) ∧ (∀ w, (Op.equalIn D t a c).run P w = .ok b w) ∧ (b = true) = p ∧ ((∃ fs, P.underlying t = some (.struct fs)) → a = .agg (ds.map leafV).toArray ∧ c = .agg (es.map leafV).toArray) := by
  intro d
  induction d with
  | zero => intro D t ls _ h; simp [leaves] at h
  | succ d ih =>
    intro D t ls hD h i hi hn ds es p hE pre post pre' post' off ho ho'
    obtain ⟨D, rfl⟩ : ∃ D', D = D' + 1 := ⟨D - 1, by omega⟩
    obtain ⟨hl1, hl2⟩ := hE.length
    have get : ∀ (pre post : List Value) (v : Value) (l : List Value), pre.length = off → l = [v] → (pre ++ l ++ post)[off]? = some v := fun pre post v l h1 h2 => by subst h1; subst h2; simp
    unfold leaves at h
    split at h
    · rename_i hu
      cases h
      obtain ⟨x, y, rfl, rfl, rfl⟩ := hE.inv0
      refine ⟨_, _, x == y, fun w => part_cell hu (by simp) (by simp) (get _ _ (.bool x) _ ho rfl) w, fun w => part_cell hu (by simp) (by simp) (get _ _ (.bool y) _ ho' rfl) w, fun w => run_equalIn_bool' w D t x y hu, ?_, fun ⟨fs, hf⟩ => ?_⟩
      · simp
      · rw [hu] at hf; cases hf
    · rename_i k hu
      cases h
      obtain ⟨k', x, y, rfl, rfl, rfl⟩ := hE.inv1
      refine ⟨_, _, x == y, fun w => part_cell hu (by simp) (by simp) (get _ _ (.int k' x) _ ho rfl) w, fun w => part_cell hu (by simp) (by simp) (get _ _ (.int k' y) _ ho' rfl) w, fun w => run_equalIn_int w D t k' k x y hu, ?_, fun ⟨fs, hf⟩ => ?_⟩
      · simp
      · rw [hu] at hf; cases hf
    · rename_i hu
      cases h
      obtain ⟨x, y, rfl, rfl, rfl⟩ := hE.inv2
      refine ⟨_, _, x.toList == y.toList, fun w => part_cell hu (by simp) (by simp) (get _ _ (.string x) _ ho rfl) w, fun w => part_cell hu (by simp) (by simp) (get _ _ (.string y) _ ho' rfl) w, fun w => run_equalIn_string w D t x y hu, ?_, fun ⟨fs, hf⟩ => ?_⟩
      · by_cases h : x = y
        · rw [bytes_beq x y (b := true) (propext ⟨fun _ => h, fun _ => rfl⟩)]; simp [h]
        · rw [bytes_beq x y (b := false) (propext ⟨(fun h' => by cases h'), fun h' => absurd h' h⟩)]; simp [h]
      · rw [hu] at hf; cases hf
    · rename_i fs hu
      split at h
      · cases h
      · rename_i hst
        have hst : P.stoodInHeld t = false := by simpa using hst
        have hfo : P.fieldsOf t = fs := by unfold Program.fieldsOf; rw [hu]
        have fields : ∀ (fl : List Field) (off : Nat) (ls : List Nat), leavesF P (leaves P d) off fl = some ls → ∀ (ds es : List Go.Proofs.YtjhbglklcddekaaGreatDoor.D) (p : Prop), EqC ls ds es p → ∀ (pre pre' : List Value), pre.length = off → pre'.length = off →
            ∃ b, (∀ w, (Op.eqFields D (pre ++ ds.map leafV).toArray (pre' ++ es.map leafV).toArray fl).run P w = .ok b w) ∧ (b = true) = p := by
          intro fl
          induction fl with
          | nil =>
            intro off ls h ds es p hE pre pre' _ _
            simp only [leavesF, Option.some.injEq] at h
            subst h
            cases hE
            exact ⟨true, fun w => rfl, by simp⟩
          | cons f fl ih2 =>
            intro off ls h ds es p hE pre pre' ho ho'
            simp only [leavesF] at h
            split at h
            · cases h
            · rename_i hf
              simp only [Bool.or_eq_true, beq_iff_eq, bne_iff_ne, ne_eq, not_or, Decidable.not_not] at hf
              split at h
              · rename_i l i' hl hi'
                split at h
                · rename_i hsz
                  simp only [beq_iff_eq] at hsz
                  obtain ⟨ls', h', rfl⟩ := Option.map_eq_some_iff.1 h
                  obtain ⟨d1, d2, e1, e2, p1, p2, rfl, rfl, h1, h2, rfl⟩ := hE.split l
                  obtain ⟨q1, q2⟩ := h1.length
                  obtain ⟨a, c, b, k1, k2, k3, k4, _⟩ := ih D f.type l (by omega) hl i' hi' hsz d1 e1 p1 h1 pre (d2.map leafV) pre' (e2.map leafV) off ho ho'
                  obtain ⟨b2, k5, k6⟩ := ih2 (off + l.length) ls' h' d2 e2 p2 h2 (pre ++ d1.map leafV) (pre' ++ e1.map leafV) (by simp; omega) (by simp; omega)
                  refine ⟨b && b2, fun w => ?_, ?_⟩
                  · have e1' : (pre ++ (d1 ++ d2).map leafV) = pre ++ d1.map leafV ++ d2.map leafV := by simp
                    have e2' : (pre' ++ (e1 ++ e2).map leafV) = pre' ++ e1.map leafV ++ e2.map leafV := by simp
                    rw [e1', e2']
                    simp only [Op.eqFields, hf.1, ne_eq, not_false_eq_true, if_true, hf.2, Sem.run_bind, k1, k2, k3, Result.andThen_ok]
                    cases b with
                    | false => rfl
                    | true => simp only [Bool.not_true, Bool.false_eq_true, if_false, Bool.true_and]; exact k5 w
                  · rw [← k4, ← k6]
                    simp
                · cases h
              · cases h
        obtain ⟨b, k1, k2⟩ := fields fs.toList 0 ls h ds es p hE [] [] rfl rfl
        refine ⟨.agg (ds.map leafV).toArray, .agg (es.map leafV).toArray, b, fun w => part_agg hu hi ho (by simp; omega) w, fun w => part_agg hu hi ho' (by simp; omega) w, fun w => ?_, k2, fun _ => ⟨rfl, rfl⟩⟩
        rw [run_equalIn_struct w D t _ _ (by rw [hfo]; exact hu) hst, hfo]
        exact k1 w
    · cases h
theorem eq_agg {t : Nat} {ls : List Nat} (h : TEq P t ls) [hs : TAgg P t ls.length] {ds es : List D} {p : Prop} (hE : EqC ls ds es p) : ∃ b, (b = true) = p ∧ ∀ w, (Op.equalIn 10000 t (.agg (ds.map leafV).toArray) (.agg (es.map leafV).toArray)).run P w = .ok b w := by
  have h1 := h.ok
  unfold eqOk at h1
  simp only [Bool.and_eq_true, beq_iff_eq, Bool.not_eq_true'] at h1
  obtain ⟨⟨h2, h3⟩, h4⟩ := h1
  obtain ⟨d, i, hu, hd, hi, hsz⟩ := agg_parts hs
  obtain ⟨a, c, b, _, _, k3, k4, k5⟩ := leaves_eq 8 10000 t ls (by omega) h3 i hi hsz ds es p hE [] [] [] [] 0 rfl rfl
  obtain ⟨rfl, rfl⟩ := k5 (by
    split at h2
    · rename_i fs hu'; exact ⟨fs, hu'⟩
    · cases h2)
  exact ⟨b, k4, k3⟩
end
section
variable {E : Set} {Q : Exit → Sd → Prop} {ops : Array Oper} {draw : Bool} {rest : Todo} {way : Way3} {ty : TypeId} {pos : String} {af : Array Edge} {gd : Option (Nat × Bool)} {dst : Option Tmp}
variable {env : List (Nat × V)} {H : List (Nat × Ob)} {gl : List (Nat × List D)} {d : Nat}
theorem q_agg {S : Sd} {t : Nat} {yt : TypeId} {x y : Operand} {ls : List Nat} {ds es : List D} {p : Prop} [ht : TEq E.P t ls] [hs : TAgg E.P t ls.length] (hx : S.ev x = some (.d (.agg ds))) (hy : S.ev y = some (.d (.agg es))) (hox : okOp x = true) (hoy : okOp y = true) (hE : EqC ls ds es p) :
    ∃ b : Bool, (b = true) = p ∧ Swift E S ⟨dst, .binOp .eql t x y yt, ty, pos, af, gd⟩ (.d (.bool b)) ∧ Swift E S ⟨dst, .binOp .neq t x y yt, ty, pos, af, gd⟩ (.d (.bool !b)) := by
  obtain ⟨b, h1, h2⟩ := eq_agg (P := E.P) (t := t) ht hE
  have hm : E.P.eqGuardType E.P.depth t = false := by
    have := ht.ok
    unfold eqOk at this
    simp only [Bool.and_eq_true, Bool.not_eq_true'] at this
    exact this.2
  refine ⟨b, h1, Swift.mk fun β a w h => ⟨.bool b, fun w' _ => ?_, rfl⟩, Swift.mk fun β a w h => ⟨.bool !b, fun w' _ => ?_, rfl⟩⟩
  all_goals
    obtain ⟨us, e1, r1⟩ := h.ev hx hox
    obtain ⟨vs, e2, r2⟩ := h.ev hy hoy
    rw [(hE.rep (w := w) (M := Mut E.C.M0 β S.H)).1 us r1] at e1
    rw [(hE.rep (w := w) (M := Mut E.C.M0 β S.H)).2 vs r2] at e2
    simp only [execOp, e1, e2, Sem.run_bind, run_eqGuard_agg w' _ t x y _ _ hm, Result.andThen_ok, run_eql_struct, run_neq_struct, h2 w', Sem.run_pure]
theorem s_agg_eq {t : Nat} {yt : TypeId} {x y : Operand} {ls : List Nat} {ds es : List D} {p : Prop} [ht : TEq E.P t ls] [hs : TAgg E.P t ls.length] (hx : Sd.ev ⟨env, H, gl⟩ x = some (.d (.agg ds))) (hy : Sd.ev ⟨env, H, gl⟩ y = some (.d (.agg es))) (hox : okOp x = true) (hoy : okOp y = true) (hE : EqC ls ds es p) (hd : d < E.C.nt)
    (hg : Sd.gd ⟨env, H, gl⟩ ops ⟨some d, .binOp .eql t x y yt, ty, pos, af, gd⟩ = some true) (h1 : p → TR E draw ops Q rest ⟨(d, .d (.bool true)) :: env, H, gl⟩) (h2 : ¬ p → TR E draw ops Q rest ⟨(d, .d (.bool false)) :: env, H, gl⟩) :
    TR E draw ops Q (.step ⟨some d, .binOp .eql t x y yt, ty, pos, af, gd⟩ way rest) ⟨env, H, gl⟩ := by
  obtain ⟨b, hb, hq, _⟩ := q_agg (E := E) (S := ⟨env, H, gl⟩) (t := t) (dst := some d) (yt := yt) (ty := ty) (pos := pos) (af := af) (gd := gd) hx hy hox hoy hE
  cases b
  · exact tr_still hq rfl hd hg rfl (h2 (by rw [← hb]; simp))
  · exact tr_still hq rfl hd hg rfl (h1 (by rw [← hb]))
theorem s_agg_ne {t : Nat} {yt : TypeId} {x y : Operand} {ls : List Nat} {ds es : List D} {p : Prop} [ht : TEq E.P t ls] [hs : TAgg E.P t ls.length] (hx : Sd.ev ⟨env, H, gl⟩ x = some (.d (.agg ds))) (hy : Sd.ev ⟨env, H, gl⟩ y = some (.d (.agg es))) (hox : okOp x = true) (hoy : okOp y = true) (hE : EqC ls ds es p) (hd : d < E.C.nt)
    (hg : Sd.gd ⟨env, H, gl⟩ ops ⟨some d, .binOp .neq t x y yt, ty, pos, af, gd⟩ = some true) (h1 : p → TR E draw ops Q rest ⟨(d, .d (.bool false)) :: env, H, gl⟩) (h2 : ¬ p → TR E draw ops Q rest ⟨(d, .d (.bool true)) :: env, H, gl⟩) :
    TR E draw ops Q (.step ⟨some d, .binOp .neq t x y yt, ty, pos, af, gd⟩ way rest) ⟨env, H, gl⟩ := by
  obtain ⟨b, hb, _, hq⟩ := q_agg (E := E) (S := ⟨env, H, gl⟩) (t := t) (dst := some d) (yt := yt) (ty := ty) (pos := pos) (af := af) (gd := gd) hx hy hox hoy hE
  cases b
  · exact tr_still hq rfl hd hg rfl (h2 (by rw [← hb]; simp))
  · exact tr_still hq rfl hd hg rfl (h1 (by rw [← hb]))
inductive Sub {α : Type} (env : List (Nat × α)) : List (Nat × α) → Prop
  | nil : Sub env []
  | cons {t : Nat} {v : α} {r : List (Nat × α)} (h : look t env = some v) (k : Sub env r) : Sub env ((t, v) :: r)
theorem Sub.look {α : Type} {env l : List (Nat × α)} (h : Sub env l) {t : Nat} {v : α} (hl : Go.Proofs.YtjhbglklcddekaaGreatDoor.look t l = some v) : Go.Proofs.YtjhbglklcddekaaGreatDoor.look t env = some v := by
  induction h with
  | nil => cases hl
  | cons h1 _ ih =>
    rw [look_cons] at hl
    split at hl
    · rename_i e; subst e; cases hl; exact h1
    · exact ih hl
def Wk (C : Ctx) (S S' : Sd) : Prop := ∀ a w, St C S a w → St C S' a w
theorem wk {C : Ctx} {env' : List (Nat × V)} {H' : List (Nat × Ob)} (h1 : Sub env env') (h2 : Sub H H') (h3 : (C.N.all fun n => (look n H').isSome) = true) : Wk C ⟨env, H, gl⟩ ⟨env', H', gl⟩ := fun a w ⟨β, hB⟩ => ⟨β, hB.weak (fun t v h => h1.look h) (fun n ob h => h2.look h) (fun _ _ h => h) (fun n hn => List.all_eq_true.1 h3 n hn)⟩
theorem tc_fam {S : Sd} {c : Code} {ι : Type} (F : ι → Sd) (P : ι → Prop) (m : ι → Nat) (i0 : ι) (hp : P i0) (h0 : Wk E.C S (F i0)) (round : ∀ i, P i → TC E c (Exit.thenD (fun S' => ∃ j, P j ∧ m j < m i ∧ Wk E.C S' (F j)) Q) (F i)) : TC E (.loop c) Q S := by
  intro a w hS
  have key := tc_loop (E := E) (Q := Q) (c := c) (S := F i0) (fun S => ∃ i, P i ∧ S = F i) (fun S => leastOf fun k => ∃ i, P i ∧ S = F i ∧ m i = k) ⟨i0, hp, rfl⟩ (fun S ⟨i, hi, hSi⟩ => by
    obtain ⟨⟨i', hi', hS', hm'⟩, hmin⟩ := leastOf_spec (p := fun k => ∃ i, P i ∧ S = F i ∧ m i = k) ⟨_, i, hi, hSi, rfl⟩
    subst hS'
    refine tc_mono (round i' hi') fun e S' hq => ?_
    cases e
    case normal =>
      obtain ⟨j, hj, hlt, hw⟩ := hq
      refine ⟨F j, hw, ⟨j, hj, rfl⟩, ?_⟩
      have := (leastOf_spec (p := fun k => ∃ i, P i ∧ F j = F i ∧ m i = k) ⟨_, j, hj, rfl, rfl⟩).2 _ ⟨j, hj, rfl, rfl⟩
      rw [← hm']
      omega
    all_goals exact hq)
  exact key a w (h0 a w hS)
theorem tc_row {c : Code} {t e sz sz' : Nat} (hl : look t env = some (.nils sz')) (hn : Sd.fresh ⟨env, H, gl⟩ t = true) (h : TC E c Q ⟨(t, .own t 0) :: env, (t, .row e sz true [] 0) :: H, gl⟩) : TC E c Q ⟨env, H, gl⟩ := fun a w ⟨β, hB⟩ => by
  have h1 := hB.nilRow (e := e) (sz := sz) hn
  refine h a w ⟨_, { h1 with env := fun s v hs => ?_ }⟩
  dsimp only at hs
  rw [look_cons] at hs
  split at hs
  · rename_i e'
    subst e'
    cases hs
    obtain ⟨x, h2, h3⟩ := hB.env t _ hl
    exact ⟨x, h2, fun e' sz'' sh xs hl' => by rw [upd_v]; exact h3⟩
  · exact h1.env s v hs
end
end
section
def dByte (b : UInt8) : D := .int .u8 b.toNat
section
variable {E : Set} {S : Sd} {dst : Option Tmp} {ty : TypeId} {pos : String} {af : Array Edge} {gd : Option (Nat × Bool)}
theorem RepE.bytes {w : World} {M : Nat → Nat → Prop} : ∀ {l : List UInt8} {ys : List Value}, RepE w M 1 (l.map dByte) ys → ys = l.map fun b => Value.int .u8 (b.toNat : Int)
  | [], ys, h => h
  | b :: l, ys, h => by
    obtain ⟨v, r, h1, h2, h3, h4⟩ := h
    have hv : v = Value.int .u8 (b.toNat : Int) := h3
    subst hv
    have := RepE.bytes (l := l) h4
    subst this
    rw [h1]
    rfl
theorem q_conv_bytes {st dt e : TypeId} {x : Operand} {l : List UInt8} {xs : List D} [hs : TSlice E.P st e 1] [hb : TInt E.P e .u8] [hd : TStr E.P dt] (hx : S.ev x = some (.d (.list 1 xs))) (hox : okOp x = true) (hl : xs = l.map dByte) :
    Quiet E S ⟨dst, .convert st dt x, ty, pos, af, gd⟩ (.d (.str ⟨l.toArray⟩)) := Quiet.mk fun β a w h => by
  subst hl
  obtain ⟨_, hsl, _⟩ := slice_parts hs
  obtain ⟨ad, c, ys, h1, h2, h3, h4, h5, h6⟩ := h.ev hx hox
  have h7 := RepE.bytes h5
  subst h7
  refine ⟨.string ⟨l.toArray⟩, fun w' g => ?_, rfl⟩
  rw [List.length_map] at h1
  cases l with
  | nil =>
    cases ad with
    | none =>
      have := run_convert_bytes_nil (P := E.P) w' st e hsl (int_parts hb) 0 c dt (str_parts hd)
      simp only [execOp, h1, List.length_nil, Sem.run_bind, this]
      rfl
    | some p =>
      have := run_convert_bytes_string (P := E.P) w' st dt e (some p) 0 c hsl (int_parts hb) (str_parts hd)
      simp only [execOp, h1, List.length_nil, Sem.run_bind, this]
      simp [Conv.bytesToString, loadCells, loadCellsFrom]
      rfl
  | cons b l =>
    obtain ⟨q, o, e1, _, _⟩ := h6 0 _ rfl
    subst e1
    have := run_convert_bytes_arg (P := E.P) w' st e hsl (int_parts hb) q o (b :: l).length c ((b :: l).map fun b => (b.toNat : Int)) (by simp) (fun i hi => by
      have := reads_later h6 g (j := i) (v := .int .u8 (((b :: l)[i]).toNat : Int)) (by rw [List.getElem?_map, List.getElem?_eq_getElem hi]; rfl)
      rw [this, List.getD_eq_getElem?_getD, List.getElem?_map, List.getElem?_eq_getElem hi]
      rfl) dt (str_parts hd)
    have e2 : strOfNums ((b :: l).map fun b => (b.toNat : Int)) = ⟨(b :: l).toArray⟩ := by
      unfold strOfNums
      rw [List.map_map]
      congr 2
      conv => rhs; rw [← List.map_id (b :: l)]
      apply List.map_congr_left
      intro u _
      simp
    rw [e2] at this
    simp only [execOp, h1, Sem.run_bind, this]
    rfl
end
end
end Go.Proofs.YtjhbglklcddekaaGreatDoor
