/- Parts: D20, D21, D22. -/
import Derived.Test.YtjhbglklcddekaaGreatDoorP13
set_option linter.all false
set_option maxRecDepth 100000
set_option maxHeartbeats 16000000
namespace Go.Proofs.YtjhbglklcddekaaGreatDoor
open Go.RowKit
section
def zeroDOk (P : Program) (t : Nat) (x : D) : Bool := match P.info? t with
  | some i => (match i.zero with
    | some (.agg cs) => (match x with | .agg ds => zeroD cs.toList ds | _ => false)
    | some z => zeroD [z] [x]
    | none => false)
  | none => false
class TZeroD (P : Program) (t : Nat) (x : outParam D) : Prop where
  ok : zeroDOk P t x = true
theorem zeroD_one {P : Program} {t : Nat} {x : D} (h : TZeroD P t x) : ∃ i z, P.info? t = some i ∧ i.zero = some z ∧ ∀ {w : World} {M : Nat → Nat → Prop}, RepD w M x z := by
  have := h.ok
  unfold zeroDOk at this
  cases hi : P.info? t with
  | none => rw [hi] at this; cases this
  | some i =>
    rw [hi] at this
    dsimp only at this
    cases hz : i.zero with
    | none => rw [hz] at this; cases this
    | some z =>
      rw [hz] at this
      refine ⟨i, z, rfl, hz, ?_⟩
      intro w M
      have one : zeroD [z] [x] = true → RepD w M x z := fun h => by
        obtain ⟨v, r, e, _, h1, _⟩ := zeroD_rep' (w := w) (M := M) h
        cases e
        exact h1
      cases z
      case agg cs =>
        dsimp only at this
        split at this
        · exact ⟨cs.toList, by simp, zeroD_rep' this⟩
        · cases this
      all_goals exact one this
section
variable {E : Set} {Q : Exit → Sd → Prop} {ops : Array Oper} {draw : Bool} {rest : Todo} {way : Way3} {ty : TypeId} {pos : String} {af : Array Edge} {gd : Option (Nat × Bool)} {dst : Option Tmp}
variable {env : List (Nat × V)} {H : List (Nat × Ob)} {gl : List (Nat × List D)} {d : Nat}
theorem q_min {S : Sd} {x y : Operand} {k k' : IntKind} {p q : Int} {ats : Array TypeId} (hx : S.ev x = some (.d (.int k p))) (hy : S.ev y = some (.d (.int k' q))) (hox : okOp x = true) (hoy : okOp y = true) :
    Swift E S ⟨dst, .call { callee := .builtin .min, args := #[x, y], argTypes := ats }, ty, pos, af, gd⟩ (.d (.int k (if q < p then q else p))) := Swift.mk fun β a w h => by
  have h1 : a.eval x = .int k p := h.ev hx hox
  have h2 : a.eval y = .int k' q := h.ev hy hoy
  refine ⟨.int k (if q < p then q else p), fun w' _ => ?_, rfl⟩
  simp [execOp, resolve, invoke, builtin, h1, h2, Builtin.min_, Builtin.min2]
theorem q_max {S : Sd} {x y : Operand} {k k' : IntKind} {p q : Int} {ats : Array TypeId} (hx : S.ev x = some (.d (.int k p))) (hy : S.ev y = some (.d (.int k' q))) (hox : okOp x = true) (hoy : okOp y = true) :
    Swift E S ⟨dst, .call { callee := .builtin .max, args := #[x, y], argTypes := ats }, ty, pos, af, gd⟩ (.d (.int k (if p < q then q else p))) := Swift.mk fun β a w h => by
  have h1 : a.eval x = .int k p := h.ev hx hox
  have h2 : a.eval y = .int k' q := h.ev hy hoy
  refine ⟨.int k (if p < q then q else p), fun w' _ => ?_, rfl⟩
  simp [execOp, resolve, invoke, builtin, h1, h2, Builtin.max_, Builtin.max2]
theorem madeCells_rep {w : World} {M : Nat → Nat → Prop} {x : D} {z : Value} (hr : RepD w M x z) {sz : Nat} (hs : z.cells.size = sz) (hpos : 0 < sz) : ∀ n, RepE w M sz (List.replicate n x) (madeCells z.cells (n * sz)).toList := by
  intro n
  induction n with
  | zero => simp [madeCells, RepE]
  | succ n ih =>
    have e : (madeCells z.cells ((n + 1) * sz)).toList = z.cells.toList ++ (madeCells z.cells (n * sz)).toList := by
      apply List.ext_getElem?
      intro j
      simp only [madeCells, Array.toList_map, Array.toList_range, List.getElem?_map]
      by_cases hj : j < sz
      · rw [List.getElem?_append_left (by simp [hs, hj])]
        have : j < (n + 1) * sz := by rw [Nat.add_mul]; omega
        rw [List.getElem?_range this]
        simp only [Option.map_some, hs, Nat.mod_eq_of_lt hj]
        rw [Array.getElem?_toList, Array.getElem?_eq_getElem (by omega)]
        rw [getElem!_pos z.cells j (by omega)]
      · rw [List.getElem?_append_right (by simp [hs]; omega)]
        simp only [Array.length_toList, hs, List.getElem?_map]
        by_cases hj2 : j < (n + 1) * sz
        · have : j - sz < n * sz := by rw [Nat.add_mul] at hj2; omega
          rw [List.getElem?_range hj2, List.getElem?_range this]
          simp only [Option.map_some]
          rw [Nat.mod_eq_sub_mod (by omega)]
        · have : ¬ j - sz < n * sz := by rw [Nat.add_mul] at hj2; omega
          rw [List.getElem?_eq_none (by simp; omega), List.getElem?_eq_none (by simp; omega)]
    rw [List.replicate_succ, e]
    exact ⟨z, _, rfl, hs, hr, ih⟩
theorem g_make {S : Sd} {n t e sz m : Nat} {k : IntKind} {p : Int} {x : Operand} {z : D} [ht : TSlice E.P t e sz] [hz : TZeroD E.P e z] (hx : S.ev x = some (.d (.int k p))) (hox : okOp x = true) (hp : p = (m : Nat)) (hm : m ≤ 1000000000) (hn : S.fresh n = true) :
    Grow E S ⟨some d, .makeSlice t x x, ty, pos, af, gd⟩ { S with H := (n, .row e sz false (List.replicate m z) 0) :: S.H } (.own n 0) := Grow.mk fun β a w h => by
  subst hp
  obtain ⟨bytes, ⟨i, z', hu, hi, hz', hs, hby, hzs, hpos⟩, hbl⟩ := slice_elem ht
  obtain ⟨i2, z2, hi2, hz2, hzr⟩ := zeroD_one hz
  rw [hi] at hi2
  cases hi2
  rw [hz'] at hz2
  cases hz2
  have h1 : a.eval x = .int k (m : Nat) := h.ev hx hox
  obtain ⟨w', h2, h3, h4⟩ := run_make_full (P := E.P) w 0 t e i z' sz hu hi hz' hs k k m (by rw [hby]; have := Nat.mul_le_mul hbl hm; omega) (by unfold maxLen; omega) (Nat.zero_le _)
  have g : Grows w w' := (Below.refl _ _).grown h4 (Nat.le_refl _) (fun k hk => by cases hk)
  refine ⟨_, w', _, ?_, g, h.newRow (sh := false) (xs := List.replicate m z) hn g (fun b hb' => ?_) (by rw [List.length_replicate]; exact h3) (madeCells_rep hzr hzs hpos m), repV_own⟩
  · simp only [execOp, h1, Sem.run_bind, h2, Result.andThen_ok, Sem.run_pure]
  · simp only [Value.ownBlock, Option.some.injEq] at hb'
    omega
theorem s_make (n : Nat) {t e sz m : Nat} {k : IntKind} {p : Int} {x : Operand} {z : D} [ht : TSlice E.P t e sz] [hz : TZeroD E.P e z] (hx : Sd.ev ⟨env, H, gl⟩ x = some (.d (.int k p))) (hox : okOp x = true) (hp : p = (m : Nat)) (hm : m ≤ 1000000000) (hn : Sd.fresh ⟨env, H, gl⟩ n = true) (hd : d < E.C.nt)
    (hg : Sd.gd ⟨env, H, gl⟩ ops ⟨some d, .makeSlice t x x, ty, pos, af, gd⟩ = some true) (hw : way.loud = true) (h : TR E draw ops Q rest ⟨(d, .own n 0) :: env, (n, .row e sz false (List.replicate m z) 0) :: H, gl⟩) :
    TR E draw ops Q (.step ⟨some d, .makeSlice t x x, ty, pos, af, gd⟩ way rest) ⟨env, H, gl⟩ := tr_grow (g_make hx hox hp hm hn) rfl hd hg rfl hw h
theorem t_store1 {S : Sd} {t n off : Nat} {x y : Operand} {v : V} {cs : List V} [ht : TSize E.P t 1] (hx : S.ev x = some (.ptr n off)) (hox : okOp x = true) (hy : S.ev y = some v) (hoy : okOp y = true) (hown : ownOk S v = true) (hl : look n S.H = some (.box cs)) (hc : CellsV v [v]) (hoff : off < cs.length) :
    Turn E S ⟨none, .store t x y, ty, pos, af, gd⟩ { S with H := (n, .box (cs.set off v)) :: S.H } := by
  have hr : Repl cs off [v] (cs.set off v) := by
    clear hl hx
    induction cs generalizing off with
    | nil => simp at hoff
    | cons c cs ih =>
      cases off with
      | zero => exact .here (.done _)
      | succ off => exact .there (ih (by simpa using hoff))
  exact t_store (m := 1) hx hox hy hoy hown hl hc rfl hr
theorem s_store1 {t n off : Nat} {x y : Operand} {v : V} {cs : List V} [ht : TSize E.P t 1] (hx : Sd.ev ⟨env, H, gl⟩ x = some (.ptr n off)) (hox : okOp x = true) (hy : Sd.ev ⟨env, H, gl⟩ y = some v) (hoy : okOp y = true) (hown : ownOk ⟨env, H, gl⟩ v = true)
    (hl : look n H = some (.box cs)) (hc : CellsV v [v]) (hoff : off < cs.length) (hg : Sd.gd ⟨env, H, gl⟩ ops ⟨none, .store t x y, ty, pos, af, gd⟩ = some true) (hw : isBar draw way = true)
    (h : TR E draw ops Q rest ⟨env, (n, .box (cs.set off v)) :: H, gl⟩) : TR E draw ops Q (.step ⟨none, .store t x y, ty, pos, af, gd⟩ way rest) ⟨env, H, gl⟩ := tr_turn (t_store1 hx hox hy hoy hown hl hc hoff) rfl hg rfl hw h
theorem repE_set {w : World} {M : Nat → Nat → Prop} {sz : Nat} {z : D} {u : Value} (hu : u.cells.size = sz) (hz : RepD w M z u) : ∀ {xs : List D} {vs : List Value}, RepE w M sz xs vs → ∀ {i : Nat}, i < xs.length → RepE w M sz (xs.set i z) (vs.take (i * sz) ++ u.cells.toList ++ vs.drop (i * sz + sz))
  | [], _, _, i, hi => by simp at hi
  | x :: xs, _, ⟨v, r, e, h2, h3, h4⟩, 0, _ => by
    subst e
    refine ⟨u, r, ?_, hu, hz, h4⟩
    have : v.cells.toList.length = sz := by simpa using h2
    simp [← this]
  | x :: xs, _, ⟨v, r, e, h2, h3, h4⟩, i + 1, hi => by
    subst e
    have hl : v.cells.toList.length = sz := by simpa using h2
    refine ⟨v, _, ?_, h2, h3, repE_set hu hz h4 (i := i) (by simpa using hi)⟩
    have e1 : (i + 1) * sz = v.cells.toList.length + i * sz := by rw [hl, Nat.add_mul]; omega
    rw [e1, List.take_append, List.take_of_length_le (by omega), Nat.add_sub_cancel_left, Nat.add_assoc, List.drop_append, List.drop_of_length_le (by omega), Nat.add_sub_cancel_left]
    simp
theorem t_store_el {S : Sd} {t n k i e sz : Nat} {x y : Operand} {v : V} {z : D} {xs zs : List D} [ht : TSize E.P t sz] (hx : S.ev x = some (.el n k i 0)) (hox : okOp x = true) (hl : look n S.H = some (.row e sz false xs k)) (hy : S.ev y = some v) (hoy : okOp y = true) (hz : ToD S.H v z) (hc : CellsD z zs) (hm : zs.length = sz) (hi : i < xs.length) :
    Turn E S ⟨none, .store t x y, ty, pos, af, gd⟩ { S with H := (n, .row e sz false (xs.set i z) k) :: S.H } := Turn.mk fun β a w h => by
  obtain ⟨b, l, c, h1, h2⟩ := h.ev hx hox e sz false xs hl
  obtain ⟨ys, h3, h4⟩ := h.obs n _ hl
  have hzr := hz.rep h (h.ev hy hoy)
  obtain ⟨g, cap, cur, h5, h6, h7, h8, h9, h10, h11⟩ : ∃ g cap cur, (β n).v = .slice (some ⟨g, 0, none⟩) xs.length cap ∧ 0 ≤ g ∧ w.heap[g]? = some (.cells cur e (0, 0)) ∧ xs.length ≤ cap ∧ cap ≤ maxLen ∧ cur.size = cap * sz ∧ cur.toList.take (xs.length * sz) = ys := by
    rcases h3.2 with ⟨q, _⟩ | q
    · rw [h1] at q; cases q
    · exact q
  rw [h1] at h5
  simp only [Value.slice.injEq, Option.some.injEq, Addr.mk.injEq, and_true] at h5
  obtain ⟨rfl, _, rfl⟩ := h5
  cases hinf : E.P.info? t with
  | none => have := ht.ok; rw [hinf] at this; cases this
  | some inf =>
    have hsz : inf.size = sz := by have := ht.ok; rw [hinf] at this; simpa using this
    have hzl : (a.eval y).cells.size = sz := by have := (hc.rep hzr).length; simp at this; omega
    have hend : i * sz + sz ≤ xs.length * sz := by
      rw [show i * sz + sz = (i + 1) * sz by rw [Nat.add_mul]; omega]
      exact Nat.mul_le_mul_right _ (by omega)
    have hend2 : xs.length * sz ≤ cur.size := by rw [h10]; exact Nat.mul_le_mul_right _ h8
    have hst := run_storeCells_at E.P b (i * sz) e (a.eval y).cells.toList 0 cur w h7 (by simp; omega) (hzr.one)
    simp only [Nat.add_zero] at hst
    have hlen : (a.eval y).cells.toList.length = sz := by simpa using hzl
    have hbn : hb (β n).v = some b := by rw [h1]; rfl
    have hH : ∀ m e' sz' sh' xs' k', look m ((n, Ob.row e sz false (xs.set i z) k) :: S.H) = some (.row e' sz' sh' xs' k') → ∃ sh' xs', look m S.H = some (.row e' sz' sh' xs' k') := fun m e' sz' sh' xs' k' hm => by
      rw [look_set] at hm
      split at hm
      · rename_i eq
        subst eq
        cases hm
        exact ⟨false, xs, hl⟩
      · exact ⟨sh', xs', hm⟩
    refine ⟨_, ?_, β, h.turn (w' := w.setRow b (cur.toList.take (i * sz) ++ (a.eval y).cells.toList ++ cur.toList.drop (i * sz + (a.eval y).cells.toList.length)).toArray) hl (fun _ _ => rfl) rfl rfl rfl (by simp) (fun k _ hk => setRow_other w b k _ (fun e => hk (by rw [hbn, e]))) (fun b h => .inl h) (fun b' o' y h4 h5 _ => absurd (.inl rfl) h5) (fun _ _ _ _ _ => .inl rfl)
      (fun k t x v _ => RepV.keep k (fun _ => rfl) hH x v) (fun _ => rfl) (fun k m cs vs _ _ => RepL.keep k (fun _ => rfl) hH _ vs) (fun kp => ?_)⟩
    · simp only [Nat.add_zero] at h2
      simp [execOp, h2, Instr.storeAt, Instr.sureAddr, storeVar, run_size hinf, hsz, hzl, hst]
    · refine ⟨ys.take (i * sz) ++ (a.eval y).cells.toList ++ ys.drop (i * sz + sz), ⟨?_, .inr ⟨b, c, _, ?_, h6, setRow_heap w b _ _ e _ h7, by rw [List.length_set]; exact h8, h9, ?_, ?_⟩⟩, repE_set hzl (RepD.keep kp _ _ hzr) (RepE.keep kp _ _ _ h4) hi⟩
      · have := h4.length
        simp only [List.length_append, List.length_take, List.length_drop, List.length_set, hlen, this]
        omega
      · rw [List.length_set]
        rw [h1]
        congr 1
      · simp only [List.size_toArray, List.length_append, List.length_take, List.length_drop, Array.length_toList, hlen]
        omega
      · rw [← h11, List.length_set, hlen]
        have hl1 : (cur.toList.take (i * sz)).length = i * sz := by simp; omega
        rw [List.append_assoc, List.take_append, hl1, List.take_of_length_le (by omega), List.take_append, hlen, List.take_of_length_le (l := (a.eval y).cells.toList) (by omega), List.append_assoc, List.take_take, Nat.min_eq_left (by omega)]
        congr 2
        rw [List.drop_take]
        congr 1
        omega
theorem s_store_el {t n k i e sz : Nat} {x y : Operand} {v : V} {z : D} {xs zs : List D} [ht : TSize E.P t sz] (hx : Sd.ev ⟨env, H, gl⟩ x = some (.el n k i 0)) (hox : okOp x = true) (hl : look n H = some (.row e sz false xs k)) (hy : Sd.ev ⟨env, H, gl⟩ y = some v) (hoy : okOp y = true) (hz : ToD H v z) (hc : CellsD z zs) (hm : zs.length = sz) (hi : i < xs.length)
    (hg : Sd.gd ⟨env, H, gl⟩ ops ⟨none, .store t x y, ty, pos, af, gd⟩ = some true) (hw : isBar draw way = true)
    (h : TR E draw ops Q rest ⟨env, (n, .row e sz false (xs.set i z) k) :: H, gl⟩) : TR E draw ops Q (.step ⟨none, .store t x y, ty, pos, af, gd⟩ way rest) ⟨env, H, gl⟩ := tr_turn (t_store_el hx hox hl hy hoy hz hc hm hi) rfl hg rfl hw h
end
end
section
section
variable {E : Set} {Q : Exit → Sd → Prop} {ops : Array Oper} {draw : Bool} {rest : Todo} {way : Way3} {ty : TypeId} {pos : String} {af : Array Edge} {gd : Option (Nat × Bool)} {dst : Option Tmp}
variable {env : List (Nat × V)} {H : List (Nat × Ob)} {gl : List (Nat × List D)} {d : Nat}
theorem run_index_arr {P : Program} {t m e sz : Nat} (ht : TArray P t m e sz) {b o i : Nat} {k : IntKind} (hi : i < m) (w : World) : (Instr.indexAt t (.pointer (some ⟨b, o, none⟩)) (.int k (i : Nat))).run P w = .ok (.pointer (some ⟨b, o + i * sz, none⟩)) w := by
  obtain ⟨ie, hu, hie, hs, _⟩ := array_parts ht
  have h1 : (i : Int) < (m : Int) := by omega
  have h2 : ¬ m ≤ i := by omega
  simp [Instr.indexAt, asIntOf, run_underlying hu, h1, h2, run_size hie, hs, add_flat, Instr.sureAddr, hi]
theorem q_index_arr {S : Sd} {t m e sz i n off : Nat} {x y : Operand} {k : IntKind} {p : Int} [ht : TArray E.P t m e sz] (hx : S.ev x = some (.ptr n off)) (hy : S.ev y = some (.d (.int k p))) (hox : okOp x = true) (hoy : okOp y = true) (hi : p = (i : Nat)) (hm : i < m) :
    Swift E S ⟨dst, .indexAddr t x y, ty, pos, af, gd⟩ (.ptr n (off + i * sz)) := Swift.mk fun β a w h => by
  subst hi
  obtain ⟨b, h1, h2⟩ := h.ev hx hox
  have h3 : a.eval y = .int k (i : Nat) := h.ev hy hoy
  refine ⟨.pointer (some ⟨b, off + i * sz, none⟩), fun w' _ => ?_, b, h1, rfl⟩
  simp [execOp, h2, h3, run_index_arr ht hm]
theorem q_index_sl {S : Sd} {t e i n off l c : Nat} {x y : Operand} {k : IntKind} {p : Int} [ht : TSlice E.P t e 1] (hx : S.ev x = some (.sl n off l c)) (hy : S.ev y = some (.d (.int k p))) (hox : okOp x = true) (hoy : okOp y = true) (hi : p = (i : Nat)) (hm : i < l) :
    Swift E S ⟨dst, .indexAddr t x y, ty, pos, af, gd⟩ (.ptr n (off + i)) := Swift.mk fun β a w h => by
  subst hi
  obtain ⟨b, h1, h2⟩ := h.ev hx hox
  have h3 : a.eval y = .int k (i : Nat) := h.ev hy hoy
  refine ⟨.pointer (some ⟨b, off + i, none⟩), fun w' _ => ?_, b, h1, rfl⟩
  have := run_indexAt (P := E.P) ht (b := b) (o := off) (n := l) (c := c) (k := k) hm w'
  rw [Nat.mul_one] at this
  simp [execOp, h2, h3, this]
theorem q_len_sl {S : Sd} {t e sz n off l c : Nat} {x : Operand} [ht : TSlice E.P t e sz] (hx : S.ev x = some (.sl n off l c)) (hox : okOp x = true) : Swift E S ⟨dst, .call { callee := .builtin .len, args := #[x], argTypes := #[t] }, ty, pos, af, gd⟩ (.d (.int .i64 (l : Nat))) := Swift.mk fun β a w h => by
  obtain ⟨ie, hu, _⟩ := slice_parts ht
  obtain ⟨b, h1, h2⟩ := h.ev hx hox
  refine ⟨.int .i64 (l : Nat), fun w' _ => ?_, rfl⟩
  simp [execOp, resolve, invoke, builtin, h2, Builtin.len_, goInt, run_underlying hu]
theorem g_makeBox {S : Sd} {n t e m : Nat} {k : IntKind} {x : Operand} {v : V} [ht : TSlice E.P t e 1] [hz : TZero E.P e [v]] (hx : S.ev x = some (.d (.int k (m : Nat)))) (hox : okOp x = true) (hm : m ≤ 1000000000) (hn : S.fresh n = true) (hs : saysL n (List.replicate m v) = false) :
    Grow E S ⟨some d, .makeSlice t x x, ty, pos, af, gd⟩ { S with H := (n, .box (List.replicate m v)) :: S.H } (.sl n 0 m m) := Grow.mk fun β a w h => by
  obtain ⟨bytes, ⟨i, z', hu, hi, hz', hs', hby, hzs, hpos⟩, hbl⟩ := slice_elem ht
  obtain ⟨i2, z2, hi2, hz2, hzr, hz3⟩ := zero_parts hz
  rw [hi] at hi2
  cases hi2
  rw [hz'] at hz2
  cases hz2
  have h1 : a.eval x = .int k (m : Nat) := h.ev hx hox
  have hb' : ¬ ((i.bytes : Int) * (m : Int) > 281474976710656) := by
    rw [hby]
    have := Nat.mul_le_mul hbl hm
    omega
  have hmw : IntKind.i64.wrap (m : Int) = (m : Int) := by rw [IntKind.wrap_i64]; omega
  have hroom : True := trivial
  obtain ⟨w', h2, h3, h4⟩ := run_make_full (P := E.P) w 0 t e i z' 1 hu hi hz' hs' k k m (by rw [hby]; have := Nat.mul_le_mul hbl hm; omega) (by unfold maxLen; omega) (Nat.zero_le _)
  have g : Grows w w' := (Below.refl _ _).grown h4 (Nat.le_refl _) (fun k hk => by cases hk)
  obtain ⟨u, hzc⟩ : ∃ u, z'.cells.toList = [u] := List.length_eq_one_iff.1 (by simpa using hzs)
  have hcell : ∀ {w : World} {M : Nat → Nat → Prop} {β : Nat → Hd} {H : List (Nat × Ob)}, RepV w M β H v u := fun {w M β H} => by
    rw [hzc] at hzr
    have := zeroRep_rep (w := w) (M := M) (β := β) (H := H) hzr
    obtain ⟨u', r, e, h5, _⟩ := this
    cases e
    exact h5
  have hcells : (madeCells z'.cells (m * 1)).toList = List.replicate m u := by
    apply List.ext_getElem?
    intro j
    simp only [madeCells, Array.toList_map, Array.toList_range, List.getElem?_map, Nat.mul_one]
    by_cases hj : j < m
    · rw [List.getElem?_range hj, List.getElem?_replicate, if_pos hj]
      simp only [Option.map_some]
      rw [getElem!_pos z'.cells _ (by rw [hzs]; exact Nat.mod_lt _ (by omega))]
      have : z'.cells[j % z'.cells.size]'(by rw [hzs]; exact Nat.mod_lt _ (by omega)) = u := by
        have h6 : z'.cells.toList[j % z'.cells.size]? = some u := by rw [hzc, hzs, Nat.mod_one]; rfl
        rw [Array.getElem?_toList] at h6
        rw [Array.getElem?_eq_getElem (by rw [hzs]; exact Nat.mod_lt _ (by omega))] at h6
        exact Option.some.inj h6
      rw [this]
    · rw [List.getElem?_eq_none (by simp; omega), List.getElem?_eq_none (by simp; omega)]; rfl
  rw [hcells] at h3
  obtain ⟨cur, q1, q2⟩ : ∃ cur, w'.heap[w.heap.size]? = some (.cells cur e (0, 0)) ∧ cur.toList = List.replicate m u := by
    rcases h3.2 with ⟨q, _⟩ | ⟨g', cap, cur, q, _, q1, _, _, q3, q4⟩
    · cases q
    · simp only [Value.slice.injEq, Option.some.injEq, Addr.mk.injEq, and_true, true_and] at q
      obtain ⟨rfl, rfl⟩ := q
      refine ⟨cur, q1, ?_⟩
      rw [← q4, List.take_of_length_le (by simp; omega)]
  have hv : StB E.C (upd β n (.pointer (some ⟨w.heap.size, 0, none⟩))) { S with H := (n, .box (List.replicate m v)) :: S.H } a w' := by
    refine h.newObj hn (.pointer (some ⟨w.heap.size, 0, none⟩)) g (fun b hb' => ?_) (.box _) fun kp => ⟨w.heap.size, List.replicate m u, e, rfl, ?_, ?_⟩
    · simp only [hb, Option.some.injEq] at hb'
      omega
    · rw [q1, ← q2]
    · have : ∀ j, RepL w' (Mut E.C.M0 (upd β n (.pointer (some ⟨w.heap.size, 0, none⟩))) ((n, .box (List.replicate m v)) :: S.H)) (upd β n (.pointer (some ⟨w.heap.size, 0, none⟩))) ((n, .box (List.replicate m v)) :: S.H) (List.replicate j v) (List.replicate j u) := fun j => by
        induction j with
        | zero => rfl
        | succ j ih => exact ⟨u, _, rfl, hcell, ih⟩
      exact this m
  refine ⟨_, w', _, ?_, g, hv, w.heap.size, upd_v _ _ _, rfl⟩
  simp only [execOp, h1, Sem.run_bind, h2, Result.andThen_ok, Sem.run_pure]
theorem s_makeBox (n m : Nat) {t e : Nat} {k : IntKind} {x : Operand} {v : V} [ht : TSlice E.P t e 1] [hz : TZero E.P e [v]] (hx : Sd.ev ⟨env, H, gl⟩ x = some (.d (.int k (m : Nat)))) (hox : okOp x = true) (hm : m ≤ 1000000000) (hn : Sd.fresh ⟨env, H, gl⟩ n = true) (hs : saysL n (List.replicate m v) = false) (hd : d < E.C.nt)
    (hg : Sd.gd ⟨env, H, gl⟩ ops ⟨some d, .makeSlice t x x, ty, pos, af, gd⟩ = some true) (hw : way.loud = true) (h : TR E draw ops Q rest ⟨(d, .sl n 0 m m) :: env, (n, .box (List.replicate m v)) :: H, gl⟩) :
    TR E draw ops Q (.step ⟨some d, .makeSlice t x x, ty, pos, af, gd⟩ way rest) ⟨env, H, gl⟩ := tr_grow (g_makeBox hx hox hm hn hs) rfl hd hg rfl hw h
theorem StB.row_shape {C : Ctx} {S : Sd} {β : Nat → Hd} {a : Act} {w : World} (h : StB C β S a w) {n e sz k : Nat} {sh : Bool} {xs : List D} (hl : look n S.H = some (.row e sz sh xs k)) : ∃ ad c, (β n).v = .slice ad xs.length c ∧ xs.length ≤ c ∧ (ad = none → c = 0) ∧ (∀ p, ad = some p → ∃ b, p = ⟨b, 0, none⟩) := by
  obtain ⟨ys, h1, _⟩ := h.obs n _ hl
  rcases h1.2 with ⟨q1, q2⟩ | ⟨g, cap, cur, q, _, _, q3, _⟩
  · exact ⟨none, 0, by rw [q1, q2], by omega, fun _ => rfl, fun p hp => by cases hp⟩
  · exact ⟨_, cap, q, q3, (fun e => by cases e), fun p hp => by cases hp; exact ⟨_, rfl⟩⟩
theorem tc_suf {c : Code} {t n k e sz : Nat} {sh : Bool} {xs : List D} (hl : look t env = some (.own n k)) (hn : look n H = some (.row e sz sh xs k)) (h : TC E c Q ⟨(t, .suf n k 0) :: env, H, gl⟩) : TC E c Q ⟨env, H, gl⟩ := fun a w ⟨β, hB⟩ => by
  refine h a w ⟨β, { hB with env := fun s v hs => ?_ }⟩
  dsimp only at hs
  rw [look_cons] at hs
  split at hs
  · rename_i e'
    subst e'
    cases hs
    obtain ⟨x, h2, h3⟩ := hB.env t _ hl
    refine ⟨x, h2, fun e1 sz1 sh1 xs1 hl1 => ?_⟩
    obtain ⟨ad, c, h4, h5, h6, h7⟩ := hB.row_shape hl1
    refine ⟨ad, xs1.length, c, ad, h4, Nat.zero_le _, ?_, fun _ => ?_, Iff.rfl⟩
    · rw [h3 e1 sz1 sh1 xs1 hl1, h4]
      rfl
    · cases ad with
      | none => rfl
      | some p =>
        obtain ⟨b, rfl⟩ := h7 p rfl
        simp [add_flat]
  · exact hB.env s v hs
theorem run_slice_lo {P : Program} {t e sz : Nat} (ht : TSlice P t e sz) (a : Option Addr) (n c l : Nat) (k : IntKind) (hl : l ≤ n) (w : World) : (Instr.slice t (.slice a n c) (some (.int k (l : Nat))) none none).run P w = .ok (sliced a l n c sz) w := by
  obtain ⟨ie, hu, hie, hs, hpos⟩ := slice_parts ht
  have hb : (Instr.sliceBounds true n c (some (.int k (l : Nat))) none none).run P w = .ok (l, n, c) w := by
    have : (l : Int) ≤ (n : Int) := by omega
    simp [Instr.sliceBounds, Instr.sliceBound, asIntOf, this, show ¬ n < l by omega]
  simp [run_underlying hu, Instr.slice, hb, run_size hie, hs, sliced]
theorem q_slice_suf {S : Sd} {t e sz n k p l e' : Nat} {sh : Bool} {xs : List D} {x lo : Operand} {li : IntKind} {lv : Int} [ht : TSlice E.P t e sz] (hx : S.ev x = some (.suf n k p)) (hox : okOp x = true) (hl : look n S.H = some (.row e' sz sh xs k)) (hlo : S.ev lo = some (.d (.int li lv))) (hol : okOp lo = true) (el : lv = (l : Nat)) (hlm : p + l ≤ xs.length) :
    Swift E S ⟨dst, .slice t x (some lo) none none, ty, pos, af, gd⟩ (.suf n k (p + l)) := Swift.mk fun β a w h => by
  subst el
  obtain ⟨ad, ll, c, ad1, h1, h2, h3, h4, hnn⟩ := h.ev hx hox e' sz sh xs hl
  obtain ⟨ad', c', h4', h5, h6, h7⟩ := h.row_shape hl
  rw [h1] at h4'
  simp only [Value.slice.injEq] at h4'
  obtain ⟨rfl, rfl, rfl⟩ := h4'
  have hv : a.eval lo = .int li (l : Nat) := h.ev hlo hol
  refine ⟨sliced ad1 l (xs.length - p) (c - p) sz, fun w' _ => ?_, fun e2 sz2 sh2 xs2 hl2 => ?_⟩
  · have := run_slice_lo (P := E.P) ht ad1 (xs.length - p) (c - p) l li (by omega) w'
    obtain ⟨ie, hu, _⟩ := slice_parts ht
    simp [execOp, Instr.sliceAt, h3, hv, this, run_underlying hu]
  · rw [hl] at hl2
    cases hl2
    refine ⟨ad, xs.length, c, if c - p = l then ad1 else ad1.map (·.add (l * sz)), h1, hlm, ?_, fun hne => ?_, by rw [← hnn]; split <;> simp⟩
    · unfold sliced
      rw [Nat.sub_sub, Nat.sub_sub]
    · rw [if_neg (by omega), h4 (by omega)]
      cases ad with
      | none => rfl
      | some q =>
        obtain ⟨b, rfl⟩ := h7 q rfl
        simp [add_flat, Nat.add_mul]
theorem q_len_suf {S : Sd} {t e sz n k p e' sz' m : Nat} {sh : Bool} {xs : List D} {x : Operand} [ht : TSlice E.P t e sz] (hx : S.ev x = some (.suf n k p)) (hox : okOp x = true) (hl : look n S.H = some (.row e' sz' sh xs k)) (hm : xs.length - p = m) : Swift E S ⟨dst, .call { callee := .builtin .len, args := #[x], argTypes := #[t] }, ty, pos, af, gd⟩ (.d (.int .i64 (m : Nat))) := Swift.mk fun β a w h => by
  subst hm
  obtain ⟨ie, hu, _⟩ := slice_parts ht
  obtain ⟨ad, ll, c, ad1, h1, h2, h3, _⟩ := h.ev hx hox e' sz' sh xs hl
  obtain ⟨ad', c', h4, h5, h6, h7⟩ := h.row_shape hl
  rw [h1] at h4
  simp only [Value.slice.injEq] at h4
  obtain ⟨rfl, rfl, rfl⟩ := h4
  refine ⟨.int .i64 ((xs.length - p : Nat) : Int), fun w' _ => ?_, rfl⟩
  simp [execOp, resolve, invoke, builtin, h3, Builtin.len_, goInt, run_underlying hu]
theorem q_index_suf {S : Sd} {t e sz i n k' e' p : Nat} {sh : Bool} {x y : Operand} {xs : List D} {k : IntKind} {m : Int} [ht : TSlice E.P t e sz] (hx : S.ev x = some (.suf n k' p)) (hl : look n S.H = some (.row e' sz sh xs k')) (hy : S.ev y = some (.d (.int k m))) (hox : okOp x = true) (hoy : okOp y = true) (hi : m = (i : Nat)) (hz : p + i < xs.length) :
    Swift E S ⟨dst, .indexAddr t x y, ty, pos, af, gd⟩ (.el n k' (p + i) 0) := Swift.mk fun β a w h => by
  subst hi
  obtain ⟨ad, ll, c, ad1, h1, h2, h3, h4, _⟩ := h.ev hx hox e' sz sh xs hl
  obtain ⟨ys, h2', _⟩ := h.obs n _ hl
  have h5 : a.eval y = .int k (i : Nat) := h.ev hy hoy
  rcases h2'.2 with ⟨q1, q2⟩ | ⟨g, cap, cur, q, _, _, q3, _⟩
  · omega
  · rw [h1] at q
    simp only [Value.slice.injEq] at q
    obtain ⟨rfl, rfl, rfl⟩ := q
    have hne : ¬ c = p := by omega
    have h6 : a.eval x = .slice (some ⟨g, p * sz, none⟩) (xs.length - p) (c - p) := by rw [h3, h4 hne]; simp [add_flat]
    refine ⟨.pointer (some ⟨g, (p + i) * sz, none⟩), fun w' _ => ?_, fun e2 sz2 sh2 xs2 hl2 => ?_⟩
    · have := run_indexAt (P := E.P) ht (b := g) (o := p * sz) (n := xs.length - p) (c := c - p) (k := k) (i := i) (by omega) w'
      rw [Nat.add_mul]
      simp [execOp, h6, h5, this]
    · rw [hl] at hl2
      cases hl2
      exact ⟨g, _, c, h1, rfl⟩
end
end
section
theorem StB.moved {C : Ctx} {β : Nat → Hd} {S : Sd} {a : Act} {w w' : World} (h : StB C β S a w) {n e sz k : Nat} {sh : Bool} {xs zs : List D} (hl : look n S.H = some (.row e sz sh xs k)) {v' : Value} {news : List Value}
    (hown : w'.ownsRow 0 e sz v' zs.length news) (hz : RepE w (Mut C.M0 β S.H) sz zs news) (hnew : ∀ b, v'.ownBlock = some b → w.heap.size ≤ b) (hg : w.grownBy w' none) (k' : Nat) (hk : max (topE S.env) (topO S.H) ≤ k') (hN : C.N.contains n = false) :
    StB C (upd β n v') { S with H := (n, .row e sz true zs k') :: S.H } a w' := by
  have hbn := hb_row hown
  have hsl0 : ∃ a n' c, (β n).v = .slice a n' c := by
    obtain ⟨ys, h1, _⟩ := h.obs n _ hl
    obtain ⟨a, c, e, _⟩ := owns_shape h1
    exact ⟨a, _, c, e⟩
  have hH : ∀ m, m ≠ n → look m ((n, Ob.row e sz true zs k') :: S.H) = look m S.H := fun m hm => by rw [look_set, if_neg (Ne.symm hm)]
  have hq : ∀ e' sz' sh' xs' k'', look n ((n, Ob.row e sz true zs k') :: S.H) = some (.row e' sz' sh' xs' k'') → max (topE S.env) (topO S.H) ≤ k'' := fun e' sz' sh' xs' k'' h1 => by
    rw [look_set, if_pos rfl] at h1
    cases h1
    exact hk
  refine h.turn hl (fun m hm => upd_other β n v' hm) hg.os hg.tape hg.output hg.size (fun q hq _ => hg.block q hq (by simp)) (fun b hb' => ?_) (fun b o y hb' hm hc => ?_) (fun b o h1 h2 h3 => ?_)
    (fun kp t x v hx hv => RepV.bump kp (fun m hm => upd_other β n v' hm) hsl0 hH hq x v (by have := topE_look hx; omega) hv)
    (fun hm => absurd hm (by simpa using hN))
    (fun kp m cs vs _ hm hv => RepL.bump kp (fun m hm => upd_other β n v' hm) hsl0 hH hq _ vs (by have := topO_look hm; omega) hv) (fun kp => ?_)
  · rw [upd_v, hbn] at hb'
    exact .inr (hnew b hb')
  · rw [← hc]
    exact World.cell?_of_block (hg.block b (h.old hl (.inl hb')) (by simp))
  · rw [upd_v, hbn] at h2
    have := hnew b h2
    have := h.old hl (.inl h1)
    omega
  · rw [upd_same]
    exact ⟨news, hown, RepE.keep kp _ _ _ hz⟩
section
variable {E : Set} {Q : Exit → Sd → Prop} {ops : Array Oper} {draw : Bool} {rest : Todo} {way : Way3} {ty : TypeId} {pos : String} {af : Array Edge} {gd : Option (Nat × Bool)} {dst : Option Tmp}
variable {env : List (Nat × V)} {H : List (Nat × Ob)} {gl : List (Nat × List D)} {d : Nat}
theorem s_append_suf {t e sz n k p : Nat} {s x : Operand} {v : V} {xs ys : List D} [ht : TSlice E.P t e sz] (hs : Sd.ev ⟨env, H, gl⟩ s = some (.suf n k p)) (hos : okOp s = true) (hl : look n H = some (.row e sz true xs k)) (hx : Sd.ev ⟨env, H, gl⟩ x = some v) (hox : okOp x = true) (hy : ToD H v (.list sz ys))
    (hpos : 0 < ys.length) (hlen : xs.length + ys.length ≤ 100000000000) (hN : E.C.N.contains n = false) (hd : d < E.C.nt) (hg : Sd.gd ⟨env, H, gl⟩ ops ⟨some d, .call { callee := .builtin .append, args := #[s, x], argTypes := #[t, t] }, ty, pos, af, gd⟩ = some true) (hw : isBar draw way = true)
    (h : ∀ xs' p' k', xs'.drop p' = xs.drop p ++ ys → p' ≤ xs'.length → xs'.length ≤ xs.length + ys.length → TR E draw ops Q rest ⟨(d, .suf n k' p') :: env, (n, .row e sz true xs' k') :: H, gl⟩) :
    TR E draw ops Q (.step ⟨some d, .call { callee := .builtin .append, args := #[s, x], argTypes := #[t, t] }, ty, pos, af, gd⟩ way rest) ⟨env, H, gl⟩ := by
  have key : ∀ β a w, StB E.C β ⟨env, H, gl⟩ a w → ∃ r w' β' xs' p' k', (execOp a.eval ⟨some d, .call { callee := .builtin .append, args := #[s, x], argTypes := #[t, t] }, ty, pos, af, gd⟩).run E.P w = .ok (.value r) w' ∧ xs'.drop p' = xs.drop p ++ ys ∧ p' ≤ xs'.length ∧ xs'.length ≤ xs.length + ys.length ∧
      StB E.C β' ⟨env, (n, .row e sz true xs' k') :: H, gl⟩ a w' ∧ RepV w' (Mut E.C.M0 β' ((n, .row e sz true xs' k') :: H)) β' ((n, .row e sz true xs' k') :: H) (.suf n k' p') r := fun β a w hB => by
    obtain ⟨bytes, he, hby⟩ := slice_elem ht
    have he' := he
    obtain ⟨i, z, hu, hi, hz, hsize, hbytes, hzs, hps⟩ := he'
    obtain ⟨ad, ll, c, ad1, h1, h2, h3, h4, hnn⟩ := hB.ev hs hos e sz true xs hl
    obtain ⟨olds, h5, h6⟩ := hB.obs n _ hl
    obtain ⟨xa, xc, news, q1, q2, q4, q3, q5, q6⟩ := hy.rep hB (hB.ev hx hox)
    have hnl : news.length = ys.length * sz := q5.length
    obtain ⟨bx, ox, hxa⟩ : ∃ b o, xa = some ⟨b, o, none⟩ := by
      have : 0 < news.length := by rw [hnl]; exact Nat.mul_pos hpos hps
      obtain ⟨b, o, e1, _, _⟩ := q6 0 news[0] (by simp [this])
      exact ⟨b, o, e1⟩
    subst hxa
    have hrd : ∀ j u, news[j]? = some u → w.cell? ((⟨bx, ox, none⟩ : Addr).add j) = some u := fun j u hj => by
      obtain ⟨b, o, e1, _, e2⟩ := q6 j u hj
      cases e1
      rw [add_flat]
      exact e2
    have hmul : ∀ m, m ≤ 100000000000 → m * bytes ≤ 140737488355328 := fun m hm => Nat.le_trans (Nat.mul_le_mul hm hby) (by omega)
    rcases h5.2 with ⟨r1, r2⟩ | ⟨g, cap, cur, r1, _, r2, r3, r4, r5, r6⟩
    · -- the row is nil
      have hx0 : xs = [] := List.eq_nil_of_length_eq_zero r2
      subst hx0
      rw [h1] at r1
      simp only [Value.slice.injEq] at r1
      obtain ⟨rfl, rfl, rfl⟩ := r1
      have hp0 : p = 0 := by omega
      subst hp0
      have ho0 : olds = [] := List.eq_nil_of_length_eq_zero (by rw [h5.1]; simp)
      subst ho0
      obtain ⟨v', w', k1, k2, k3⟩ := run_app (P := E.P) (ty := ty) w he h5 (xa := some ⟨bx, ox, none⟩) (m := ys.length) (xc := xc) (news := news) hnl (fun j u hj => by obtain ⟨b, o, e1, _, e2⟩ := q6 j u hj; exact ⟨b, o, e1, e2⟩) q3 q2 q5.one (by simp at hlen ⊢; omega) hby
      have hap := hB.append hl h5 h6 q5 k2 k3 _ (Nat.le_refl _) hN
      have hs0 : a.eval s = (β n).v := by rw [h3, h1, hnn.2 rfl]
      refine ⟨v', w', _, [] ++ ys, 0, _, run_append_op (by rw [hs0, q1]; exact k1), by simp, Nat.zero_le _, by simp, hap, fun e1 sz1 sh1 xs1 hl1 => ?_⟩
      rw [look_set, if_pos rfl] at hl1
      cases hl1
      obtain ⟨a9, c9, e9, _⟩ := owns_shape k2
      have ha9 : ∀ q, a9 = some q → ∃ b, q = ⟨b, 0, none⟩ := fun q hq => by
        rcases k2.2 with ⟨f1, _⟩ | ⟨g9, cap9, cur9, f1, _⟩
        · rw [e9] at f1; simp only [Value.slice.injEq] at f1; rw [f1.1] at hq; cases hq
        · rw [e9] at f1
          simp only [Value.slice.injEq] at f1
          rw [f1.1] at hq
          cases hq
          exact ⟨_, rfl⟩
      refine ⟨a9, _, c9, a9, by rw [upd_v]; exact e9, Nat.zero_le _, by rw [e9]; rfl, fun _ => ?_, Iff.rfl⟩
      cases a9 with
      | none => rfl
      | some q =>
        obtain ⟨b, rfl⟩ := ha9 q rfl
        simp [add_flat]
    · rw [h1] at r1
      simp only [Value.slice.injEq] at r1
      obtain ⟨rfl, rfl, rfl⟩ := r1
      obtain ⟨b1, rfl⟩ : ∃ b1, ad1 = some b1 := by
        cases ad1 with
        | none => have := hnn.1 rfl; cases this
        | some b1 => exact ⟨b1, rfl⟩
      by_cases hroom : xs.length + ys.length ≤ c
      · -- in the row's own block
        have hne : c ≠ p := by omega
        have hb1 : b1 = ⟨g, p * sz, none⟩ := by have := h4 hne; simpa [add_flat] using this
        subst hb1
        obtain ⟨w', k1, k2, k3⟩ := run_append_fits (P := E.P) w 0 t ty e i sz hu hi hsize g xs.length c olds (by rw [← h1]; exact h5) ⟨bx, ox, none⟩ ys.length xc news hnl hrd q5.one hroom
        have hcell : ∀ j, j < news.length → (w.cell? ⟨g, xs.length * sz + j, none⟩).isSome = true := fun j hj => by
          have : xs.length * sz + j < cur.size := by
            rw [r5]
            rw [hnl] at hj
            have : (xs.length + ys.length) * sz ≤ c * sz := Nat.mul_le_mul_right _ hroom
            rw [Nat.add_mul] at this
            omega
          simp [World.cell?, r2, this]
        have hfz : ∀ j, j < news.length → w.frozen? ⟨g, xs.length * sz + j, none⟩ = false := fun j hj => by simp [World.frozen?, r2]
        have k4 := run_append_room_cells (P := E.P) w t ty e i hu hi g 0 xs.length c ⟨bx, ox, none⟩ ys.length xc news (by rw [hsize]; exact hnl) hrd q5.one hroom (by rw [hsize]; intro j hj; rw [Nat.zero_add]; exact hcell j hj) (by rw [hsize]; intro j hj; rw [Nat.zero_add]; exact hfz j hj)
        have e0 : p * sz + (xs.length - p) * sz = xs.length * sz := by rw [← Nat.add_mul]; congr 1; omega
        have k5 := run_append_room_cells (P := E.P) w t ty e i hu hi g (p * sz) (xs.length - p) (c - p) ⟨bx, ox, none⟩ ys.length xc news (by rw [hsize]; exact hnl) hrd q5.one (by omega) (by rw [hsize, e0]; exact hcell) (by rw [hsize, e0]; exact hfz)
        rw [k1] at k4
        simp only [Result.ok.injEq, hsize, Nat.zero_add] at k4
        rw [hsize, e0, ← k4.2] at k5
        have hap := hB.append hl h5 h6 q5 k2 (.inl ⟨by rw [h1]; rfl, by rw [h1]; exact k3⟩) _ (Nat.le_refl _) hN
        refine ⟨_, w', _, xs ++ ys, p, _, run_append_op (by rw [h3, q1]; exact k5), by rw [List.drop_append_of_le_length h2], by simp; omega, by simp, hap, fun e1 sz1 sh1 xs1 hl1 => ?_⟩
        rw [look_set, if_pos rfl] at hl1
        cases hl1
        refine ⟨some ⟨g, 0, none⟩, _, c, some ⟨g, p * sz, none⟩, by rw [upd_v], by omega, ?_, fun _ => by simp [add_flat], by simp⟩
        congr 1
        omega
      · -- in a new one
        have hod : (olds.drop (p * sz)).length = (xs.length - p) * sz := by rw [List.length_drop, h5.1, Nat.sub_mul]
        have hold : ∀ j u, (olds.drop (p * sz))[j]? = some u → w.cell? (b1.add j) = some u := fun j u hj => by
          have hjl : j < (olds.drop (p * sz)).length := (List.getElem?_eq_some_iff.1 hj).1
          have hne : c ≠ p := by
            rintro rfl
            have : xs.length - c = 0 := by omega
            rw [hod, this] at hjl
            omega
          have hb1 : b1 = ⟨g, p * sz, none⟩ := by have := h4 hne; simpa [add_flat] using this
          subst hb1
          rw [List.getElem?_drop] at hj
          have := h5.cells (g := g) (by rw [h1]; rfl) _ u hj
          rw [add_flat, Nat.zero_add] at this
          rw [add_flat]
          exact this
        obtain ⟨v', w', k1, k2, k3⟩ := run_append_arg_grows (P := E.P) w t ty e i z sz bytes hu hi hz hsize hbytes hzs hps b1 (xs.length - p) (c - p) (olds.drop (p * sz)) hod hold ⟨bx, ox, none⟩ ys.length xc news hnl hrd (by omega) (by unfold maxLen; omega) (hmul _ (by omega))
        have hz' : RepE w (Mut E.C.M0 β H) sz (xs.drop p ++ ys) (olds.drop (p * sz) ++ news) := (RepE.drop p h6 h2).append q5
        have hlen' : (xs.drop p ++ ys).length = xs.length - p + ys.length := by simp
        have hmv := hB.moved hl (owns_mono (by rw [hlen']; exact k2) (Nat.zero_le _)) hz' (fun b hb' => (k2.lt b hb').1) k3 _ (Nat.le_refl _) hN
        refine ⟨v', w', _, xs.drop p ++ ys, 0, _, run_append_op (by rw [h3, q1]; exact k1), by simp, Nat.zero_le _, by simp, hmv, fun e1 sz1 sh1 xs1 hl1 => ?_⟩
        rw [look_set, if_pos rfl] at hl1
        cases hl1
        obtain ⟨a9, c9, e9, _⟩ := owns_shape k2
        have ha9 : ∀ q, a9 = some q → ∃ b, q = ⟨b, 0, none⟩ := fun q hq => by
          rcases k2.2 with ⟨f1, _⟩ | ⟨g9, cap9, cur9, f1, _⟩
          · rw [e9] at f1; simp only [Value.slice.injEq] at f1; rw [f1.1] at hq; cases hq
          · rw [e9] at f1
            simp only [Value.slice.injEq] at f1
            rw [f1.1] at hq
            cases hq
            exact ⟨_, rfl⟩
        refine ⟨a9, _, c9, a9, by rw [upd_v]; exact e9, Nat.zero_le _, by rw [e9]; rfl, fun _ => ?_, Iff.rfl⟩
        cases a9 with
        | none => rfl
        | some q =>
          obtain ⟨b, rfl⟩ := ha9 q rfl
          simp [add_flat]
  intro a w hS
  have hS0 := hS
  have key2 : ∀ w1, Grows w w1 → ∀ K : Act → World → Prop, (∀ xs' p' k' a2 w2, xs'.drop p' = xs.drop p ++ ys → p' ≤ xs'.length → xs'.length ≤ xs.length + ys.length → St E.C ⟨(d, .suf n k' p') :: env, (n, .row e sz true xs' k') :: H, gl⟩ a2 w2 → K a2 w2) → Oper.wp E.P ⟨some d, .call { callee := .builtin .append, args := #[s, x], argTypes := #[t, t] }, ty, pos, af, gd⟩ a w1 K (Qof E.C Q) := fun w1 g K hK => by
    obtain ⟨β, hB⟩ := hS.later g
    obtain ⟨r, w', β', xs', p', k', h1, h2, h3, h4, h5, h6⟩ := key β a w1 hB
    exact wp_value h1 (hK xs' p' k' _ _ h2 h3 h4 ⟨β', h5.put hd h6⟩)
  cases draw with
  | true =>
    dsimp only
    cases way with
    | pure => cases hw
    | quiet => cases hw
    | grow => cases hw
    | bar =>
      simp only [wpMix3]
      intro n
      rw [Sd.gd_sound hS0 hg, if_pos rfl]
      exact key2 n.w n.grows _ fun xs' p' k' a2 w2 q1 q2 q3 hs2 => h xs' p' k' q1 q2 q3 _ _ hs2
  | false => exact listIn_of_wp hS0 hg rfl fun K hK => key2 w (Grows.refl w) K fun xs' p' k' a2 w2 q1 q2 q3 hs2 => hK _ _ (h xs' p' k' q1 q2 q3 _ _ hs2)
end
end
end Go.Proofs.YtjhbglklcddekaaGreatDoor
