/- Parts: D38, D39, D40, D41, D43. -/
import Derived.Test.YtjhbglklcddekaaGreatDoorQ16
import Derived.Scope
set_option linter.all false
set_option maxRecDepth 100000
set_option maxHeartbeats 16000000
namespace Go.Proofs.YtjhbglklcddekaaGreatDoor
open Go.RowKit Go.Proofs.Tryz
section
def isSliceT (P : Program) (t : TypeId) : Bool := match P.underlying t with | some (.slice _) => true | _ => false
section
variable {E : Set} {S : Sd} {dst : Option Tmp} {ty : TypeId} {pos : String} {af : Array Edge} {gd : Option (Nat × Bool)}
theorem q_index_sln {t e sz i n off l c : Nat} {x y : Operand} {k : IntKind} {p : Int} [ht : TSlice E.P t e sz] (hx : S.ev x = some (.sl n off l c)) (hy : S.ev y = some (.d (.int k p))) (hox : okOp x = true) (hoy : okOp y = true) (hi : p = (i : Nat)) (hm : i < l) :
    Swift E S ⟨dst, .indexAddr t x y, ty, pos, af, gd⟩ (.ptr n (off + i * sz)) := Swift.mk fun β a w h => by
  subst hi
  obtain ⟨b, h1, h2⟩ := h.ev hx hox
  have h3 : a.eval y = .int k (i : Nat) := h.ev hy hoy
  refine ⟨.pointer (some ⟨b, off + i * sz, none⟩), fun w' _ => ?_, b, h1, rfl⟩
  have := run_indexAt (P := E.P) ht (b := b) (o := off) (n := l) (c := c) (k := k) hm w'
  simp [execOp, h2, h3, this]
theorem q_slice_arr {t m e sz n off : Nat} {x : Operand} [ht : TArray E.P t m e sz] (hx : S.ev x = some (.ptr n off)) (hox : okOp x = true) : Swift E S ⟨dst, .slice t x none none none, ty, pos, af, gd⟩ (.sl n off m m) := Swift.mk fun β a w h => by
  obtain ⟨b, h1, h2⟩ := h.ev hx hox
  obtain ⟨ie, hu, hie, hs, _⟩ := array_parts ht
  refine ⟨.slice (some ⟨b, off, none⟩) m m, fun w' _ => ?_, b, h1, rfl⟩
  have hb : (Instr.sliceBounds false m m none none none).run E.P w' = .ok (0, m, m) w' := rfl
  simp [execOp, Instr.sliceAt, h2, run_underlying hu, Instr.sureAddr, hb, run_size hie, hs, add_flat]
theorem q_load_hbox {t : Nat} {x : Operand} {n off e sz i : Nat} {xs : List D} {cs : List V} {v : V} [ht : TCell E.P t] (hx : S.ev x = some (.ptr n off)) (hox : okOp x = true) (hl : look n S.H = some (.hbox e sz xs i cs)) (hc : cs[off]? = some v) (hne : Nat.beq i off = false) : Quiet E S ⟨dst, .load t x, ty, pos, af, gd⟩ v := Quiet.mk fun β a w h => by
  obtain ⟨b, h1, h2⟩ := h.ev hx hox
  obtain ⟨b', vs, u0, t', ys, h3, h4, h5, h6, h7, h8, h9, h10⟩ := h.obs n _ hl
  rw [h1] at h3
  cases h3
  obtain ⟨u, h11, h12⟩ := h10.get hc
  have hio : i ≠ off := fun e => by subst e; simp at hne
  refine ⟨u, fun w' g => ?_, h12⟩
  have h13 : (vs.set i u0)[off]? = some u := by rw [List.getElem?_set_ne hio]; exact h11
  have := loadAt_cell ht (box_cell (grows_heap g h4) h13)
  simp [execOp, h2, this]
theorem run_slice_eq_nil {P : Program} {xt : TypeId} (hu : isSliceT P xt = true) (p : Option Addr) (n c : Nat) (w : World) : (Op.equal xt (.slice p n c) (.slice none 0 0)).run P w = .ok p.isNone w := by
  unfold isSliceT at hu
  split at hu
  · rename_i e he
    unfold Op.equal
    rw [show Op.maxDepth = 9999 + 1 from rfl, Op.equalIn]
    simp only [Sem.run_bind, run_underlying he, Result.andThen_ok]
    cases p <;> rfl
  · cases hu
theorem k_slice_nil {sz sz' : Nat} {xt yt : TypeId} {x y : Operand} {xs : List D} (hu : isSliceT E.P xt = true) (hx : S.ev x = some (.d (.list sz xs))) (hy : S.ev y = some (.nils sz')) (hox : okOp x = true) (hoy : okOp y = true) (hpos : 0 < sz) :
    SwiftK E S ⟨dst, .binOp .eql xt x y yt, ty, pos, af, gd⟩ (fun _ => S) (fun k => .d (.bool (Nat.beq k 1 && xs.isEmpty))) := SwiftK.mk fun β a w h => by
  obtain ⟨ad, c, ys, h1, h3, h4, h5, h6, h7⟩ := h.ev hx hox
  have h2 : a.eval y = .slice none 0 0 := h.ev hy hoy
  refine ⟨.bool ad.isNone, β, if ad.isNone then 1 else 0, fun w' => ?_, h, ?_⟩
  · have he := run_slice_eq_nil hu ad xs.length c w'
    have hb : (binOp .eql xt (.slice ad xs.length c) (.slice none 0 0)).run E.P w' = .ok (.bool ad.isNone) w' := by
      show (do pure (Value.bool (← Op.equal xt (.slice ad xs.length c) (.slice none 0 0))) : Sem Value).run E.P w' = _
      simp only [Sem.run_bind, he, Result.andThen_ok, Sem.run_pure]
    simp [execOp, h1, h2, eqGuard, hb]
  · show Value.bool ad.isNone = Value.bool (Nat.beq (if ad.isNone then 1 else 0) 1 && xs.isEmpty)
    cases ad with
    | some p => rfl
    | none =>
      have hc := h5 rfl
      have : xs = [] := List.eq_nil_of_length_eq_zero (by omega)
      subst this
      rfl
end
section
variable {E : Set} {Q : Exit → Sd → Prop} {ops : Array Oper} {draw : Bool} {rest : Todo} {way : Way3} {ty : TypeId} {pos : String} {af : Array Edge} {gd : Option (Nat × Bool)} {S : Sd}
variable {env : List (Nat × V)} {H : List (Nat × Ob)} {gl : List (Nat × List D)} {d : Nat}
theorem z_slice_nil {sz sz' : Nat} {xt yt : TypeId} {x y : Operand} {xs : List D} (h1 : xs = [] → TR E draw ops Q rest ⟨(d, .d (.bool true)) :: env, H, gl⟩) (h2 : TR E draw ops Q rest ⟨(d, .d (.bool false)) :: env, H, gl⟩) (hu : isSliceT E.P xt = true := by kernel_rfl) (hx : Sd.ev ⟨env, H, gl⟩ x = some (.d (.list sz xs)) := by exact rfl) (hy : Sd.ev ⟨env, H, gl⟩ y = some (.nils sz') := by exact rfl) (hox : okOp x = true := by exact rfl) (hoy : okOp y = true := by exact rfl) (hpos : 0 < sz := by exact ltd rfl) (hd : d < E.C.nt := by exact ltd rfl)
    (hg : Sd.gd ⟨env, H, gl⟩ ops ⟨some d, .binOp .eql xt x y yt, ty, pos, af, gd⟩ = some true := by exact rfl) :
    TR E draw ops Q (.step ⟨some d, .binOp .eql xt x y yt, ty, pos, af, gd⟩ way rest) ⟨env, H, gl⟩ :=
  tr_stillK (k_slice_nil (S := ⟨env, H, gl⟩) hu hx hy hox hoy hpos) rfl hd hg rfl fun k => by
    show TR E draw ops Q rest ⟨(d, .d (.bool (Nat.beq k 1 && xs.isEmpty))) :: env, H, gl⟩
    cases hk : Nat.beq k 1 with
    | false => exact h2
    | true =>
      cases xs with
      | nil => exact h1 rfl
      | cons a t => exact h2
theorem wk_dcell {C : Ctx} (n j : Nat) {cs : List V} {v : V} {x : D} (hl : look n H = some (.box cs)) (hj : cs[j]? = some v) (hd : ToD H v x) : Wk C ⟨env, H, gl⟩ ⟨env, (n, .box (cs.set j (.d x))) :: H, gl⟩ := fun a w ⟨β, h⟩ => by
  have hH : ∀ m e' sz' sh' xs' k', look m ((n, Ob.box (cs.set j (.d x))) :: H) = some (.row e' sz' sh' xs' k') → ∃ sh' xs', look m H = some (.row e' sz' sh' xs' k') := fun m e' sz' sh' xs' k' hm => by
    rw [look_set] at hm
    split at hm
    · cases hm
    · exact ⟨sh', xs', hm⟩
  refine ⟨β, h.turn (S := ⟨env, H, gl⟩) hl (fun _ _ => rfl) rfl rfl rfl (Nat.le_refl _) (fun _ _ _ => rfl) (fun b h => .inl h) (fun _ _ _ _ _ h => h) (fun _ _ _ _ _ => trivial)
    (fun k t x v _ => RepV.keep k (fun _ => rfl) hH x v) (fun _ => rfl) (fun k m cs vs _ _ => RepL.keep k (fun _ => rfl) hH _ vs) (fun k => ?_)⟩
  obtain ⟨b, vs, t, e1, e2, hL⟩ := h.obs n _ hl
  have hr := RepL.keep k (fun _ => rfl) hH _ _ hL
  obtain ⟨u, hu1, hu2⟩ := hL.get hj
  have hu : RepD w (Mut C.M0 β ((n, Ob.box (cs.set j (.d x))) :: H)) x u := RepD.keep k _ _ (hd.rep h hu2)
  have hs := hr.set j (x := .d x) (v := u) hu
  rw [show vs.set j u = vs from by
    obtain ⟨h3, h4⟩ := List.getElem?_eq_some_iff.1 hu1
    rw [← h4]; exact List.set_getElem_self h3] at hs
  exact ⟨b, vs, t, e1, e2, hs⟩
theorem wk_unshare {C : Ctx} (n : Nat) {e sz k : Nat} (hl : look n H = some (.row e sz true [] k)) : Wk C ⟨env, H, gl⟩ ⟨env, (n, .row e sz false [] k) :: H, gl⟩ := fun a w ⟨β, h⟩ => by
  have hH : ∀ m e' sz' sh' xs' k', look m ((n, Ob.row e sz false [] k) :: H) = some (.row e' sz' sh' xs' k') → ∃ sh' xs', look m H = some (.row e' sz' sh' xs' k') := fun m e' sz' sh' xs' k' hm => by
    rw [look_set] at hm
    split at hm
    · rename_i e
      subst e
      cases hm
      exact ⟨true, [], hl⟩
    · exact ⟨sh', xs', hm⟩
  refine ⟨β, h.turn (S := ⟨env, H, gl⟩) hl (fun _ _ => rfl) rfl rfl rfl (Nat.le_refl _) (fun _ _ _ => rfl) (fun b h => .inl h) (fun _ _ _ _ _ h => h) (fun b o _ _ _ => .inr (by simp))
    (fun k t x v _ => RepV.keep k (fun _ => rfl) hH x v) (fun _ => rfl) (fun k m cs vs _ _ => RepL.keep k (fun _ => rfl) hH _ vs) (fun k => ?_)⟩
  obtain ⟨ys, h1, h2⟩ := h.obs n _ hl
  exact ⟨ys, h1, RepE.keep k _ _ _ h2⟩
def Exit.noGotoD (Q : Exit → Sd → Prop) : Exit → Sd → Prop
  | .goto _, _ => False
  | e, S => Q e S
theorem tc_scope {c : Code} (hrd : E.rd = none) (h : TC E c (Exit.noGotoD Q) S) : TC E (.scope c) Q S := fun a w hS => by
  have h1 := h a w hS
  rw [hrd] at h1 ⊢
  have h2 : c.wp E.P (Qof E.C (Exit.noGotoD Q)) a w := wpIn_wide.1 h1
  refine wpIn_wide.2 (wp_scope_straight (Code.wp_mono (fun e a' w' h5 => ?_) h2))
  obtain ⟨S', h3, h4⟩ := h5
  cases e with
  | goto l => exact h4.elim
  | _ => exact ⟨S', h3, h4⟩
theorem yyq {A G : Prop} (h : A) (hs : Step A G := by (apply st_p; exact rfl; exact rfl; (first | (apply q_nil_eql; kernel_rfl; exact rfl; constructor; exact rfl; exact rfl; exact rfl) | (apply q_nil_neq; kernel_rfl; exact rfl; constructor; exact rfl; exact rfl; exact rfl) | (apply q_slice3; exact rfl; exact rfl; exact rfl; exact rfl; exact rfl; exact rfl; exact rfl; exact rfl; exact rfl; (focus (first | with_reducible exact nat_lit_eq | exact rfl | exact (Int.toNat_of_nonneg (by omega)).symm)); (focus (first | exact rfl | omega)); (focus (first | exact rfl | omega)); (focus (first | omega | (simp only [List.length_cons, List.length_nil, List.length_append, List.length_map, List.length_take, List.length_drop]; omega)))) | (apply q_len_win; exact rfl; exact rfl; exact rfl) | (apply q_index_win; exact rfl; exact rfl; exact rfl; exact rfl; exact rfl; (focus (first | with_reducible exact nat_lit_eq | exact rfl | exact (Int.toNat_of_nonneg (by omega)).symm)); (focus (first | omega | (simp only [List.length_cons, List.length_nil, List.length_append, List.length_map, List.length_take, List.length_drop]; omega)))) | (apply q_slice_arr; exact rfl; exact rfl) | (apply q_index_sln; exact rfl; exact rfl; exact rfl; exact rfl; (focus (first | with_reducible exact nat_lit_eq | exact rfl | exact (Int.toNat_of_nonneg (by omega)).symm)); (focus (first | omega | (simp only [List.length_cons, List.length_nil, List.length_append, List.length_map, List.length_take, List.length_drop]; omega))))); exact ltd rfl; exact rfl)) : G := hs.go h
theorem yyr {A G : Prop} (h : A) (hs : Step A G := by first | (apply st_q; exact rfl; exact rfl; (apply q_load_hbox; exact rfl; exact rfl; exact rfl; exact rfl; exact rfl); exact ltd rfl; exact rfl; exact rfl) | (apply st_store_el; exact rfl; exact rfl; exact rfl; exact rfl; exact rfl; (focus (first | exact ToD.d _ | exact ToD.nils _ | exact ToD.own rfl)); (focus (first | exact CellsD.agg _ | constructor)); exact rfl; (focus (simp only [List.length_set, List.length_replicate, List.length_map, List.length_append, List.length_cons, List.length_nil, List.length_take, List.length_drop]; omega)); exact rfl; exact rfl)) : G := hs.go h
theorem yyc {A G : Prop} (h : A) (hs : Step A G := by (apply st_p; exact rfl; exact rfl; (first | (apply q_cmp_t; exact rfl; exact rfl; exact rfl; exact rfl; exact rfl; (focus (simp only [cmp, List.length_cons, List.length_nil, List.length_map, List.length_append, List.length_drop, List.length_take] <;> omega))) | (apply q_cmp_f; exact rfl; exact rfl; exact rfl; exact rfl; exact rfl; (focus (simp only [cmp, List.length_cons, List.length_nil, List.length_map, List.length_append, List.length_drop, List.length_take] <;> omega)))); exact ltd rfl; exact rfl)) : G := hs.go h
end
end
section
theorem FnE.fix {P : Program} {gl : List (Nat × List D)} {f : FuncId} {args : List V} {n e sz : Nat} {xs : List D} (h : FnE P gl f args [] (fun v H1 => ∃ k, v = .own n k ∧ H1 = [(n, .row e sz true xs k)])) : FnE P gl f args [] (fun v H1 => v = .own n 0 ∧ H1 = [(n, .row e sz true xs 0)]) := fun w M β us h1 h2 h3 h4 => by
  refine (h w M β us h1 h2 h3 h4).mono ?_
  rintro en w' ⟨v, x, H1, β1, ⟨k, rfl, rfl⟩, hok, rfl, hfr, hfix, hnew, hobs, hv⟩
  have hl : ∀ (k m : Nat) (ob : Ob), look m [(n, Ob.row e sz true xs k)] = some ob → m = n ∧ ob = .row e sz true xs k := fun k m ob hm => by
    rw [look_cons] at hm
    split at hm
    · rename_i e'
      cases hm
      exact ⟨e'.symm, rfl⟩
    · cases hm
  have hn : ∀ k : Nat, look n [(n, Ob.row e sz true xs k)] = some (.row e sz true xs k) := fun k => by rw [look_cons, if_pos rfl]
  have hM : ∀ b o, Mut M β1 [(n, Ob.row e sz true xs 0)] b o → Mut M β1 [(n, Ob.row e sz true xs k)] b o := fun b o hm => by
    rcases hm with hm | ⟨m, ob, h5, h6, h7⟩
    · exact .inl hm
    · obtain ⟨rfl, rfl⟩ := hl _ _ _ h5
      exact .inr ⟨m, _, hn k, h6, h7⟩
  refine ⟨.own n 0, x, [(n, .row e sz true xs 0)], β1, ⟨rfl, rfl⟩, ?_, rfl, hfr, hfix, fun m ob b hm hb2 => ?_, ⟨fun m ob hm => ?_, fun m m' b ob ob' hne h5 h6 _ => ?_, fun m ob b o hm hb2 => ?_⟩, fun e' sz' sh' xs' hm => ?_⟩
  · simp [endOk, keysOk, rowsOk, closedH, V.within, keyIn, Ob.cells, withinL, look, hn]
  · obtain ⟨rfl, rfl⟩ := hl _ _ _ hm
    exact hnew m _ b (hn k) hb2
  · obtain ⟨rfl, rfl⟩ := hl _ _ _ hm
    obtain ⟨ys, h5, h6⟩ := hobs.obs m _ (hn k)
    exact ⟨ys, h5, RepE.keep (Keeps.weak hM) _ _ _ h6⟩
  · obtain ⟨rfl, _⟩ := hl _ _ _ h5
    obtain ⟨rfl, _⟩ := hl _ _ _ h6
    exact absurd rfl hne
  · obtain ⟨rfl, rfl⟩ := hl _ _ _ hm
    exact hobs.out m _ b o (hn k) hb2
  · exact hv e sz true xs (hn k)
end
section
section
variable {E : Set} {Q : Exit → Sd → Prop} {S : Sd} {env : List (Nat × V)} {H : List (Nat × Ob)} {gl : List (Nat × List D)}
end
end
section
section
variable {E : Set} {S : Sd} {dst : Option Tmp} {ty : TypeId} {pos : String} {af : Array Edge} {gd : Option (Nat × Bool)}
theorem q_pair {t e : Nat} {k : IntKind} {x y : Operand} {a b : Int} [ht : TArray E.P t 2 e 1] [hz : TZero E.P t [.d (.int k 0), .d (.int k 0)]] (hx : S.ev x = some (.d (.int k a))) (hy : S.ev y = some (.d (.int k b))) (hox : okOp x = true) (hoy : okOp y = true) :
    Swift E S ⟨dst, .build t #[(0, x), (1, y)], ty, pos, af, gd⟩ (.d (.agg [.int k a, .int k b])) := Swift.mk fun β act w h => by
  obtain ⟨ie, hu, hie, hs, hpos⟩ := array_parts ht
  obtain ⟨i, z, hi, hiz, h1, _⟩ := zero_parts hz
  have h2 := zeroD_rep (w := w) (M := Mut E.C.M0 β S.H) (.d (.d .nil)) h1
  obtain ⟨u0, r0, e0, _, q0, u1, r1, rfl, _, q1, q2⟩ := h2
  simp only [RepA] at q2
  subst q2
  have e1 := h.ev hx hox
  have e2 := h.ev hy hoy
  simp only [RepV, RepD] at e1 e2 q0 q1
  subst q0 q1
  have e0' : z.cells = #[.int k 0, .int k 0] := by rw [← Array.toArray_toList (xs := z.cells), e0]
  refine ⟨.agg #[.int k a, .int k b], fun w' _ => ?_, ⟨[.int k a, .int k b], rfl, ?_⟩⟩
  · simp only [execOp, Sem.run_bind, Instr.build, zeroValue, typeInfo, hi, hiz, run_underlying hu, Sem.run_pure, Result.andThen_ok, program, Sem.run, run_size hie, hs]
    have hf : Instr.fill (fun i => some (i * 1, 1)) #[.int k 0, .int k 0] [(0, .int k a), (1, .int k b)] = some #[.int k a, .int k b] := by simp [Instr.fill, Value.cells]
    have hp : ((#[(0, x), (1, y)] : Array (Nat × Operand)).map fun p => (p.1, act.eval p.2)).toList = [(0, .int k a), (1, .int k b)] := by simp [e1, e2]
    rw [hp, e0', hf]
    rfl
  · exact ⟨_, _, rfl, rfl, rfl, _, _, rfl, rfl, rfl, rfl⟩
theorem q_pair_ne {t e : Nat} {k : IntKind} {yt : TypeId} {x y : Operand} {a b c d : Int} [ht : TArray E.P t 2 e 1] [hk : TInt E.P e k] (hx : S.ev x = some (.d (.agg [.int k a, .int k b]))) (hy : S.ev y = some (.d (.agg [.int k c, .int k d]))) (hox : okOp x = true) (hoy : okOp y = true) (hm : E.P.eqGuardType E.P.depth t = false) :
    Swift E S ⟨dst, .binOp .neq t x y yt, ty, pos, af, gd⟩ (.d (.bool !(a == c && b == d))) := Swift.mk fun β act w h => by
  obtain ⟨ie, hu, hie, hs, hpos⟩ := array_parts ht
  have hk' := int_parts hk
  obtain ⟨us, e1, r1⟩ := h.ev hx hox
  obtain ⟨vs, e2, r2⟩ := h.ev hy hoy
  obtain ⟨u0, ur, rfl, _, q0, u1, ur1, rfl, _, q1, q2⟩ := r1
  obtain ⟨v0, vr, rfl, _, p0, v1, vr1, rfl, _, p1, p2⟩ := r2
  simp only [RepA] at q2 p2
  simp only [RepD] at q0 q1 p0 p1
  subst q2 p2 q0 q1 p0 p1
  refine ⟨.bool !(a == c && b == d), fun w' _ => ?_, rfl⟩
  have key : ∀ dp w', (Op.equalIn (dp + 1 + 1) t (.agg #[.int k a, .int k b]) (.agg #[.int k c, .int k d])).run E.P w' = .ok (a == c && b == d) w' := fun dp w' => by
    have g0 := fun w (v v' : Value) => part_cell (P := E.P) hk' (by simp) (by simp) (xs := [v, v']) (off := 0) (v := v) rfl w
    have g1 := fun w (v v' : Value) => part_cell (P := E.P) hk' (by simp) (by simp) (xs := [v, v']) (off := 1) (v := v') rfl w
    rw [Op.equalIn]
    simp only [Sem.run_bind, run_underlying hu, Result.andThen_ok, run_size hie, hs]
    simp only [Std.Legacy.Range.forIn_eq_forIn_range', Std.Legacy.Range.size, Nat.sub_zero, Nat.add_one_sub_one, Nat.div_one, List.range_eq_range']
    simp only [List.range', List.forIn_cons, List.forIn_nil, Sem.run_bind, Nat.zero_mul, Nat.one_mul, Nat.zero_add, g0, g1, run_equalIn_int _ _ e k k _ _ hk', Result.andThen_ok]
    cases h1 : a == c <;> cases h2 : b == d <;> simp only [Bool.not_true, Bool.not_false, Bool.false_eq_true, if_true, if_false, Bool.true_and, Bool.false_and, Sem.run_pure, Sem.run_bind, Result.andThen_ok, Nat.reduceAdd, g0, g1, run_equalIn_int _ _ e k k _ _ hk', h2]
  simp only [execOp, e1, e2, Sem.run_bind, run_eqGuard_agg w' _ t x y _ _ hm, Result.andThen_ok, run_eql_struct, run_neq_struct, key 9998 w', Sem.run_pure]
theorem q_pair_same {t e : Nat} {k : IntKind} {yt : TypeId} {x y : Operand} {a b : Int} [ht : TArray E.P t 2 e 1] [hk : TInt E.P e k] (hx : S.ev x = some (.d (.agg [.int k a, .int k b]))) (hy : S.ev y = some (.d (.agg [.int k a, .int k b]))) (hox : okOp x = true) (hoy : okOp y = true) (hm : E.P.eqGuardType E.P.depth t = false) :
    Swift E S ⟨dst, .binOp .neq t x y yt, ty, pos, af, gd⟩ (.d (.bool false)) := by
  have h := q_pair_ne (E := E) (S := S) (dst := dst) (ty := ty) (pos := pos) (af := af) (gd := gd) (yt := yt) hx hy hox hoy hm
  rw [show (!(a == a && b == b)) = false by simp] at h
  exact h
theorem q_iarr {t m e sz i : Nat} {x y : Operand} {k : IntKind} {p : Int} {cs ds : List D} [ht : TArray E.P t m e sz] [hc : TAgg E.P e sz] (hx : S.ev x = some (.d (.agg cs))) (hy : S.ev y = some (.d (.int k p))) (hox : okOp x = true) (hoy : okOp y = true) (hi : p = (i : Nat)) (hm : i < m) (hv : Cut cs (i * sz) sz ds) :
    Swift E S ⟨dst, .index t x y, ty, pos, af, gd⟩ (.d (.agg ds)) := Swift.mk fun β a w h => by
  subst hi
  obtain ⟨vs, h1, h2⟩ := h.ev hx hox
  have h1' : a.eval y = .int k (i : Nat) := h.ev hy hoy
  obtain ⟨h3, h4⟩ := hv.eq
  obtain ⟨ie, hu, hie, hs, hpos⟩ := array_parts ht
  obtain ⟨d, i', hu', n1, hi', hs'⟩ := agg_parts hc
  have h5 : RepA w (Mut E.C.M0 β S.H) ds ((vs.drop (i * sz)).take sz) := by rw [h3]; exact (h2.drop (i * sz)).take sz
  refine ⟨.agg ((vs.drop (i * sz)).take sz).toArray, fun w' _ => ?_, _, rfl, h5⟩
  have he : (vs.toArray.extract (i * sz) (i * sz + sz)) = ((vs.drop (i * sz)).take sz).toArray := by simp [List.extract_eq_take_drop]
  have hr : (0 : Int) ≤ (i : Nat) ∧ ((i : Nat) : Int) < (m : Nat) := ⟨by omega, by omega⟩
  simp only [execOp, h1, h1', Instr.index, asIntOf, Sem.run_bind, Sem.run_pure, Result.andThen_ok, run_underlying hu, if_pos hr, run_size hie, hs, Int.toNat_natCast, part, isAgg_yes hu' n1, run_size hi', hs', he, if_true]
end
end
section
section
variable {E : Set} {S : Sd} {dst : Option Tmp} {ty : TypeId} {pos : String} {af : Array Edge} {gd : Option (Nat × Bool)}
def isConc (P : Program) (t : TypeId) : Bool := match P.underlying t with
  | some (.interface _) => false
  | some _ => true
  | none => false
theorem q_makeIface {t : Nat} {x : Operand} {v : V} (hx : S.ev x = some v) (hox : okOp x = true) (hc : isConc E.P t = true) : Swift E S ⟨dst, .makeInterface t x, ty, pos, af, gd⟩ (.ifc t v) := Swift.mk fun β a w h => by
  refine ⟨.iface t (a.eval x), fun w' _ => ?_, _, rfl, h.ev hx hox⟩
  unfold isConc at hc
  cases hu : E.P.underlying t with
  | none => rw [hu] at hc; cases hc
  | some d =>
    rw [hu] at hc
    cases d <;> first | (exact absurd hc Bool.false_ne_true) | simp [execOp, Instr.makeInterface, run_underlying hu]
theorem q_load_sbox {t : Nat} {x : Operand} {n off : Nat} {cs : List V} {v : V} [ht : TCell E.P t] (hx : S.ev x = some (.ptr n off)) (hox : okOp x = true) (hl : look n S.H = some (.sbox cs)) (hc : cs[off]? = some v) : Quiet E S ⟨dst, .load t x, ty, pos, af, gd⟩ v := Quiet.mk fun β a w h => by
  obtain ⟨b, h1, h2⟩ := h.ev hx hox
  obtain ⟨b', vs, us, t', h3, h4, h5⟩ := h.obs n _ hl
  rw [h1] at h3
  cases h3
  obtain ⟨u, h11, h12⟩ := h5.get hc
  refine ⟨u, fun w' g => ?_, h12⟩
  have h13 : (vs ++ us)[off]? = some u := by rw [List.getElem?_append_left (List.getElem?_eq_some_iff.1 h11).1]; exact h11
  have := loadAt_cell ht (box_cell (grows_heap g h4) h13)
  simp [execOp, h2, this]
theorem q_len_bsl {t e sz n off l : Nat} {x : Operand} [ht : TSlice E.P t e sz] (hx : S.ev x = some (.bsl n off l)) (hox : okOp x = true) : Swift E S ⟨dst, .call { callee := .builtin .len, args := #[x], argTypes := #[t] }, ty, pos, af, gd⟩ (.d (.int .i64 (l : Nat))) := Swift.mk fun β a w h => by
  obtain ⟨ie, hu, _⟩ := slice_parts ht
  obtain ⟨b, c, h1, h2, _⟩ := h.ev hx hox
  refine ⟨.int .i64 (l : Nat), fun w' _ => ?_, rfl⟩
  simp [execOp, resolve, invoke, builtin, h2, Builtin.len_, goInt, run_underlying hu]
theorem q_index_bsl {t e sz i n off l : Nat} {x y : Operand} {k : IntKind} {p : Int} [ht : TSlice E.P t e sz] (hx : S.ev x = some (.bsl n off l)) (hy : S.ev y = some (.d (.int k p))) (hox : okOp x = true) (hoy : okOp y = true) (hi : p = (i : Nat)) (hm : i < l) :
    Swift E S ⟨dst, .indexAddr t x y, ty, pos, af, gd⟩ (.ptr n (off + i * sz)) := Swift.mk fun β a w h => by
  subst hi
  obtain ⟨b, c, h1, h2, _⟩ := h.ev hx hox
  have h3 : a.eval y = .int k (i : Nat) := h.ev hy hoy
  refine ⟨.pointer (some ⟨b, off + i * sz, none⟩), fun w' _ => ?_, b, h1, rfl⟩
  have := run_indexAt (P := E.P) ht (b := b) (o := off) (n := l) (c := c) (k := k) hm w'
  simp [execOp, h2, h3, this]
theorem CellsV.only {C : Ctx} {β : Nat → Hd} {a : Act} {w : World} (h : StB C β S a w) {v : V} (hc : CellsV v [v]) {u : Value} (hu : RepV w (Mut C.M0 β S.H) β S.H v u) (hown : ownOk S v = true) : ∃ c, u.cells = #[c] ∧ c.oneCell' = true ∧ RepV w (Mut C.M0 β S.H) β S.H v c := by
  obtain ⟨h1, h2⟩ := hc.rep h hu (ownOk_spec hown)
  obtain ⟨c, r, h3, h4, h5⟩ := h1
  simp only [RepL] at h5
  subst h5
  refine ⟨c, ?_, h2 c (by rw [h3]; simp), h4⟩
  rw [← Array.toArray_toList (xs := u.cells), h3]
def zero2 (P : Program) (t : TypeId) : Bool := match P.info? t with
  | some i => (match i.zero with | some z => z.cells.size == 2 | none => false)
  | none => false
theorem q_build2 {t e : Nat} {x y : Operand} {u v : V} [ht : TArray E.P t 2 e 1] (hz : zero2 E.P t = true) (hx : S.ev x = some u) (hy : S.ev y = some v) (hox : okOp x = true) (hoy : okOp y = true) (hcu : CellsV u [u]) (hcv : CellsV v [v]) (hu : ownOk S u = true) (hv : ownOk S v = true) :
    Swift E S ⟨dst, .build t #[(0, x), (1, y)], ty, pos, af, gd⟩ (.agg [u, v]) := Swift.mk fun β a w h => by
  obtain ⟨ie, hut, hie, hs, hpos⟩ := array_parts ht
  obtain ⟨i, z, hi, hiz, hz2⟩ : ∃ i z, E.P.info? t = some i ∧ i.zero = some z ∧ z.cells.size = 2 := by
    unfold zero2 at hz
    cases hi : E.P.info? t with
    | none => rw [hi] at hz; cases hz
    | some i =>
      rw [hi] at hz
      dsimp only at hz
      cases hiz : i.zero with
      | none => rw [hiz] at hz; cases hz
      | some z => rw [hiz] at hz; exact ⟨i, z, rfl, hiz, by simpa using hz⟩
  obtain ⟨c0, e0, o0, r0⟩ := hcu.only h (h.ev hx hox) hu
  obtain ⟨c1, e1, o1, r1⟩ := hcv.only h (h.ev hy hoy) hv
  refine ⟨.agg #[c0, c1], fun w' _ => ?_, [c0, c1], rfl, ?_, c0, _, rfl, r0, c1, _, rfl, r1, rfl⟩
  · obtain ⟨q0, q1, hq⟩ : ∃ q0 q1, z.cells = #[q0, q1] := by
      rcases hzc : z.cells with ⟨l⟩
      rw [hzc] at hz2
      match l, hz2 with
      | [p, q], _ => exact ⟨p, q, rfl⟩
    have hsz : ie.size = 1 := hs
    simp only [execOp, Sem.run_bind, Instr.build, zeroValue, typeInfo, hi, hiz, run_underlying hut, Sem.run_pure, Result.andThen_ok, program, Sem.run, run_size hie]
    simp [Instr.fill, e0, e1, hq, hsz]
  · intro q hq
    rcases List.mem_cons.1 hq with rfl | hq
    · exact o0
    · rcases List.mem_cons.1 hq with rfl | hq
      · exact o1
      · cases hq
inductive ElemsV (S : Sd) (sz : Nat) : Nat → List (Nat × Operand) → List V → Prop
  | nil (i : Nat) : ElemsV S sz i [] []
  | cons {i : Nat} {x : Operand} {v : V} {vs cs : List V} {ps : List (Nat × Operand)} (hx : S.ev x = some v) (ho : okOp x = true) (hown : ownOk S v = true) (hc : CellsV v vs) (hm : vs.length = sz) (h : ElemsV S sz (i + 1) ps cs) : ElemsV S sz i ((i, x) :: ps) (vs ++ cs)
theorem ElemsV.rep {C : Ctx} {β : Nat → Hd} {a : Act} {w : World} (h : StB C β S a w) {sz i : Nat} {ps : List (Nat × Operand)} {cs : List V} (he : ElemsV S sz i ps cs) :
    ∃ us : List Value, ps.map (fun x => (x.1, a.eval x.2)) = (us.zipIdx i).map (fun x => (x.2, x.1)) ∧ us.length = ps.length ∧ (∀ u ∈ us, u.cells.size = sz) ∧ RepL w (Mut C.M0 β S.H) β S.H cs (us.flatMap fun v => v.cells.toList) ∧ ∀ u ∈ us.flatMap (fun v => v.cells.toList), u.oneCell' = true := by
  induction he with
  | nil i => exact ⟨[], rfl, rfl, (fun u hu => by cases hu), rfl, fun u hu => by cases hu⟩
  | @cons i x v vs cs ps hx ho hown hc hm _ ih =>
    obtain ⟨us, h1, h2, h3, h4, h5⟩ := ih
    obtain ⟨h6, h7⟩ := hc.rep h (h.ev hx ho) (ownOk_spec hown)
    have h8 : (a.eval x).cells.size = sz := by have := h6.length; simp at this; omega
    refine ⟨a.eval x :: us, ?_, by simp [h2], fun u hu => ?_, ?_, fun u hu => ?_⟩
    · simp only [List.map_cons, h1, List.zipIdx_cons]
    · rcases List.mem_cons.1 hu with rfl | hu
      · exact h8
      · exact h3 u hu
    · rw [List.flatMap_cons]
      exact RepL.app h6 h4
    · rw [List.flatMap_cons, List.mem_append] at hu
      rcases hu with hu | hu
      · exact h7 u hu
      · exact h5 u hu
theorem g_lit_s {d n t e sz len : Nat} {ps : List (Nat × Operand)} {cs : List V} [ht : TSlice E.P t e sz] (hp : ElemsV S sz 0 ps cs) (hlen : ps.length = len) (h0 : 0 < len) (hsmall : len * sz ≤ 16777216) (hn : S.fresh n = true) (hs : saysL n cs = false) :
    Grow E S ⟨some d, .buildSlice t len ps.toArray, ty, pos, af, gd⟩ { S with H := (n, .sbox cs) :: S.H } (.bsl n 0 len) := Grow.mk fun β a w h => by
  obtain ⟨bytes, ⟨i, z, hu, hi, hz, hs', hby, hzs, hpos⟩, _⟩ := slice_elem ht
  obtain ⟨us, h1, h2, h3, h4, _⟩ := hp.rep h
  have hst : ∀ w', w' = w.alloc (.cells (us.flatMap fun v => v.cells.toList).toArray e) → StB E.C (upd β n (.pointer (some ⟨w.heap.size, 0, none⟩))) { S with H := (n, .sbox cs) :: S.H } a w' := fun w' e' => by
    subst e'
    refine h.newObj hn (.pointer (some ⟨w.heap.size, 0, none⟩)) (Grows.alloc w _) (fun b hb' => ?_) (.sbox cs) fun k => ?_
    · simp only [hb, Option.some.injEq] at hb'
      omega
    · exact ⟨w.heap.size, _, [], e, rfl, by rw [List.append_nil]; exact heap_alloc_new w _, saysL_of hs k (fun m hm => upd_other β n _ hm) (fun m hm => by rw [look_set, if_neg (Ne.symm hm)]) h4⟩
  refine ⟨.slice (some ⟨w.heap.size, 0, none⟩) len len, _, _, ?_, Grows.alloc w _, hst _ rfl, w.heap.size, len, upd_v _ _ _, rfl, Nat.le_refl _, by unfold maxLen; have := Nat.le_mul_of_pos_right len hpos; omega⟩
  have hparts : (ps.toArray.map fun x => (x.1, a.eval x.2)).toList = (us.zipIdx 0).map (fun x => (x.2, x.1)) := by simp [← h1]
  have hne : ¬ len * i.size = 0 := by rw [hs']; exact Nat.mul_ne_zero (by omega) (by omega)
  have hf := Go.Great.fill_whole (s := sz) hpos us ((Array.range (len * sz)).map (z.cells[· % z.cells.size]!)) h3 (by simp; rw [h2, hlen])
  have hr := run_buildSlice (P := E.P) w t e len (ps.toArray.map fun x => (x.1, a.eval x.2)) _ i z hu hi hz (by rw [hs']; omega) hne (by rw [hs', hparts]; exact hf)
  simp only [execOp, Sem.run_bind, hr, Result.andThen_ok, Sem.run_pure]
def V.one : V → Bool
  | .ptr _ _ => true
  | .ifc _ _ => true
  | .d (.int _ _) => true
  | _ => false
theorem V.one_rep {w : World} {M : Nat → Nat → Prop} {β : Nat → Hd} {H : List (Nat × Ob)} {v : V} (h : v.one = true) {u : Value} (hu : RepV w M β H v u) : u.oneCell' = true := by
  unfold V.one at h
  split at h
  · obtain ⟨b, _, rfl⟩ := hu; rfl
  · obtain ⟨b, rfl, _⟩ := hu; rfl
  · simp only [RepV, RepD] at hu; subst hu; rfl
  · cases h
theorem RepL.ones {w : World} {M : Nat → Nat → Prop} {β : Nat → Hd} {H : List (Nat × Ob)} : ∀ {cs : List V} {us : List Value}, RepL w M β H cs us → cs.all V.one = true → ∀ u ∈ us, u.oneCell' = true
  | [], _, h, _, u, hu => by simp only [RepL] at h; subst h; cases hu
  | c :: cs, _, ⟨v, r, h1, h2, h3⟩, ha, u, hu => by
    simp only [List.all_cons, Bool.and_eq_true] at ha
    subst h1
    rcases List.mem_cons.1 hu with rfl | hu
    · exact V.one_rep ha.1 h2
    · exact RepL.ones h3 ha.2 u hu
theorem g_append_s {d n m t e sz sz' len : Nat} {s x : Operand} {cs : List V} [ht : TSlice E.P t e sz] (hs : S.ev s = some (.nils sz')) (hos : okOp s = true) (hx : S.ev x = some (.bsl m 0 len)) (hox : okOp x = true) (hl : look m S.H = some (.sbox cs)) (hlen : cs.length = len * sz) (h0 : 0 < len) (hsm : len ≤ 1000000) (hone : cs.all V.one = true)
    (hn : S.fresh n = true) (hsy : saysL n cs = false) : Grow E S ⟨some d, .call { callee := .builtin .append, args := #[s, x], argTypes := #[t, t] }, ty, pos, af, gd⟩ { S with H := (n, .sbox cs) :: S.H } (.bsl n 0 len) := Grow.mk fun β a w h => by
  obtain ⟨bytes, he, hby⟩ := slice_elem ht
  have h1 : a.eval s = .slice none 0 0 := h.ev hs hos
  obtain ⟨b, c, q1, q2, q3, _⟩ := h.ev hx hox
  obtain ⟨b', vs, us, t', q4, q5, q6⟩ := h.obs m _ hl
  rw [q1] at q4
  cases q4
  have hvl : vs.length = len * sz := by rw [q6.length, hlen]
  obtain ⟨v', w', h10, h11, h12⟩ := run_app (P := E.P) (ty := ty) w he (World.ownsRow_nil w 0 e sz) (xa := some ⟨b, 0, none⟩) (m := len) (xc := c) (news := vs) hvl (fun j u hu => ⟨b, 0, rfl, by
    rw [Nat.zero_add]
    exact box_cell q5 (by rw [List.getElem?_append_left (List.getElem?_eq_some_iff.1 hu).1]; exact hu)⟩) (fun h => by cases h) q3 (q6.ones hone) (by omega) hby
  rw [Nat.zero_add, List.nil_append] at h11
  obtain ⟨r1, r2⟩ := h11
  rcases r2 with ⟨_, r2⟩ | ⟨g, cap, cur, rfl, _, r3, r4, r7, r5, r6⟩
  · omega
  · have hg : Grows w w' ∧ w.heap.size ≤ g := by
      rcases h12 with ⟨h13, _⟩ | ⟨h13, h14⟩
      · cases h13
      · exact ⟨(Below.refl _ _).grown h14 (Nat.le_refl _) (fun k hk => by cases hk), h13 g rfl⟩
    refine ⟨_, w', upd β n (.pointer (some ⟨g, 0, none⟩)), run_append_op (by rw [h1, q2]; exact h10), hg.1, ?_, g, cap, upd_v _ _ _, rfl, r4, r7⟩
    refine h.newObj hn (.pointer (some ⟨g, 0, none⟩)) hg.1 (fun q hq => ?_) (.sbox cs) fun k => ?_
    · simp only [hb, Option.some.injEq] at hq
      rw [← hq]
      exact hg.2
    · refine ⟨g, vs, cur.toList.drop (len * sz), e, rfl, ?_, saysL_of hsy k (fun m hm => upd_other β n _ hm) (fun m hm => by rw [look_set, if_neg (Ne.symm hm)]) q6⟩
      rw [r3, ← r6, List.take_append_drop]
theorem run_invoke {P : Program} {f : Nat} (hf : TFun P f) (a : Act) {x : Operand} {t : TypeId} {u : Value} (he : a.eval x = .iface t u) {name : String} {w : World} (hm : (method (P.types.size + Made.depth) t u name).run P w = .ok (f, u) w) (xs : List Operand) (ats : Array TypeId) (dst : Option Tmp) :
    (execOp a.eval ⟨dst, .call { callee := .invoke x name, args := xs.toArray, argTypes := ats }, ty, pos, af, gd⟩).run P w = .ok (.enter f (u :: xs.map a.eval).toArray) w := by
  have := hf.ok
  unfold callOk at this
  cases hfn : P.funcs[f]? with
  | none => rw [hfn] at this; cases this
  | some fn =>
    rw [hfn] at this
    simp only [Bool.and_eq_true, Bool.not_eq_true'] at this
    have h2 : ¬ fn.name = "runtime.NumGoroutine" := by simpa using this.2
    cases hb : fn.body with
    | none => rw [hb] at this; cases this.1
    | some c => simp [execOp, resolve, he, invoke, callMethod, callFunc, hfn, hb, h2, hm, List.take_of_length_le]
end
section
variable {E : Set} {Q : Exit → Sd → Prop} {ops : Array Oper} {draw : Bool} {rest : Todo} {way : Way3} {ty : TypeId} {pos : String} {af : Array Edge} {gd : Option (Nat × Bool)}
variable {env : List (Nat × V)} {H : List (Nat × Ob)} {gl : List (Nat × List D)} {d : Nat}
theorem s_invoke {f : Nat} {t : TypeId} {name : String} {x : Operand} {xs : List Operand} {ats : Array TypeId} {u : V} {vs args : List V} {H0 : List (Nat × Ob)} {R : V → List (Nat × Ob) → Prop} [hf : TFun E.P f] (hx0 : Sd.ev ⟨env, H, gl⟩ x = some (.ifc t u)) (hox : okOp x = true) (hme : ∀ v w, (method (E.P.types.size + Made.depth) t v name).run E.P w = .ok (f, v) w)
    (hx : Evs ⟨env, H, gl⟩ xs vs) (ha : ArgsE H (u :: vs) args)
    (hc : FnE E.P gl f args H0 R) (hs : SubH H H0) (hwm : wholeMut H0 = true) (hd : d < E.C.nt) (hg : Sd.gd ⟨env, H, gl⟩ ops ⟨some d, .call { callee := .invoke x name, args := xs.toArray, argTypes := ats }, ty, pos, af, gd⟩ = some true) (hw : isBar draw way = true)
    (h : ∀ v H1, R v H1 → freshNew ⟨env, H, gl⟩ H0 H1 = true ∧ TR E draw ops Q rest ⟨(d, v) :: env, H1 ++ H, gl⟩) : TR E draw ops Q (.step ⟨some d, .call { callee := .invoke x name, args := xs.toArray, argTypes := ats }, ty, pos, af, gd⟩ way rest) ⟨env, H, gl⟩ := by
  refine tr_calls rfl hd hg rfl hw fun β a w hB => ?_
  obtain ⟨u', h1, h2⟩ := hB.ev hx0 hox
  refine ⟨f, _, run_invoke hf a h1 (hme u' w) xs ats (some d), ?_⟩
  have hsub := hs.sub
  let M : Nat → Nat → Prop := fun b o => E.C.M0 b o ∨ ∃ m ob, look m H = some ob ∧ look m H0 = none ∧ own (β m) ob b ∧ ob.mut o
  have hMut : Mut M β H0 = Mut E.C.M0 β H := by
    funext b o
    apply propext
    constructor
    · rintro ((hm | ⟨m, ob, q1, _, q2, q3⟩) | ⟨n, ob, q1, q2, q3⟩)
      · exact .inl hm
      · exact .inr ⟨m, ob, q1, q2, q3⟩
      · exact .inr ⟨n, ob, hsub n ob q1, q2, q3⟩
    · rintro (hm | ⟨n, ob, q1, q2, q3⟩)
      · exact .inl (.inl hm)
      · cases h0 : look n H0 with
        | none => exact .inl (.inr ⟨n, ob, q1, h0, q2, q3⟩)
        | some ob0 =>
          have := hsub n ob0 h0
          rw [q1] at this
          cases this
          exact .inr ⟨n, ob, h0, q2, q3⟩
  have hrow : ∀ n e sz sh xs k, look n H0 = some (.row e sz sh xs k) → ∃ sh' xs', look n H = some (.row e sz sh' xs' k) := fun n e sz sh xs k hl => ⟨sh, xs, hsub n _ hl⟩
  have hargs := ha.rep hB (show RepL w (Mut E.C.M0 β H) β H (u :: vs) (u' :: xs.map a.eval) from ⟨u', _, rfl, h2, hx.rep hB⟩)
  refine (hc w M β _ ?_ ?_ ⟨fun n ob hl => ?_, fun n m b ob ob' hne q1 q2 => hB.apart n m b ob ob' hne (hsub n ob q1) (hsub m ob' q2), fun n ob b o hl hb' hm => ?_⟩ ?_).mono ?_
  · rintro b o (hm | ⟨m, ob, q1, _, q2, _⟩)
    · have := hB.low b o hm
      have := hB.frame.size
      omega
    · exact hB.old q1 q2
  · rw [hMut]
    exact RepL.keep (Keeps.refl _ _) (fun _ => rfl) hrow _ _ hargs
  · rw [hMut]
    exact RepO.keep (Keeps.refl _ _) (fun _ _ => rfl) (fun vs hL => RepL.keep (Keeps.refl _ _) (fun _ => rfl) hrow _ _ hL) (hB.obs n ob (hsub n ob hl))
  · rcases hm with hm | ⟨m, ob', q1, q2, q3, _⟩
    · exact hB.out n ob b o (hsub n ob hl) hb' hm
    · have hne : n ≠ m := by rintro rfl; rw [hl] at q2; cases q2
      exact hB.apart n m b ob ob' hne (hsub n ob hl) q1 hb' q3
  · rw [hMut]
    exact hB.glob
  · rintro e w' ⟨v, x, H1, β1, hR, hok, rfl, hfr, hβ, hnew, ho, hv⟩
    obtain ⟨hf', hT⟩ := h v H1 hR
    obtain ⟨β', hB', hv'⟩ := hB.called hsub hwm rfl hok hfr hβ hnew ho hf' hv
    exact ⟨x, _, β', v, rfl, hB', hv', hT⟩
theorem y_invoke {r : V} {H1 : List (Nat × Ob)} {f : Nat} {t : TypeId} {name : String} {x : Operand} {xs : List Operand} {ats : Array TypeId} {u : V} {vs args : List V} {H0 : List (Nat × Ob)} [hf : TFun E.P f] (h : TR E draw ops Q rest ⟨(d, r) :: env, H1 ++ H, gl⟩) (hx0 : Sd.ev ⟨env, H, gl⟩ x = some (.ifc t u) := by exact rfl) (hox : okOp x = true := by exact rfl) (hme : ∀ v w, (method (E.P.types.size + Made.depth) t v name).run E.P w = .ok (f, v) w := by exact fun _ _ => by kernel_rfl)
    (hx : Evs ⟨env, H, gl⟩ xs vs := by (repeat (first | exact Evs.nil | apply Evs.cons rfl rfl)); fail_if_success intros) (ha : ArgsE H (u :: vs) args := by (repeat (first | exact ArgsE.nil | apply ArgsE.cons (ArgE.own rfl) | apply ArgsE.cons (ArgE.nils _) | apply ArgsE.cons (ArgE.same _))); fail_if_success intros) (hc : FnE E.P gl f args H0 (fun v H2 => v = r ∧ H2 = H1)) (hs : SubH H H0 := by (repeat (first | exact SubH.nil | apply SubH.cons rfl)); fail_if_success intros) (hwm : wholeMut H0 = true := by exact rfl) (hd : d < E.C.nt := by exact ltd rfl)
    (hg : Sd.gd ⟨env, H, gl⟩ ops ⟨some d, .call { callee := .invoke x name, args := xs.toArray, argTypes := ats }, ty, pos, af, gd⟩ = some true := by exact rfl) (hw : isBar draw way = true := by exact rfl) (hfr : freshNew ⟨env, H, gl⟩ H0 H1 = true := by exact rfl) :
    TR E draw ops Q (.step ⟨some d, .call { callee := .invoke x name, args := xs.toArray, argTypes := ats }, ty, pos, af, gd⟩ way rest) ⟨env, H, gl⟩ := s_invoke hx0 hox hme hx ha hc hs hwm hd hg hw fun _ _ e => by obtain ⟨rfl, rfl⟩ := e; exact ⟨hfr, h⟩
theorem y_lit_s {t e sz len : Nat} {ps : List (Nat × Operand)} {cs : List V} [ht : TSlice E.P t e sz] (n : Nat) (h : TR E draw ops Q rest ⟨(d, .bsl n 0 len) :: env, (n, .sbox cs) :: H, gl⟩) (hp : ElemsV ⟨env, H, gl⟩ sz 0 ps cs := by repeat (first | exact ElemsV.nil _ | (apply ElemsV.cons; exact rfl; exact rfl; exact rfl; (focus (first | (refine CellsV.d (by first | exact CellsD.agg _ | constructor) (by (repeat (first | exact MapD.nil | apply MapD.nils | apply MapD.cons)); fail_if_success intros)) | constructor)); rfl))) (hlen : ps.length = len := by rfl) (h0 : 0 < len := by exact ltd rfl) (hsmall : len * sz ≤ 16777216 := by decide) (hn : Sd.fresh ⟨env, H, gl⟩ n = true := by exact rfl) (hs : saysL n cs = false := by rfl) (hd : d < E.C.nt := by exact ltd rfl)
    (hg : Sd.gd ⟨env, H, gl⟩ ops ⟨some d, .buildSlice t len ps.toArray, ty, pos, af, gd⟩ = some true := by exact rfl) (hw : way.loud = true := by exact rfl) : TR E draw ops Q (.step ⟨some d, .buildSlice t len ps.toArray, ty, pos, af, gd⟩ way rest) ⟨env, H, gl⟩ := tr_grow (g_lit_s hp hlen h0 hsmall hn hs) rfl hd hg rfl hw h
theorem y_append_s {t e sz sz' m len : Nat} {s x : Operand} {cs : List V} [ht : TSlice E.P t e sz] (n : Nat) (h : TR E draw ops Q rest ⟨(d, .bsl n 0 len) :: env, (n, .sbox cs) :: H, gl⟩) (hs : Sd.ev ⟨env, H, gl⟩ s = some (.nils sz') := by exact rfl) (hos : okOp s = true := by exact rfl) (hx : Sd.ev ⟨env, H, gl⟩ x = some (.bsl m 0 len) := by exact rfl) (hox : okOp x = true := by exact rfl) (hl : look m H = some (.sbox cs) := by exact rfl) (hlen : cs.length = len * sz := by rfl) (h0 : 0 < len := by exact ltd rfl) (hsm : len ≤ 1000000 := by decide) (hone : cs.all V.one = true := by rfl) (hn : Sd.fresh ⟨env, H, gl⟩ n = true := by exact rfl) (hsy : saysL n cs = false := by rfl) (hd : d < E.C.nt := by exact ltd rfl)
    (hg : Sd.gd ⟨env, H, gl⟩ ops ⟨some d, .call { callee := .builtin .append, args := #[s, x], argTypes := #[t, t] }, ty, pos, af, gd⟩ = some true := by exact rfl) (hw : way.loud = true := by exact rfl) : TR E draw ops Q (.step ⟨some d, .call { callee := .builtin .append, args := #[s, x], argTypes := #[t, t] }, ty, pos, af, gd⟩ way rest) ⟨env, H, gl⟩ := tr_grow (g_append_s hs hos hx hox hl hlen h0 hsm hone hn hsy (d := d)) rfl hd hg rfl hw h
theorem yyw {A G : Prop} (h : A) (hs : Step A G := by (apply st_p; exact rfl; exact rfl; (first | (apply q_makeIface; exact rfl; exact rfl; kernel_rfl) | (apply q_len_bsl; exact rfl; exact rfl) | (apply q_index_bsl; exact rfl; exact rfl; exact rfl; exact rfl; (focus (first | with_reducible exact nat_lit_eq | exact rfl | exact (Int.toNat_of_nonneg (by omega)).symm)); (focus (first | omega | (simp only [List.length_cons, List.length_nil, List.length_append, List.length_map, List.length_take, List.length_drop]; omega))))); exact ltd rfl; exact rfl)) : G := hs.go h
theorem yyv {A G : Prop} (h : A) (hs : Step A G := by (apply st_q; exact rfl; exact rfl; (apply q_load_sbox; exact rfl; exact rfl; exact rfl; exact rfl); exact ltd rfl; exact rfl; exact rfl)) : G := hs.go h
end
end
end Go.Proofs.YtjhbglklcddekaaGreatDoor
