/- Parts: D33, D34, D35, D36. -/
import Derived.Test.YtjhbglklcddekaaGreatDoorP20
import Derived.LoopNIn
set_option linter.all false
set_option maxRecDepth 100000
set_option maxHeartbeats 16000000
namespace Go.Proofs.YtjhbglklcddekaaGreatDoor
open Go.RowKit
section
structure SwiftK (E : Set) (S : Sd) (o : Oper) (S' : Nat → Sd) (v : Nat → V) : Prop where
  out : ∀ β a w, StB E.C β S a w → ∃ x β' k, (∀ w', (execOp a.eval o).run E.P w' = .ok (.value x) w') ∧ StB E.C β' (S' k) a w ∧ RepV w (Mut E.C.M0 β' (S' k).H) β' (S' k).H (v k) x
theorem tr_stillK {E : Set} {Q : Exit → Sd → Prop} {S : Sd} {ops : Array Oper} {draw : Bool} {rest : Todo} {way : Way3} {o : Oper} {d : Nat} {S' : Nat → Sd} {v : Nat → V} (hq : SwiftK E S o S' v) (hdst : o.dst = some d) (hd : d < E.C.nt) (hg : S.gd ops o = some true) (hdf : isDefer o = false) (h : ∀ k, TR E draw ops Q rest ((S' k).put d (v k))) : TR E draw ops Q (.step o way rest) S := fun a w hS => by
  have hS0 := hS
  obtain ⟨β, hB⟩ := hS
  obtain ⟨x, β', k, h1, hB', h2⟩ := hq.out β a w hB
  have hput : ∀ w', Grows w w' → St E.C ((S' k).put d (v k)) (a.put o.dst x) w' := fun w' g => by
    rw [hdst]
    exact St.later ⟨β', hB'.put hd h2⟩ g
  cases draw with
  | true =>
    dsimp only
    cases way with
    | pure =>
      simp only [wpMix3]
      rw [Sd.gd_sound hS0 hg, if_pos rfl]
      exact ⟨x, fun w' => h1 w', h k _ _ (hput w (Grows.refl w))⟩
    | quiet =>
      simp only [wpMix3]
      rw [Sd.gd_sound hS0 hg, if_pos rfl]
      refine ⟨x, fun n => ?_, h k _ _ (hput w (Grows.refl w))⟩
      rw [h1 n.w]
      exact ⟨rfl, rfl⟩
    | grow =>
      simp only [wpMix3]
      intro n
      rw [Sd.gd_sound hS0 hg, if_pos rfl]
      exact wp_value (h1 n.w) ⟨Grows.refl _, h k _ _ (hput n.w n.grows)⟩
    | bar =>
      simp only [wpMix3]
      intro n
      rw [Sd.gd_sound hS0 hg, if_pos rfl]
      exact wp_value (h1 n.w) (h k _ _ (hput n.w n.grows))
  | false => exact listIn_of_wp hS0 hg hdf fun K hK => wp_value (h1 w) (hK _ _ (h k _ _ (hput w (Grows.refl w))))
theorem updF_self (f : ByteArray → List D) (s : ByteArray) : updF f s (f s) = f := by
  funext t
  unfold updF
  split
  · rename_i e; rw [e]
  · rfl
section
variable {E : Set} {Q : Exit → Sd → Prop} {ops : Array Oper} {draw : Bool} {rest : Todo} {way : Way3} {ty : TypeId} {pos : String} {af : Array Edge} {gd : Option (Nat × Bool)} {dst : Option Tmp}
variable {env : List (Nat × V)} {H : List (Nat × Ob)} {gl : List (Nat × List D)} {d : Nat}
theorem z_slook (q : Nat) {t k e n e' sz : Nat} {x y : Operand} {f : ByteArray → List D} {s : ByteArray} [ht : TMap E.P t k e] [hkk : TKey E.P k .str] [hz : TZeroV E.P e (.nils sz)]
    (h : TR E draw ops Q rest ⟨(d, .own q 0) :: env, (n, .smap e' sz f (some (s, .own q 0))) :: (q, .row e' sz false (f s) 0) :: H, gl⟩) (hx : Sd.ev ⟨env, H, gl⟩ x = some (.map n) := by exact rfl) (hox : okOp x = true := by exact rfl) (hl : look n H = some (.smap e' sz f none) := by exact rfl)
    (hy : Sd.ev ⟨env, H, gl⟩ y = some (.d (.str s)) := by exact rfl) (hoy : okOp y = true := by exact rfl) (hq : Sd.fresh ⟨env, H, gl⟩ q = true := by exact rfl) (hd : d < E.C.nt := by exact ltd rfl)
    (hg : Sd.gd ⟨env, (n, .smap e' sz f (some (s, .own q 0))) :: (q, .row e' sz false (f s) 0) :: H, gl⟩ ops ⟨some d, .lookup t x y false, ty, pos, af, gd⟩ = some true := by exact rfl) (hw : way.known = false := by exact rfl) : TR E draw ops Q (.step ⟨some d, .lookup t x y false, ty, pos, af, gd⟩ way rest) ⟨env, H, gl⟩ := by
  refine tr_weak (wk_smap_out s hl hq) ?_
  refine tr_quiet (q_slookup (n := n) (f := f) (s := s) (v := .own q 0) (e' := e') (sz := sz) ?_ hox ?_ ?_ hoy) rfl hd hg rfl hw h
  · cases x <;> exact hx
  · exact (look_set n).trans (if_pos rfl)
  · cases y <;> exact hy
theorem z_slook2 {t k e n e' sz : Nat} {x y : Operand} {f : ByteArray → List D} {s : ByteArray} {v : V} [ht : TMap E.P t k e] [hkk : TKey E.P k .str] [hz : TZeroV E.P e (.nils sz)]
    (h : TR E draw ops Q rest ⟨(d, v) :: env, H, gl⟩) (hx : Sd.ev ⟨env, H, gl⟩ x = some (.map n) := by exact rfl) (hox : okOp x = true := by exact rfl) (hl : look n H = some (.smap e' sz f (some (s, v))) := by exact rfl)
    (hy : Sd.ev ⟨env, H, gl⟩ y = some (.d (.str s)) := by exact rfl) (hoy : okOp y = true := by exact rfl) (hd : d < E.C.nt := by exact ltd rfl)
    (hg : Sd.gd ⟨env, H, gl⟩ ops ⟨some d, .lookup t x y false, ty, pos, af, gd⟩ = some true := by exact rfl) (hw : way.known = false := by exact rfl) : TR E draw ops Q (.step ⟨some d, .lookup t x y false, ty, pos, af, gd⟩ way rest) ⟨env, H, gl⟩ :=
  tr_quiet (q_slookup hx hox hl hy hoy) rfl hd hg rfl hw h
theorem z_supd {t k e n e' sz q kq : Nat} {x y z : Operand} {f : ByteArray → List D} {s : ByteArray} {v : V} {xs : List D} {H0 : List (Nat × Ob)} [ht : TMap E.P t k e] [hkk : TKey E.P k .str]
    (h : TR E draw ops Q rest ⟨env, (n, .smap e' sz (updF f s xs) none) :: H0, gl⟩) (hx : Sd.ev ⟨env, H, gl⟩ x = some (.map n) := by exact rfl) (hox : okOp x = true := by exact rfl) (hl : look n H = some (.smap e' sz f (some (s, v))) := by exact rfl)
    (hy : Sd.ev ⟨env, H, gl⟩ y = some (.d (.str s)) := by exact rfl) (hoy : okOp y = true := by exact rfl) (hz : Sd.ev ⟨env, H, gl⟩ z = some (.own q kq) := by exact rfl) (hoz : okOp z = true := by exact rfl)
    (hr : look q ((n, Ob.smap e' sz f (some (s, .own q kq))) :: H) = some (.row e' sz false xs kq) := by exact rfl) (hd : Drop [q] ((n, Ob.smap e' sz f (some (s, .own q kq))) :: H) H0 := by (repeat (first | exact Drop.nil | apply Drop.drop rfl | apply Drop.take rfl)); fail_if_success intros) (hN : E.C.N.contains q = false := by exact rfl)
    (hg : Sd.gd ⟨env, H, gl⟩ ops ⟨none, .mapUpdate t x y z, ty, pos, af, gd⟩ = some true := by exact rfl) (hw : isBar draw way = true := by exact rfl) : TR E draw ops Q (.step ⟨none, .mapUpdate t x y z, ty, pos, af, gd⟩ way rest) ⟨env, H, gl⟩ :=
  tr_turn (t_supdate hx hox hl hy hoy hz hoz) rfl hg rfl hw (tr_weak (wk_smap_in ((look_set n).trans (if_pos rfl)) hr hd hN) h)
theorem wk_sput {C : Ctx} {n q e sz k : Nat} {f : ByteArray → List D} {s : ByteArray} {H0 : List (Nat × Ob)} (hl : look n H = some (.smap e sz f (some (s, .own q k))) := by exact rfl) (hr : look q H = some (.row e sz false (f s) k) := by exact rfl) (hd : Drop [q] H H0 := by (repeat (first | exact Drop.nil | apply Drop.drop rfl | apply Drop.take rfl)); fail_if_success intros) (hN : C.N.contains q = false := by exact rfl) :
    Wk C ⟨env, H, gl⟩ ⟨env, (n, .smap e sz f none) :: H0, gl⟩ := by
  have := wk_smap_in (C := C) (env := env) (gl := gl) hl hr hd hN
  rwa [updF_self] at this
theorem k_trunc {S : Sd} {t e sz n k m : Nat} {x hi : Operand} {xs : List D} {ki : IntKind} {mv : Int} [ht : TSlice E.P t e sz] (hx : S.ev x = some (.own n k)) (hox : okOp x = true) (hl : look n S.H = some (.row e sz false xs k)) (hh : S.ev hi = some (.d (.int ki mv))) (hoh : okOp hi = true) (em : mv = (m : Nat)) (hm : m ≤ xs.length) (hN : E.C.N.contains n = false) :
    SwiftK E S ⟨some d, .slice t x none (some hi) none, ty, pos, af, gd⟩ (fun k' => { S with H := (n, .row e sz false (xs.take m) k') :: S.H }) (fun k' => .own n k')   := SwiftK.mk fun β a w h => by
  subst em
  obtain ⟨ad, c, h1, h2, h3⟩ := h.trunc hl hm _ (Nat.le_refl _) hN
  have h4 : a.eval x = (β n).v := h.ev hx hox e sz false xs hl
  have h5 : a.eval hi = .int ki (m : Nat) := h.ev hh hoh
  refine ⟨.slice ad m c, _, _, fun w => ?_, h3, repV_own⟩
  have h6 := run_slice_hi (P := E.P) ht ad xs.length c m ki (by omega) w
  have h7 : sliced ad 0 m c sz = .slice ad m c := by
    unfold sliced
    cases ad with
    | none => simp
    | some p => simp [Addr.add]
  rw [h7] at h6
  obtain ⟨ie, hu, _⟩ := slice_parts ht
  simp [execOp, Instr.sliceAt, h4, h1, h5, h6, run_underlying hu]
theorem z_trunc {t e sz n k m : Nat} {x hi : Operand} {xs : List D} {ki : IntKind} {mv : Int} [ht : TSlice E.P t e sz] (h : ∀ k', TR E draw ops Q rest ⟨(d, .own n k') :: env, (n, .row e sz false (xs.take m) k') :: H, gl⟩) (hx : Sd.ev ⟨env, H, gl⟩ x = some (.own n k) := by exact rfl) (hox : okOp x = true := by exact rfl)
    (hl : look n H = some (.row e sz false xs k) := by exact rfl) (hh : Sd.ev ⟨env, H, gl⟩ hi = some (.d (.int ki mv)) := by exact rfl) (hoh : okOp hi = true := by exact rfl) (em : mv = (m : Nat) := by first | exact rfl | omega) (hm : m ≤ xs.length := by omega) (hN : E.C.N.contains n = false := by exact rfl) (hd : d < E.C.nt := by exact ltd rfl)
    (hg : Sd.gd ⟨env, H, gl⟩ ops ⟨some d, .slice t x none (some hi) none, ty, pos, af, gd⟩ = some true := by exact rfl) : TR E draw ops Q (.step ⟨some d, .slice t x none (some hi) none, ty, pos, af, gd⟩ way rest) ⟨env, H, gl⟩ :=
  tr_stillK (k_trunc hx hox hl hh hoh em hm hN (d := d)) rfl hd hg rfl h
theorem tr_rowsmall (n : Nat) {e sz k : Nat} {sh : Bool} {xs : List D} (hl : look n H = some (.row e sz sh xs k)) (h : xs.length ≤ 9223372036854775807 → TR E draw ops Q rest ⟨env, H, gl⟩) : TR E draw ops Q rest ⟨env, H, gl⟩ := fun a w ⟨β, hB⟩ => by
  refine h ?_ a w ⟨β, hB⟩
  obtain ⟨ys, h1, _⟩ := hB.obs n _ hl
  rcases h1.2 with ⟨_, q2⟩ | ⟨g, cap, cur, _, _, _, q3, q4, _⟩
  · omega
  · have : maxLen = 9223372036854775807 := rfl
    omega
structure EndsW (C : Ctx) (P : Program) (rs : List ResultVar) (H0 : List (Nat × Ob)) (R : V → List (Nat × Ob) → Prop) (e : Exit) (S : Sd) : Prop where
  out : ∃ S', Wk C S S' ∧ EndsE P rs H0 R e S'
theorem tc_endsW {c : Code} {S : Sd} {P : Program} {rs : List ResultVar} {H0 : List (Nat × Ob)} {R : V → List (Nat × Ob) → Prop} (h : TC E c (EndsW E.C P rs H0 R) S) : TC E c (EndsE P rs H0 R) S :=
  fun a w hS => wpIn_mono (h a w hS) fun _ a w ⟨_, hS', ⟨S2, h1, h2⟩⟩ => ⟨S2, h1 a w hS', h2⟩
theorem endsW {C : Ctx} {S S' : Sd} {P : Program} {rs : List ResultVar} {H0 : List (Nat × Ob)} {R : V → List (Nat × Ob) → Prop} {e : Exit} (hw : Wk C S S') (h : EndsE P rs H0 R e S') : EndsW C P rs H0 R e S := ⟨S', hw, h⟩
theorem y_endn {P : Program} {H0 H1 : List (Nat × Ob)} {R : V → List (Nat × Ob) → Prop} {S : Sd} (hr : R (.tup []) H1) (hsub : Sub S.H H1 := by (repeat (first | exact Sub.nil | apply Sub.cons rfl)); fail_if_success intros) (hok : endOk H0 H1 (.tup []) = true := by rfl) : EndsE P [] H0 R .normal S := EndsE.mk (.inr rfl) ⟨[], _, ResE.nil, hsub, hok, hr⟩
theorem g_make0 {S : Sd} {n t e sz m : Nat} {kl k : IntKind} {p q : Int} {y x : Operand} [ht : TSlice E.P t e sz] (hy : S.ev y = some (.d (.int kl q))) (hoy : okOp y = true) (hq : q = 0) (hx : S.ev x = some (.d (.int k p))) (hox : okOp x = true) (hp : p = (m : Nat)) (hm : m ≤ 100000000000) (hn : S.fresh n = true) :
    Grow E S ⟨some d, .makeSlice t y x, ty, pos, af, gd⟩ { S with H := (n, .row e sz true [] 0) :: S.H } (.own n 0) := Grow.mk fun β a w h => by
  subst hp hq
  obtain ⟨bytes, ⟨i, z', hu, hi, hz', hs, hby, hzs, hpos⟩, hbl⟩ := slice_elem ht
  have h0 : a.eval y = .int kl 0 := h.ev hy hoy
  have h1 : a.eval x = .int k (m : Nat) := h.ev hx hox
  obtain ⟨w', h2, h3, h4⟩ := run_make_own (P := E.P) w 0 t e i z' sz hu hi hz' hs kl k m (by rw [hby]; have := Nat.mul_le_mul hbl hm; omega) (by unfold maxLen; omega) (Nat.zero_le _)
  have g : Grows w w' := (Below.refl _ _).grown h4 (Nat.le_refl _) (fun k hk => by cases hk)
  refine ⟨_, w', _, ?_, g, h.newRow (sh := true) (xs := []) hn g (fun b hb' => ?_) h3 rfl, repV_own⟩
  · simp only [execOp, h0, h1, Sem.run_bind, h2, Result.andThen_ok, Sem.run_pure]
  · simp only [Value.ownBlock, Option.some.injEq] at hb'
    omega
theorem z_make0 {t e sz m : Nat} {kl k : IntKind} {p q : Int} {y x : Operand} [ht : TSlice E.P t e sz] (n : Nat) (h : TR E draw ops Q rest ⟨(d, .own n 0) :: env, (n, .row e sz true [] 0) :: H, gl⟩) (hy : Sd.ev ⟨env, H, gl⟩ y = some (.d (.int kl q)) := by exact rfl) (hoy : okOp y = true := by exact rfl) (hq : q = 0 := by exact rfl) (hx : Sd.ev ⟨env, H, gl⟩ x = some (.d (.int k p)) := by exact rfl) (hox : okOp x = true := by exact rfl)
    (hp : p = (m : Nat) := by first | with_reducible exact nat_lit_eq | exact rfl | exact (Int.toNat_of_nonneg (by omega)).symm) (hm : m ≤ 100000000000 := by omega) (hn : Sd.fresh ⟨env, H, gl⟩ n = true := by exact rfl) (hd : d < E.C.nt := by exact ltd rfl)
    (hg : Sd.gd ⟨env, H, gl⟩ ops ⟨some d, .makeSlice t y x, ty, pos, af, gd⟩ = some true := by exact rfl) (hw : way.loud = true := by exact rfl) : TR E draw ops Q (.step ⟨some d, .makeSlice t y x, ty, pos, af, gd⟩ way rest) ⟨env, H, gl⟩ := tr_grow (g_make0 hy hoy hq hx hox hp hm hn) rfl hd hg rfl hw h
end
end
section
section
variable {E : Set} {S : Sd} {dst : Option Tmp} {ty : TypeId} {pos : String} {af : Array Edge} {gd : Option (Nat × Bool)}
theorem q_index_agg {t m e sz sz' i : Nat} {x y : Operand} {k : IntKind} {p : Int} {cs ds : List D} [ht : TArray E.P t m e sz] [hc : TAgg E.P e sz'] (hx : S.ev x = some (.d (.agg cs))) (hox : okOp x = true) (hy : S.ev y = some (.d (.int k p))) (hoy : okOp y = true) (hi : p = (i : Nat)) (hm : i < m) (hv : Cut cs (i * sz) sz' ds) :
    Swift E S ⟨dst, .index t x y, ty, pos, af, gd⟩ (.d (.agg ds)) := Swift.mk fun β a w h => by
  subst hi
  obtain ⟨vs, h1, h2⟩ := h.ev hx hox
  have hy' : a.eval y = .int k (i : Nat) := h.ev hy hoy
  obtain ⟨h3, h4⟩ := hv.eq
  obtain ⟨ie, hu, hie, hs, _⟩ := array_parts ht
  obtain ⟨d, i', hu', n1, hi', hs'⟩ := agg_parts hc
  have hee : sz = sz' := by rw [hie] at hi'; cases hi'; rw [← hs, hs']
  subst hee
  have h5 : RepA w (Mut E.C.M0 β S.H) ds ((vs.drop (i * sz)).take sz) := by rw [h3]; exact (h2.drop _).take sz
  refine ⟨.agg ((vs.drop (i * sz)).take sz).toArray, fun w' _ => ?_, _, rfl, h5⟩
  have he : (vs.toArray.extract (i * sz) (i * sz + sz)) = ((vs.drop (i * sz)).take sz).toArray := by simp [List.extract_eq_take_drop]
  have hlt : (i : Int) < (m : Int) := by omega
  simp [execOp, h1, hy', Instr.index, asIntOf, run_underlying hu, hlt, hm, run_size hie, hs, part, isAgg_yes hu' n1, run_size hi', hs', he]
end
theorem tc_cut {E : Set} {Q : Exit → Sd → Prop} {S : Sd} {x y : Code} {ι : Type} (F : ι → Sd) (P : ι → Prop) (h1 : TC E x (Exit.thenD (fun S1 => ∃ i, P i ∧ Wk E.C S1 (F i)) Q) S) (h2 : ∀ i, P i → TC E y Q (F i)) : TC E (.seq x y) Q S :=
  tc_seq fun K hK => tc_mono h1 fun e S1 h => match e, h with
    | .normal, ⟨i, hp, hw⟩ => hK _ (tc_wk hw (h2 i hp))
    | .ret, h => h
    | .exit _, h => h
    | .panic _, h => h
    | .goto _, h => h
    | .outgrown, h => h
section
variable {E : Set} {Q : Exit → Sd → Prop} {env : List (Nat × V)} {H : List (Nat × Ob)} {gl : List (Nat × List D)}
theorem tc_small_agg {c : Code} (t i : Nat) {sz : Nat} {xs ds : List D} (hl : look t env = some (.d (.agg ds))) (hi : ds[i]? = some (.list sz xs)) (h : xs.length ≤ 9223372036854775807 → TC E c Q ⟨env, H, gl⟩) : TC E c Q ⟨env, H, gl⟩ := fun a w ⟨β, hB⟩ => by
  obtain ⟨x, _, vs, h2, h3⟩ := hB.env t _ hl
  obtain ⟨_, _, _, h4⟩ := h3.get hi
  obtain ⟨_, _, _, _, q1, q2, _⟩ := h4
  exact h (Nat.le_trans q1 q2) a w ⟨β, hB⟩
end
end
section
section
variable {E : Set} {S : Sd} {Q : Exit → Sd → Prop} {ops : Array Oper} {draw : Bool} {rest : Todo} {way : Way3} {ty : TypeId} {pos : String} {af : Array Edge} {gd : Option (Nat × Bool)}
theorem tr_ats (l : List Nat) {d : Nat} {op : Op} (h : TR E draw ops Q (.step ⟨some d, op, ty, pos, af, gd⟩ way rest) S) (hm : l.elem d = true := by exact rfl) : TR E draw ops Q (.step ⟨some d, op, ty, pos, af, gd⟩ way rest) S := h
end
end
section
section
variable {E : Set} {Q : Exit → Sd → Prop}
def Rounds (E : Set) (c : Code) (Q : Exit → Sd → Prop) : Nat → Sd → Prop
  | 0, _ => False
  | m + 1, S => TC E c (Exit.thenD (Rounds E c Q m) Q) S
theorem rounds_in {c : Code} : ∀ (m : Nat) (S : Sd), Rounds E c Q m S → ∀ a w, St E.C S a w → Code.roundsIn (WF E.rd) 0 E.P c (Qof E.C Q) m a w
  | 0, _, h, _, _, _ => h.elim
  | m + 1, S, h, a, w, hS => by
    rw [roundsIn_succ]
    refine wpIn_mono (h a w hS) fun e a' w' ⟨S', h1, h2⟩ => ?_
    cases e
    case normal => exact rounds_in m S' h2 a' w' h1
    all_goals exact ⟨S', h1, h2⟩
theorem tc_rounds {c : Code} {S : Sd} (m : Nat) (h : Rounds E c Q m S) : TC E (.loop c) Q S := fun a w hS => wpIn_loop_rounds m (rounds_in m S h a w hS)
theorem rounds_next {c : Code} {m : Nat} {S : Sd} (h : ∀ K : Sd → Prop, (∀ S, Rounds E c Q m S → K S) → TC E c (Exit.thenD K Q) S) : Rounds E c Q (m + 1) S := h _ fun _ h => h
end
section
variable {E : Set} {dst : Option Tmp} {ty : TypeId} {pos : String} {af : Array Edge} {gd : Option (Nat × Bool)}
theorem run_slice3 {P : Program} {t e sz : Nat} (ht : TSlice P t e sz) (a : Option Addr) (n c l m x : Nat) (k k' k'' : IntKind) (h1 : l ≤ m) (h2 : m ≤ x) (h3 : x ≤ c) (w : World) :
    (Instr.slice t (.slice a n c) (some (.int k (l : Nat))) (some (.int k' (m : Nat))) (some (.int k'' (x : Nat)))).run P w = .ok (.slice (if x = l then a else a.map (·.add (l * sz))) (m - l) (x - l)) w := by
  obtain ⟨ie, hu, hie, hs, hpos⟩ := slice_parts ht
  have hb : (Instr.sliceBounds true n c (some (.int k (l : Nat))) (some (.int k' (m : Nat))) (some (.int k'' (x : Nat)))).run P w = .ok (l, m, x) w := by
    have e1 : (l : Int) ≤ (m : Int) := by omega
    have e2 : (m : Int) ≤ (x : Int) := by omega
    have e3 : (x : Int) ≤ (c : Int) := by omega
    simp [Instr.sliceBounds, Instr.sliceBound, asIntOf, show ¬ m < l by omega, show ¬ x < m by omega, show ¬ c < x by omega, h1, h2, h3]
  simp [run_underlying hu, Instr.slice, hb, run_size hie, hs]
theorem q_slice3 {S : Sd} {t e sz n k p m e' : Nat} {sh : Bool} {xs : List D} {x lo hi mx : Operand} {k1 k2 k3 : IntKind} {v1 v2 v3 : Int} [ht : TSlice E.P t e sz] (hx : S.ev x = some (.own n k)) (hox : okOp x = true) (hl : look n S.H = some (.row e' sz sh xs k))
    (hlo : S.ev lo = some (.d (.int k1 v1))) (hol : okOp lo = true) (hhi : S.ev hi = some (.d (.int k2 v2))) (hoh : okOp hi = true) (hmx : S.ev mx = some (.d (.int k3 v3))) (hom : okOp mx = true) (e1 : v1 = (p : Nat)) (e2 : v2 = ((p + m : Nat) : Int)) (e3 : v3 = ((p + m : Nat) : Int)) (hle : p + m ≤ xs.length) :
    Swift E S ⟨dst, .slice t x (some lo) (some hi) (some mx), ty, pos, af, gd⟩ (.win n k p m) := Swift.mk fun β a w h => by
  subst e1 e2 e3
  obtain ⟨ad, c, h4, h5, h6, h7⟩ := h.row_shape hl
  have hv : a.eval x = (β n).v := h.ev hx hox e' sz sh xs hl
  have g1 : a.eval lo = .int k1 (p : Nat) := h.ev hlo hol
  have g2 : a.eval hi = .int k2 ((p + m : Nat) : Int) := h.ev hhi hoh
  have g3 : a.eval mx = .int k3 ((p + m : Nat) : Int) := h.ev hmx hom
  refine ⟨.slice (if p + m = p then ad else ad.map (·.add (p * sz))) (p + m - p) (p + m - p), fun w' _ => ?_, fun e2 sz2 sh2 xs2 hl2 => ?_⟩
  · have := run_slice3 (P := E.P) ht ad xs.length c p (p + m) (p + m) k1 k2 k3 (by omega) (Nat.le_refl _) (by omega) w'
    obtain ⟨ie, hu, _⟩ := slice_parts ht
    rw [Int.natCast_add] at this g2 g3
    simp [execOp, Instr.sliceAt, hv, h4, g1, g2, g3, this, run_underlying hu]
  · rw [hl] at hl2
    cases hl2
    refine ⟨ad, xs.length, c, _, _, h4, hle, by rw [Nat.add_sub_cancel_left], Nat.le_of_eq (by omega), fun hne => ?_⟩
    rw [if_neg (by omega)]
theorem q_len_win {S : Sd} {t e sz n k p m e' sz' : Nat} {sh : Bool} {xs : List D} {x : Operand} [ht : TSlice E.P t e sz] (hx : S.ev x = some (.win n k p m)) (hox : okOp x = true) (hl : look n S.H = some (.row e' sz' sh xs k)) : Swift E S ⟨dst, .call { callee := .builtin .len, args := #[x], argTypes := #[t] }, ty, pos, af, gd⟩ (.d (.int .i64 (m : Nat))) := Swift.mk fun β a w h => by
  obtain ⟨ie, hu, _⟩ := slice_parts ht
  obtain ⟨ad, ll, c, ad1, c1, h1, h2, h3, _⟩ := h.ev hx hox e' sz' sh xs hl
  refine ⟨.int .i64 (m : Int), fun w' _ => ?_, rfl⟩
  simp [execOp, resolve, invoke, builtin, h3, Builtin.len_, goInt, run_underlying hu]
theorem q_index_win {S : Sd} {t e sz i n k' e' p m : Nat} {sh : Bool} {x y : Operand} {xs : List D} {k : IntKind} {v : Int} [ht : TSlice E.P t e sz] (hx : S.ev x = some (.win n k' p m)) (hl : look n S.H = some (.row e' sz sh xs k')) (hy : S.ev y = some (.d (.int k v))) (hox : okOp x = true) (hoy : okOp y = true) (hi : v = (i : Nat)) (hz : i < m) :
    Swift E S ⟨dst, .indexAddr t x y, ty, pos, af, gd⟩ (.el n k' (p + i) 0) := Swift.mk fun β a w h => by
  subst hi
  obtain ⟨ad, ll, c, ad1, c1, h1, h2, h3, h3', h4⟩ := h.ev hx hox e' sz sh xs hl
  obtain ⟨ys, h2', _⟩ := h.obs n _ hl
  have h5 : a.eval y = .int k (i : Nat) := h.ev hy hoy
  rcases h2'.2 with ⟨q1, q2⟩ | ⟨g, cap, cur, q, _, _, q3, _⟩
  · rw [h1] at q1
    simp only [Value.slice.injEq] at q1
    omega
  · rw [h1] at q
    simp only [Value.slice.injEq] at q
    obtain ⟨rfl, rfl, rfl⟩ := q
    have h6 : a.eval x = .slice (some ⟨g, p * sz, none⟩) m c1 := by rw [h3, h4 (by omega)]; simp [add_flat]
    refine ⟨.pointer (some ⟨g, (p + i) * sz, none⟩), fun w' _ => ?_, fun e2 sz2 sh2 xs2 hl2 => ?_⟩
    · have := run_indexAt (P := E.P) ht (b := g) (o := p * sz) (n := m) (c := c1) (k := k) (i := i) hz w'
      rw [Nat.add_mul]
      simp [execOp, h6, h5, this]
    · rw [hl] at hl2
      cases hl2
      exact ⟨g, _, c, h1, rfl⟩
end
end
end Go.Proofs.YtjhbglklcddekaaGreatDoor
