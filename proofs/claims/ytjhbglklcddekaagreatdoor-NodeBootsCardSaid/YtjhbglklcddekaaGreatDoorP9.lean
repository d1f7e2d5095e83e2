/- Parts: D10, D11, D12. -/
import Derived.Test.YtjhbglklcddekaaGreatDoorP8
import Derived.RangeFuncLeaves
import Derived.RangeFuncRecord
set_option linter.all false
set_option maxRecDepth 100000
set_option maxHeartbeats 16000000
namespace Go.Proofs.YtjhbglklcddekaaGreatDoor
open Go.RowKit
section
inductive Pure : V → Prop
  | d (x : D) : Pure (.d x)
  | nils (sz : Nat) : Pure (.nils sz)
  | tup {vs : List V} (h : ∀ v ∈ vs, Pure v) : Pure (.tup vs)
  | clo {fn : Fn} {f c : List V} (h : ∀ v ∈ f, Pure v) (h' : ∀ v ∈ c, Pure v) : Pure (.clo fn f c)
theorem RepL.pure {w w' : World} {M M' : Nat → Nat → Prop} {β β' : Nat → Hd} {H H' : List (Nat × Ob)} : ∀ {vs : List V}, (∀ v ∈ vs, ∀ u, RepV w M β H v u → RepV w' M' β' H' v u) → ∀ {us : List Value}, RepL w M β H vs us → RepL w' M' β' H' vs us
  | [], _, _, h => h
  | v :: vs, hv, _, ⟨u, r, h1, h2, h3⟩ => ⟨u, r, h1, hv v List.mem_cons_self u h2, RepL.pure (fun v hm => hv v (List.mem_cons_of_mem _ hm)) h3⟩
theorem Pure.keep {v : V} (hp : Pure v) : ∀ {w w' : World} {M M' : Nat → Nat → Prop} {β β' : Nat → Hd} {H H' : List (Nat × Ob)}, Keeps w M w' M' → ∀ u, RepV w M β H v u → RepV w' M' β' H' v u := by
  induction hp with
  | d x => intro w w' M M' β β' H H' k u h; exact RepD.keep k x u h
  | nils => intro w w' M M' β β' H H' k u h; exact h
  | tup _ ih =>
    intro w w' M M' β β' H H' k u h
    obtain ⟨us, h1, h2⟩ := h
    exact ⟨us, h1, RepL.pure (fun v hv u hu => ih v hv k u hu) h2⟩
  | clo _ _ ih ih' =>
    intro w w' M M' β β' H H' k u h
    obtain ⟨fs, gs, h1, h2, h3⟩ := h
    exact ⟨fs, gs, h1, RepL.pure (fun v hv u hu => ih v hv k u hu) h2, RepL.pure (fun v hv u hu => ih' v hv k u hu) h3⟩
inductive Arg (H : List (Nat × Ob)) : V → V → Prop
  | d (x : D) : Arg H (.d x) (.d x)
  | own {n k e sz : Nat} {xs : List D} (h : look n H = some (.row e sz true xs k)) : Arg H (.own n k) (.d (.list sz xs))
  | nils (sz : Nat) : Arg H (.nils sz) (.d (.list sz []))
  | clo0 (fn : Fn) : Arg H (.clo fn [] []) (.clo fn [] [])
inductive Args (H : List (Nat × Ob)) : List V → List V → Prop
  | nil : Args H [] []
  | cons {v v' : V} {vs vs' : List V} (h : Arg H v v') (t : Args H vs vs') : Args H (v :: vs) (v' :: vs')
theorem Arg.rep {C : Ctx} {β : Nat → Hd} {S : Sd} {a : Act} {w : World} (h : StB C β S a w) {v v' : V} (ha : Arg S.H v v') {u : Value} (hu : RepV w (Mut C.M0 β S.H) β S.H v u) : RepV w (Mut C.M0 β S.H) noHd [] v' u := by
  cases ha with
  | d x => exact hu
  | own hl => exact (ToD.own hl).rep h hu
  | nils sz => exact (ToD.nils sz).rep h hu
  | clo0 fn => obtain ⟨fs, gs, h1, h2, h3⟩ := hu; exact ⟨fs, gs, h1, h2, h3⟩
theorem Arg.pure {H : List (Nat × Ob)} {v v' : V} (ha : Arg H v v') : Pure v' := by
  cases ha with
  | d x => exact .d x
  | own _ => exact .d _
  | nils sz => exact .d _
  | clo0 fn => exact .clo (fun _ h => by cases h) (fun _ h => by cases h)
theorem Args.rep {C : Ctx} {β : Nat → Hd} {S : Sd} {a : Act} {w : World} (h : StB C β S a w) {vs vs' : List V} (ha : Args S.H vs vs') : ∀ {us : List Value}, RepL w (Mut C.M0 β S.H) β S.H vs us → RepL w (Mut C.M0 β S.H) noHd [] vs' us := by
  induction ha with
  | nil => intro us h; exact h
  | cons h1 _ ih => intro us hu; obtain ⟨u, r, h2, h3, h4⟩ := hu; exact ⟨u, r, h2, h1.rep h h3, ih h4⟩
theorem Args.pure {H : List (Nat × Ob)} {vs vs' : List V} (ha : Args H vs vs') : ∀ v ∈ vs', Pure v := by
  induction ha with
  | nil => intro v hv; cases hv
  | cons h1 _ ih =>
    intro v hv
    rcases List.mem_cons.1 hv with rfl | hv
    · exact h1.pure
    · exact ih v hv
def Globs (gl : List (Nat × List D)) (w : World) (M : Nat → Nat → Prop) : Prop := ∀ g cs, look g gl = some cs → GlobB w M g cs
def FnD (P : Program) (gl : List (Nat × List D)) (f : FuncId) (args : List V) (R : V → Prop) : Prop :=
  ∀ (w : World) (M : Nat → Nat → Prop) (us : List Value), (∀ b o, M b o → b < w.heap.size) → RepL w M noHd [] args us → Globs gl w M →
    Calls P f us.toArray w fun e w' => ∃ v x, R v ∧ Pure v ∧ e = .returned x ∧ Below w.heap.size w w' ∧ RepV w' M noHd [] v x
theorem FnD.mono {P : Program} {gl : List (Nat × List D)} {f : FuncId} {args : List V} {R R' : V → Prop} (h : FnD P gl f args R) (hr : ∀ v, R v → R' v) : FnD P gl f args R' :=
  fun w M us h1 h2 h3 => (h w M us h1 h2 h3).mono fun _ _ ⟨v, x, h4, h5⟩ => ⟨v, x, hr v h4, h5⟩
theorem StB.mut_low {C : Ctx} {β : Nat → Hd} {S : Sd} {a : Act} {w : World} (h : StB C β S a w) : ∀ b o, Mut C.M0 β S.H b o → b < w.heap.size := by
  rintro b o (hm | ⟨n, ob, h1, h2, _⟩)
  · have := h.low b o hm
    have := h.frame.size
    omega
  · exact h.old h1 h2
section
variable {E : Set} {Q : Exit → Sd → Prop} {S : Sd} {ops : Array Oper} {draw : Bool} {rest : Todo} {way : Way3} {ty : TypeId} {pos : String} {af : Array Edge} {gd : Option (Nat × Bool)}
theorem run_call {P : Program} {f : Nat} (hf : TFun P f) (a : Act) (xs : List Operand) (ats : Array TypeId) (dst : Option Tmp) (w : World) :
    (execOp a.eval ⟨dst, .call { callee := .value (.func f), args := xs.toArray, argTypes := ats }, ty, pos, af, gd⟩).run P w = .ok (.enter f (xs.map a.eval).toArray) w := by
  have := hf.ok
  unfold callOk at this
  cases hfn : P.funcs[f]? with
  | none => rw [hfn] at this; cases this
  | some fn =>
    rw [hfn] at this
    simp only [Bool.and_eq_true, Bool.not_eq_true'] at this
    have h2 : ¬ fn.name = "runtime.NumGoroutine" := by simpa using this.2
    cases hb : fn.body with
    | none => rw [hb] at this; cases this.1
    | some c => simp [execOp, resolve, Act.eval, Deferred.ofValue, invoke, callFunc, hfn, hb, h2]
theorem tr_call {d f : Nat} {xs : List Operand} {ats : Array TypeId} {vs vs' : List V} {R : V → Prop} [hf : TFun E.P f] (hx : Evs S xs vs) (ha : Args S.H vs vs') (hc : FnD E.P S.gl f vs' R) (hd : d < E.C.nt) {o : Oper}
    (ho : o = ⟨some d, .call { callee := .value (.func f), args := xs.toArray, argTypes := ats }, ty, pos, af, gd⟩) (hg : S.gd ops o = some true) (hw : way.loud = true)
    (h : ∀ v, R v → TR E draw ops Q rest (S.put d v)) : TR E draw ops Q (.step o way rest) S := fun a w hS => by
  have hS0 := hS
  have key : ∀ w1, Grows w w1 → ∀ K : Act → World → Prop, (∀ a2 w2 v, R v → Grows w1 w2 → St E.C (S.put d v) a2 w2 → K a2 w2) → o.wp E.P a w1 K (Qof E.C Q) := fun w1 g K hK => by
    obtain ⟨β, hB⟩ := hS.later g
    unfold Oper.wp
    subst ho
    rw [run_call hf, Oper.upon_enter]
    refine (hc w1 (Mut E.C.M0 β S.H) _ hB.mut_low (ha.rep hB (hx.rep hB)) hB.glob).mono ?_
    rintro e w2 ⟨v, x, hr, hp, rfl, hb', hv⟩
    have g2 : Grows w1 w2 := hb'
    refine hK _ _ v hr g2 ⟨β, (hB.later g2).put hd (hp.keep (Keeps.refl _ _) x hv)⟩
  have hdf : isDefer o = false := by subst ho; rfl
  cases draw with
  | true =>
    dsimp only
    cases way with
    | pure => cases hw
    | quiet => cases hw
    | grow =>
      simp only [wpMix3]
      intro n
      rw [Sd.gd_sound hS0 hg, if_pos rfl]
      exact key n.w n.grows _ fun a2 w2 v hr g2 hs2 => ⟨g2, h v hr _ _ hs2⟩
    | bar =>
      simp only [wpMix3]
      intro n
      rw [Sd.gd_sound hS0 hg, if_pos rfl]
      exact key n.w n.grows _ fun a2 w2 v hr g2 hs2 => h v hr _ _ hs2
  | false => exact listIn_of_wp hS0 hg hdf fun K hK => key w (Grows.refl w) K fun a2 w2 v hr _ hs2 => hK _ _ (h v hr _ _ hs2)
inductive Res (P : Program) (S : Sd) : List ResultVar → List V → Prop
  | nil : Res P S [] []
  | tmp {t : Tmp} {v v' : V} {rs : List ResultVar} {vs : List V} (hl : S.ev (.tmp t) = some v) (ha : Arg S.H v v') (h : Res P S rs vs) : Res P S (.tmp t :: rs) (v' :: vs)
  | cell {t n ty off : Nat} {cs : List V} {v v' : V} {rs : List ResultVar} {vs : List V} [ht : TCell P ty] (hl : S.ev (.tmp t) = some (.ptr n off)) (hb : look n S.H = some (.box cs)) (hc : cs[off]? = some v) (ha : Arg S.H v v') (h : Res P S rs vs) : Res P S (.cell t ty :: rs) (v' :: vs)
  | cells {t n ty off m : Nat} {cs cs' : List V} {ds : List D} {rs : List ResultVar} {vs : List V} [ht : TAgg P ty m] (hl : S.ev (.tmp t) = some (.ptr n off)) (hb : look n S.H = some (.box cs)) (hc : Cut cs off m cs') (ha : ToDs S.H cs' ds) (hn : ds.all D.scalar = true) (h : Res P S rs vs) : Res P S (.cell t ty :: rs) (.d (.agg ds) :: vs)
def oneOf : List V → V
  | [v] => v
  | vs => .tup vs
structure Ends (P : Program) (rs : List ResultVar) (R : V → Prop) (e : Exit) (S : Sd) : Prop where
  how : e = .ret ∨ e = .normal
  res : ∃ vs, Res P S rs vs ∧ R (oneOf vs)
theorem noPanic_ends {P : Program} {rs : List ResultVar} {R : V → Prop} : noPanic (Ends P rs R) := fun c S h => by rcases h.how with h | h <;> cases h
theorem run_value {P : Program} {s : Sem Value} {w w' : World} {x : Value} (h : ((do pure (.value (← s)) : Sem Next)).run P w = .ok (.value x) w') : s.run P w = .ok x w' := by
  simp only [Sem.run_bind] at h
  cases hs : s.run P w with
  | ok v w2 => rw [hs] at h; simp only [Result.andThen_ok, Sem.run_pure, Result.ok.injEq, Next.value.injEq] at h; rw [h.1, h.2]
  | halt x w2 => rw [hs] at h; simp [Result.andThen] at h
theorem run_load_var {P : Program} {a : Act} {t ty : Nat} {w w' : World} {x : Value} {b o : Nat} (he : a.eval (.tmp t) = .pointer (some ⟨b, o, none⟩)) (h : (execOp a.eval ⟨none, .load ty (.tmp t), 0, "", #[], none⟩).run P w = .ok (.value x) w') :
    ((do loadVar ty (← asAddr (a.tmps.getD t undef))) : Sem Value).run P w = .ok x w' := by
  have h1 := run_value (s := Instr.loadAt ty (a.eval (.tmp t))) h
  rw [he] at h1
  have he' : a.tmps.getD t undef = .pointer (some ⟨b, o, none⟩) := he
  rw [he']
  exact h1
theorem res_run {P : Program} {C : Ctx} {β : Nat → Hd} {a : Act} {w : World} (h : StB C β S a w) {rs : List ResultVar} {vs : List V} (hr : Res P S rs vs) :
    ∃ us : List Value, (rs.mapM fun | .tmp t => pure (a.tmps.getD t undef) | .cell c t => do loadVar t (← asAddr (a.tmps.getD c undef)) : Sem (List Value)).run P w = .ok us w ∧ RepL w (Mut C.M0 β S.H) noHd [] vs us ∧ ∀ v ∈ vs, Pure v := by
  induction hr with
  | nil => exact ⟨[], rfl, rfl, fun v hv => by cases hv⟩
  | @tmp t v v' rs vs hl ha hr ih =>
    obtain ⟨us, h1, h2, h3⟩ := ih
    have h5 : RepV w (Mut C.M0 β S.H) β S.H v (a.tmps.getD t undef) := h.ev hl rfl
    refine ⟨a.tmps.getD t undef :: us, ?_, ⟨_, us, rfl, ha.rep h h5, h2⟩, fun v hv => ?_⟩
    · simp only [List.mapM_cons, Sem.run_bind, Sem.run_pure, Result.andThen_ok, h1]
    · rcases List.mem_cons.1 hv with rfl | hv
      · exact ha.pure
      · exact h3 v hv
  | @cell t n ty off cs v v' rs vs ht hl hb hc ha hr ih =>
    obtain ⟨us, h1, h2, h3⟩ := ih
    obtain ⟨x, h4, h5⟩ := (q_load_box (t := ty) (E := ⟨P, C, none⟩) (S := S) (dst := none) (ty := 0) (pos := "") (af := #[]) (gd := none) (x := .tmp t) hl hb hc).out β a w h
    obtain ⟨b, _, _, _, h6, _⟩ := h.boxAt (x := .tmp t) hl hb
    have h7 := run_load_var h6 (h4 w (Grows.refl w))
    refine ⟨x :: us, ?_, ⟨x, us, rfl, ha.rep h h5, h2⟩, fun v hv => ?_⟩
    · simp only [List.mapM_cons, Sem.run_bind] at h7 ⊢
      rw [h7]
      simp only [Result.andThen_ok, h1, Sem.run_pure]
    · rcases List.mem_cons.1 hv with rfl | hv
      · exact ha.pure
      · exact h3 v hv
  | @cells t n ty off m cs cs' ds rs vs ht hl hb hc ha hn hr ih =>
    obtain ⟨us, h1, h2, h3⟩ := ih
    obtain ⟨x, h4, h5⟩ := (q_load_boxs (t := ty) (E := ⟨P, C, none⟩) (S := S) (dst := none) (ty := 0) (pos := "") (af := #[]) (gd := none) (x := .tmp t) hl hb hc ha hn).out β a w h
    obtain ⟨b, _, _, _, h6, _⟩ := h.boxAt (x := .tmp t) hl hb
    have h7 := run_load_var h6 (h4 w (Grows.refl w))
    refine ⟨x :: us, ?_, ⟨x, us, rfl, h5, h2⟩, fun v hv => ?_⟩
    · simp only [List.mapM_cons, Sem.run_bind] at h7 ⊢
      rw [h7]
      simp only [Result.andThen_ok, h1, Sem.run_pure]
    · rcases List.mem_cons.1 hv with rfl | hv
      · exact .d _
      · exact h3 v hv
structure After (Ds : List Nat) (w w' : World) : Prop where
  os : w'.os = w.os
  tape : w'.tape = w.tape
  output : w'.output = w.output
  size : w'.heap.size = w.heap.size
  block : ∀ k, k ∉ Ds → w'.heap[k]? = w.heap[k]?
theorem leaves_marks {F : Fence} {n : Nat} {P : Program} {fn : Func} {tmps : Array Value} {R : Ending → World → Prop} : ∀ (Ds : List Nat) (w : World), Ds.Nodup → (∀ D ∈ Ds, w.heap[D]? = some (.deferred (some []))) →
    (∀ w', After Ds w w' → LeavesIn F n P fn tmps R [] .returning w') → LeavesInM F n P fn tmps R (Ds.map markOf) .returning w
  | [], w, _, _, h => h w ⟨rfl, rfl, rfl, rfl, fun _ _ => rfl⟩
  | D :: Ds, w, hnd, hD, h => by
    obtain ⟨h1, h2⟩ := List.nodup_cons.1 hnd
    refine ⟨by simp, .inl ⟨D, _, rfl, run_takeDeferred (hD D List.mem_cons_self), leaves_marks Ds (w.putObj D (.deferred none)) h2 (fun D' h' => ?_) (fun w' hw' => h w' ?_)⟩⟩
    · rw [World.putObj_heap_other (by rintro rfl; exact h1 h')]
      exact hD D' (List.mem_cons_of_mem _ h')
    · refine ⟨hw'.os, hw'.tape, hw'.output, hw'.size.trans (by simp [World.putObj]), fun k hk => ?_⟩
      rw [List.mem_cons, not_or] at hk
      rw [hw'.block k hk.2, World.putObj_heap_other hk.1]
theorem StB.after {C : Ctx} {β : Nat → Hd} {a : Act} {w w' : World} (h : StB C β S a w) {Ds : List Nat} (hD : ∀ D ∈ Ds, w.heap[D]? = some (.deferred (some [])) ∧ C.w0.heap.size ≤ D ∧ ∀ p ∈ C.sys, p.1 ≠ D) (k : After Ds w w') : StB C β S { a with defers := [] } w' := by
  have hn : ∀ b o, w.heap[b]? = some o → sysO o = false → b ∉ Ds := fun b o ho hs hb => by
    rw [(hD b hb).1] at ho
    cases ho
    cases hs
  have kp : Keeps w (Mut C.M0 β S.H) w' (Mut C.M0 β S.H) := ⟨fun b o y h1 h2 => ⟨h1, by
    have : b ∉ Ds := fun hb => by simp [World.cell?, (hD b hb).1] at h2
    rw [← h2]
    exact World.cell?_of_block (k.block b this)⟩, fun b ob hs h1 h2 => ⟨h1, (k.block b (hn b _ h2 hs)).trans h2⟩⟩
  have hr : ∀ n e sz sh xs q, look n S.H = some (.row e sz sh xs q) → ∃ sh' xs', look n S.H = some (.row e sz sh' xs' q) := fun n e sz sh xs q h => ⟨sh, xs, h⟩
  refine ⟨h.size, h.small, ⟨[], rfl, List.nodup_nil, fun D h => by cases h⟩, fun p hp => ⟨(k.block p.1 (fun hb => (hD p.1 hb).2.2 p hp rfl)).trans (h.sys p hp).1, (h.sys p hp).2⟩, fun t v hl => ?_, fun n ob hl => ?_, h.apart, h.place, fun g cs hl => (h.glob g cs hl).keep kp, ?_, h.out, h.low, h.fix, h.has⟩
  · obtain ⟨x, h1, h2⟩ := h.env t v hl
    exact ⟨x, h1, RepV.keep kp (fun _ => rfl) hr v x h2⟩
  · have h1 := h.obs n ob hl
    refine RepO.keep kp (fun b hb' => ?_) (fun vs h2 => RepL.keep kp (fun _ => rfl) hr _ _ h2) h1
    obtain ⟨o, h2, h3, _⟩ := h1.kind hb'
    exact k.block b (hn b o h2 h3)
  · exact ⟨k.os.trans h.frame.os, k.tape.trans h.frame.tape, k.output.trans h.frame.output, by rw [k.size]; exact h.frame.size, fun i hi he => (k.block i (fun hb => by have := (hD i hb).2.1; omega)).trans (h.frame.block i hi he)⟩
theorem calls_of_tc {P : Program} {f : FuncId} {fn : Func} {c : Code} {C : Ctx} {S : Sd} {us : List Value} {w : World} {Q : Exit → Sd → Prop} {R : Ending → World → Prop} (hf : P.funcs[f]? = some fn) (hb : fn.body = some c) (h : TC ⟨P, C, none⟩ c Q S)
    (hst : St C S { tmps := us.toArray ++ Array.replicate (fn.ntmps - us.toArray.size) undef, defers := [] } w)
    (hR : ∀ e S' β a' w', StB C β S' a' w' → Q e S' → (e = .ret ∨ e = .normal) ∧ ∃ x, (results fn a'.tmps).run P w' = .ok x w' ∧ R (.returned x) w') : Calls P f us.toArray w R := by
  refine (callsIn_wide (n := 0)).1 (callsIn_of_wp_marks hf hb trivial ?_ rfl)
  refine wpIn_mono (h _ _ hst) fun e a' w' hq => ?_
  obtain ⟨S', ⟨β, hB⟩, hq⟩ := hq
  obtain ⟨Ds, h1, h2, h3⟩ := hB.defers
  have key : LeavesInM (WF none) 0 P fn a'.tmps R a'.defers .returning w' := by
    rw [h1]
    refine leaves_marks Ds w' h2 (fun D hD => (h3 D hD).1) fun w2 hw2 => ?_
    obtain ⟨_, x, h4, h5⟩ := hR e S' β { a' with defers := [] } w2 (hB.after h3 hw2) hq
    exact ⟨x, h4, h5⟩
  rcases (hR e S' β _ _ hB hq).1 with rfl | rfl <;> exact key
def slots (args : List V) : List (Nat × V) := args.zipIdx.map fun x => (x.2, x.1)
theorem env_args {w : World} {M : Nat → Nat → Prop} {β : Nat → Hd} {H : List (Nat × Ob)} {args : List V} {us : List Value} (hargs : RepL w M β H args us) {C : Ctx} {nt : Nat} (hle : args.length ≤ nt) (hs : nt ≤ 100000) {t : Nat} {v : V} (hl : look t (slots args) = some v) :
    ∃ x, slotV C { tmps := us.toArray ++ Array.replicate (nt - us.toArray.size) undef, defers := [] } t = some x ∧ RepV w M β H v x := by
  have hm := look_mem hl
  obtain ⟨⟨v', t'⟩, h1, h2⟩ := List.mem_map.1 hm
  simp only [Prod.mk.injEq] at h2
  obtain ⟨rfl, rfl⟩ := h2
  have h3 : args[t']? = some v' := by
    have := List.mem_zipIdx h1
    simp at this
    obtain ⟨h4, h5⟩ := this
    rw [h5]
    exact List.getElem?_eq_getElem h4
  obtain ⟨u, h4, h5⟩ := RepL.get hargs h3
  refine ⟨u, ?_, h5⟩
  have hlt : t' < us.length := (List.getElem?_eq_some_iff.1 h4).1
  have hlen := hargs.length
  have : Nat.blt t' 100000 = true := Nat.ble_eq_true_of_le (by omega)
  simp only [slotV, this, cond_true]
  rw [Array.getElem?_append_left (by simpa using hlt)]
  simpa using h4
theorem run_results {P : Program} {fn : Func} {rs : Array ResultVar} {a : Act} {w : World} {us' : List Value} (hr : fn.results = rs) (h3 : (rs.toList.mapM fun | .tmp t => pure (a.tmps.getD t undef) | .cell c t => do loadVar t (← asAddr (a.tmps.getD c undef)) : Sem (List Value)).run P w = .ok us' w) :
    (results fn a.tmps).run P w = .ok (if h : us'.toArray.size = 1 then us'.toArray[0] else .tuple us'.toArray) w := by
  unfold results
  rw [hr, Array.mapM_eq_mapM_toList]
  simp only [Sem.run_bind, Sem.run_map]
  refine (congrArg (fun r : Result (List Value) => (r.andThen fun a w' => Result.ok a.toArray w').andThen fun a w' => Sem.run P (pure (if h : a.size = 1 then a[0] else Value.tuple a)) w') h3).trans ?_
  simp only [Result.andThen_ok, Sem.run_pure]
theorem rep_oneOf {w : World} {M : Nat → Nat → Prop} {β : Nat → Hd} {H : List (Nat × Ob)} {vs : List V} {us : List Value} (h6 : RepL w M β H vs us) : RepV w M β H (oneOf vs) (if h : us.toArray.size = 1 then us.toArray[0] else .tuple us.toArray) := by
  have hlen := h6.length
  unfold oneOf
  split
  · obtain ⟨u, r, rfl, h7, h8⟩ := h6
    simp only [RepL] at h8
    subst h8
    exact h7
  · rename_i hne
    have : us.toArray.size ≠ 1 := by
      intro h1
      rw [List.size_toArray, hlen] at h1
      obtain ⟨v, hv⟩ := List.length_eq_one_iff.1 h1
      exact hne v hv
    rw [dif_neg this]
    exact ⟨us, rfl, h6⟩
theorem fn_intro {P : Program} {gl : List (Nat × List D)} {f : FuncId} {fn : Func} {c : Code} {args : List V} {R : V → Prop} {nt : Nat} {rs : Array ResultVar} (hf : P.funcs[f]? = some fn) (hb : fn.body = some c) (hn : fn.ntmps = nt) (hr : fn.results = rs) (hle : args.length ≤ nt) (hs : nt ≤ 100000)
    (h : ∀ w M, TC ⟨P, Ctx.fn nt w M, none⟩ c (Ends P rs.toList R) ⟨slots args, [], gl⟩) : FnD P gl f args R := fun w M us hlow hargs hgl => by
  have hlen := hargs.length
  have hM : Mut M noHd [] = M := by
    funext b o
    apply propext
    constructor
    · rintro (h | ⟨n, ob, h1, _⟩)
      · exact h
      · cases h1
    · exact .inl
  refine calls_of_tc hf hb (h w M) ?_ fun e S' β a' w' hB hq => ⟨hq.how, ?_⟩
  · refine ⟨noHd, ⟨?_, hs, ⟨[], rfl, List.nodup_nil, (fun D h => by cases h)⟩, (fun p hp => by cases hp), ?_, (fun n ob hl => by cases hl), (fun n m b ob ob' _ hl => by cases hl), (fun n ob b hl => by cases hl), ?_, Frm.refl _ _, (fun n ob b o hl => by cases hl), hlow, (fun n hn => by cases hn), (fun n hn => by cases hn)⟩⟩
    · simp [hn, Ctx.fn]; omega
    · intro t v hl
      dsimp only [Ctx.fn] at hl ⊢
      rw [hM, hn]
      exact env_args hargs hle hs hl
    · dsimp only [Ctx.fn]
      rw [hM]
      exact hgl
  · obtain ⟨_, vs, hres, hR⟩ := hq
    obtain ⟨us', h3, h4, h5⟩ := res_run hB hres
    have hk : Keeps w' (Mut M β S'.H) w' M := Keeps.weak fun b o hm => .inl hm
    refine ⟨_, run_results hr h3, oneOf vs, _, hR, ?_, rfl, Frm.below (w := w) hB.frame, rep_oneOf (RepL.pure (fun v hv u hu => (h5 v hv).keep hk u hu) h4)⟩
    unfold oneOf
    split
    · exact h5 _ (by simp)
    · exact .tup h5
end
end
section
inductive Build (P : Program) (S : Sd) (t : Nat) : List D → List (Nat × Operand) → List D → Prop
  | nil (zs : List D) : Build P S t zs [] zs
  | cons {zs zs' ds cs : List D} {f off ft m : Nat} {x : Operand} {v : V} {d : D} {ps : List (Nat × Operand)} [hf : TField P t f off ft] [hs : TSize P ft m] (hx : S.ev x = some v) (ho : okOp x = true) (hd : ToD S.H v d) (hc : CellsD d cs) (hm : cs.length = m) (hr : Repl zs off cs zs') (h : Build P S t zs' ps ds) :
    Build P S t zs ((f, x) :: ps) ds
theorem foldl_repl (off : Nat) (l : List Value) (cs : Array Value) (h : off + l.length ≤ cs.size) :
    (l.toArray.zipIdx.foldl (fun cs (x : Value × Nat) => cs.setIfInBounds (off + x.2) x.1) cs) = (cs.toList.take off ++ l ++ cs.toList.drop (off + l.length)).toArray := by
  have := Go.Great.foldl_set off l 0 cs
  obtain ⟨h1, h2⟩ := this
  have e : l.toArray.zipIdx.foldl (fun cs (x : Value × Nat) => cs.setIfInBounds (off + x.2) x.1) cs = (l.zipIdx 0).foldl (fun cs (x : Value × Nat) => cs.setIfInBounds (off + x.2) x.1) cs := by
    simp
  rw [e]
  apply Array.ext_getElem?
  intro k
  rw [h2 k]
  have hlt : (cs.toList.take off).length = off := by simp; omega
  by_cases hk : off ≤ k ∧ k < off + l.length
  · rw [if_pos (by omega)]
    simp only [List.getElem?_toArray, List.append_assoc]
    rw [List.getElem?_append_right (by omega), List.getElem?_append_left (by omega), hlt]
    congr 1
  · rw [if_neg (by omega)]
    simp only [List.getElem?_toArray, List.append_assoc]
    by_cases hk2 : k < off
    · rw [List.getElem?_append_left (by omega), List.getElem?_take, if_pos hk2]
      simp
    · rw [List.getElem?_append_right (by omega), List.getElem?_append_right (by omega), hlt, List.getElem?_drop]
      simp only [Array.getElem?_toList]
      congr 1
      omega
theorem Build.rep {P : Program} {C : Ctx} {β : Nat → Hd} {S : Sd} {a : Act} {w : World} (h : StB C β S a w) {t : Nat} {fs : Array Field} (hu : P.underlying t = some (.struct fs)) {places : Array (Nat × Nat)} (hp : ∀ (f : Nat) (fd : Field) i, fs[f]? = some fd → P.info? fd.type = some i → places[f]? = some (fd.offset, i.size))
    {zs ds : List D} {ps : List (Nat × Operand)} (hb : Build P S t zs ps ds) : ∀ {us : List Value}, RepA w (Mut C.M0 β S.H) zs us →
    ∃ vs : List Value, Instr.fill (places[·]?) us.toArray (ps.map fun x => (x.1, a.eval x.2)) = some vs.toArray ∧ RepA w (Mut C.M0 β S.H) ds vs := by
  induction hb with
  | nil zs => intro us hr; exact ⟨us, rfl, hr⟩
  | @cons zs zs' ds cs f off ft m x v d ps hf hs hx ho hd hc hm hr hb ih =>
    intro us hrep
    obtain ⟨fs', fd, i, hu', h1, h2, h3, h4, _⟩ := field_parts hf
    rw [hu] at hu'
    cases hu'
    have hi : i.size = m := by have := hs.ok; rw [h4] at this; simpa using this
    have hpl := hp f fd i h1 (by rw [h3]; exact h4)
    have hd' := hd.rep h (h.ev hx ho)
    have hcs := hc.rep hd'
    have hlen := hcs.length
    obtain ⟨h5, h6⟩ := hr.eq
    have hul := hrep.length
    have hsz : (a.eval x).cells.size = m := by simp at hlen; omega
    have hnew : RepA w (Mut C.M0 β S.H) zs' (us.take off ++ (a.eval x).cells.toList ++ us.drop (off + (a.eval x).cells.toList.length)) := by
      rw [h5, ← hlen]
      exact ((hrep.take off).append hcs).append (hrep.drop _)
    obtain ⟨vs, h7, h8⟩ := ih hnew
    refine ⟨vs, ?_, h8⟩
    simp only [List.map_cons, Instr.fill, hpl]
    rw [if_neg (by
      simp only [ne_eq, Bool.or_eq_true, decide_eq_true_eq, not_or, Decidable.not_not, List.size_toArray]
      simp at hlen
      omega)]
    have hfo := foldl_repl fd.offset (a.eval x).cells.toList us.toArray (by simp at hlen ⊢; omega)
    rw [Array.toArray_toList] at hfo
    simp only [List.toList_toArray] at hfo
    rw [hfo, h2]
    exact h7
section
variable {E : Set} {S : Sd} {dst : Option Tmp} {ty : TypeId} {pos : String} {af : Array Edge} {gd : Option (Nat × Bool)}
theorem run_places {P : Program} (fs : List Field) (h : ∀ fd ∈ fs, (P.info? fd.type).isSome = true) :
    ∃ ps : List (Nat × Nat), (∀ w, (fs.mapM fun f => do pure (f.offset, ← sizeOf f.type) : Sem (List (Nat × Nat))).run P w = .ok ps w) ∧ ∀ (f : Nat) (fd : Field) i, fs[f]? = some fd → P.info? fd.type = some i → ps[f]? = some (fd.offset, i.size) := by
  induction fs with
  | nil => exact ⟨[], fun _ => rfl, fun f fd i hf => by simp at hf⟩
  | cons x fs ih =>
    obtain ⟨ps, h1, h2⟩ := ih (fun fd hfd => h fd (List.mem_cons_of_mem _ hfd))
    cases hi : P.info? x.type with
    | none => have := h x List.mem_cons_self; rw [hi] at this; cases this
    | some i =>
      refine ⟨(x.offset, i.size) :: ps, fun w => ?_, fun f fd j hf hj => ?_⟩
      · simp only [List.mapM_cons, Sem.run_bind, run_size hi, Result.andThen_ok, Sem.run_pure, h1]
      · cases f with
        | zero => simp at hf; subst hf; rw [hi] at hj; cases hj; rfl
        | succ f => exact h2 f fd j (by simpa using hf) hj
def structOk (P : Program) (t : Nat) : Bool := match P.underlying t with
  | some (.struct fs) => fs.toList.all fun fd => (P.info? fd.type).isSome
  | _ => false
class TStruct (P : Program) (t : Nat) : Prop where
  ok : structOk P t = true
theorem struct_parts {P : Program} {t : Nat} (h : TStruct P t) : ∃ fs, P.underlying t = some (.struct fs) ∧ ∀ fd ∈ fs.toList, (P.info? fd.type).isSome = true := by
  have := h.ok
  unfold structOk at this
  split at this
  · rename_i fs hu
    exact ⟨fs, hu, List.all_eq_true.1 this⟩
  · cases this
inductive ZeroD : List V → List D → Prop
  | nil : ZeroD [] []
  | d {x : D} {vs : List V} {xs : List D} (h : ZeroD vs xs) : ZeroD (.d x :: vs) (x :: xs)
  | nils {sz : Nat} {vs : List V} {xs : List D} (h : ZeroD vs xs) : ZeroD (.nils sz :: vs) (.list sz [] :: xs)
  | none {sz : Nat} {vs : List V} {xs : List D} (h : ZeroD vs xs) : ZeroD (.nils sz :: vs) (.nil sz :: xs)
theorem zeroD_rep {w : World} {M : Nat → Nat → Prop} {vs : List V} {ds : List D} (hz : ZeroD vs ds) : ∀ {us : List Value}, zeroRep us vs = true → RepA w M ds us := by
  induction hz with
  | nil => intro us h; cases us with | nil => rfl | cons _ _ => cases h
  | @d x vs xs hz ih =>
    intro us h
    cases us with
    | nil => cases h
    | cons u us =>
      simp only [zeroRep, Bool.and_eq_true] at h
      refine ⟨u, us, rfl, ?_, zeroCell_rep (β := noHd) (H := []) h.1, ih h.2⟩
      have := h.1
      unfold zeroCell at this
      split at this <;> first | rfl | cases this
  | @nils sz vs xs hz ih =>
    intro us h
    cases us with
    | nil => cases h
    | cons u us =>
      simp only [zeroRep, Bool.and_eq_true] at h
      have hu : u = .slice none 0 0 := zeroCell_rep (w := w) (M := M) (β := noHd) (H := []) h.1
      subst hu
      exact ⟨_, us, rfl, rfl, ⟨none, 0, [], rfl, Nat.le_refl _, Nat.zero_le _, fun _ => rfl, rfl, Reads.nil _ _ _⟩, ih h.2⟩
  | @none sz vs xs hz ih =>
    intro us h
    cases us with
    | nil => cases h
    | cons u us =>
      simp only [zeroRep, Bool.and_eq_true] at h
      have hu : u = .slice none 0 0 := zeroCell_rep (w := w) (M := M) (β := noHd) (H := []) h.1
      subst hu
      exact ⟨_, us, rfl, rfl, rfl, ih h.2⟩
theorem q_build {t : Nat} {ps : List (Nat × Operand)} {vs : List V} {zs ds : List D} [ht : TStruct E.P t] [hz : TZero E.P t vs] (hzd : ZeroD vs zs) (hb : Build E.P S t zs ps ds) : Swift E S ⟨dst, .build t ps.toArray, ty, pos, af, gd⟩ (.d (.agg ds)) := Swift.mk fun β a w h => by
  obtain ⟨fs, hu, hfs⟩ := struct_parts ht
  obtain ⟨i, z, hi, hiz, h1, _⟩ := zero_parts hz
  obtain ⟨pl, h2, h3⟩ := run_places (P := E.P) fs.toList hfs
  obtain ⟨us, h4, h5⟩ := hb.rep h hu (places := pl.toArray) (fun f fd i hf hi => by simpa using h3 f fd i (by simpa using hf) hi) (zeroD_rep (w := w) (M := Mut E.C.M0 β S.H) hzd h1)
  refine ⟨.agg us.toArray, fun w' _ => ?_, us, rfl, h5⟩
  have hpl : (fs.mapM fun f => do pure (f.offset, ← sizeOf f.type) : Sem (Array (Nat × Nat))).run E.P w' = .ok pl.toArray w' := by
    rw [Array.mapM_eq_mapM_toList]
    simp only [Sem.run_map]
    refine (congrArg (fun r : Result (List (Nat × Nat)) => r.andThen fun a w' => Result.ok a.toArray w') (h2 w')).trans ?_
    rfl
  rw [Array.toArray_toList] at h4
  simp only [execOp, Sem.run_bind, Instr.build, zeroValue, typeInfo, hi, hiz, run_underlying hu, Sem.run_pure, Result.andThen_ok, program, Sem.run]
  simp only [hpl, Result.andThen_ok]
  have e : (ps.toArray.map fun x => (x.1, a.eval x.2)).toList = ps.map fun x => (x.1, a.eval x.2) := by simp
  rw [e, h4]
  rfl
end
end
section
inductive Elems (S : Sd) (sz : Nat) : Nat → List (Nat × Operand) → List D → Prop
  | nil (i : Nat) : Elems S sz i [] []
  | cons {i : Nat} {x : Operand} {v : V} {d : D} {cs : List D} {ps : List (Nat × Operand)} {ds : List D} (hx : S.ev x = some v) (ho : okOp x = true) (hd : ToD S.H v d) (hc : CellsD d cs) (hm : cs.length = sz) (h : Elems S sz (i + 1) ps ds) : Elems S sz i ((i, x) :: ps) (d :: ds)
theorem Elems.rep {C : Ctx} {β : Nat → Hd} {S : Sd} {a : Act} {w : World} (h : StB C β S a w) {sz i : Nat} {ps : List (Nat × Operand)} {ds : List D} (he : Elems S sz i ps ds) :
    ∃ us : List Value, ps.map (fun x => (x.1, a.eval x.2)) = (us.zipIdx i).map (fun x => (x.2, x.1)) ∧ us.length = ds.length ∧ (∀ u ∈ us, u.cells.size = sz) ∧ RepE w (Mut C.M0 β S.H) sz ds (us.flatMap fun v => v.cells.toList) := by
  induction he with
  | nil i => exact ⟨[], rfl, rfl, (fun u hu => by cases hu), rfl⟩
  | @cons i x v d cs ps ds hx ho hd hc hm _ ih =>
    obtain ⟨us, h1, h2, h3, h4⟩ := ih
    have h5 := hd.rep h (h.ev hx ho)
    have h6 := (hc.rep h5).length
    have h7 : (a.eval x).cells.size = sz := by simp at h6; omega
    refine ⟨a.eval x :: us, ?_, by simp [h2], fun u hu => ?_, a.eval x, _, by simp, h7, h5, h4⟩
    · simp only [List.map_cons, h1, List.zipIdx_cons]
    · rcases List.mem_cons.1 hu with rfl | hu
      · exact h7
      · exact h3 u hu
theorem StB.newRow {C : Ctx} {β : Nat → Hd} {S : Sd} {a : Act} {w w' : World} (h : StB C β S a w) {n e sz : Nat} {sh : Bool} {xs : List D} (hn : S.fresh n = true) (g : Grows w w') {v : Value} {ys : List Value} (hv : ∀ b, v.ownBlock = some b → w.heap.size ≤ b) (hown : w'.ownsRow 0 e sz v xs.length ys)
    (hr : RepE w (Mut C.M0 β S.H) sz xs ys) : StB C (upd β n v) { S with H := (n, .row e sz sh xs 0) :: S.H } a w' :=
  h.newObj hn v g (fun b hb' => hv b (by rw [← hb_row hown]; exact hb')) _ fun k => ⟨ys, hown, RepE.keep k _ _ _ hr⟩
section
variable {E : Set} {Q : Exit → Sd → Prop} {S : Sd} {ops : Array Oper} {draw : Bool} {rest : Todo} {way : Way3} {ty : TypeId} {pos : String} {af : Array Edge} {gd : Option (Nat × Bool)}
theorem repV_own {w : World} {M : Nat → Nat → Prop} {β : Nat → Hd} {H : List (Nat × Ob)} {n : Nat} {v : Value} {k : Nat} : RepV w M (upd β n v) H (.own n k) v := fun _ _ _ _ _ => (upd_v β n v).symm
theorem g_lit {d n t e sz len : Nat} {ps : List (Nat × Operand)} {xs : List D} [ht : TSlice E.P t e sz] (hp : Elems S sz 0 ps xs) (hlen : xs.length = len) (hsmall : len * sz ≤ 16777216) (hn : S.fresh n = true) :
    Grow E S ⟨some d, .buildSlice t len ps.toArray, ty, pos, af, gd⟩ { S with H := (n, .row e sz true xs 0) :: S.H } (.own n 0) := Grow.mk fun β a w h => by
  obtain ⟨bytes, ⟨i, z, hu, hi, hz, hs, hby, hzs, hpos⟩, _⟩ := slice_elem ht
  obtain ⟨us, h1, h2, h3, h4⟩ := hp.rep h
  have hfl : (us.flatMap fun v => v.cells.toList).length = len * sz := by rw [h4.length, hlen]
  have hown := owns_new w (us.flatMap fun v => v.cells.toList) e len sz 0 hfl (by unfold maxLen; have := Nat.le_mul_of_pos_right len hpos; omega) (Nat.zero_le _)
  have hst : ∀ w', w' = w.alloc (.cells (us.flatMap fun v => v.cells.toList).toArray e) → StB E.C (upd β n (.slice (some ⟨w.heap.size, 0, none⟩) len len)) { S with H := (n, .row e sz true xs 0) :: S.H } a w' := fun w' e' => by
    subst e'
    refine h.newRow hn (Grows.alloc w _) (fun b hb' => ?_) (by rw [hlen]; exact hown) h4
    simp only [Value.ownBlock, Option.some.injEq] at hb'
    omega
  refine ⟨.slice (some ⟨w.heap.size, 0, none⟩) len len, _, _, ?_, Grows.alloc w _, hst _ rfl, repV_own⟩
  have hparts : (ps.toArray.map fun x => (x.1, a.eval x.2)).toList = (us.zipIdx 0).map (fun x => (x.2, x.1)) := by simp [← h1]
  by_cases h0 : len = 0
  · subst h0
    have hus : us = [] := List.eq_nil_of_length_eq_zero (by rw [h2, hlen])
    subst hus
    simp only [List.zipIdx_nil, List.map_nil] at hparts
    have hps : ps = [] := by simpa using hparts
    subst hps
    have e0 : Array.range 0 = #[] := Array.eq_empty_of_size_eq_zero (by simp)
    simp [execOp, Instr.buildSlice, run_underlying hu, run_size hi, Instr.fill, newRow, e0]
  · have hne : ¬ len * i.size = 0 := by rw [hs]; exact Nat.mul_ne_zero h0 (by omega)
    have hf := Go.Great.fill_whole (s := sz) hpos us ((Array.range (len * sz)).map (z.cells[· % z.cells.size]!)) h3 (by simp; rw [h2, hlen])
    have hr := run_buildSlice (P := E.P) w t e len (ps.toArray.map fun x => (x.1, a.eval x.2)) _ i z hu hi hz (by rw [hs]; omega) hne (by rw [hs, hparts]; exact hf)
    simp only [execOp, Sem.run_bind, hr, Result.andThen_ok, Sem.run_pure]
structure GrowK (E : Set) (S : Sd) (o : Oper) (S' : Nat → Sd) (v : Nat → V) : Prop where
  out : ∀ β a w, StB E.C β S a w → ∃ x w' β' k, (execOp a.eval o).run E.P w = .ok (.value x) w' ∧ StB E.C β' (S' k) a w' ∧ RepV w' (Mut E.C.M0 β' (S' k).H) β' (S' k).H (v k) x
theorem tr_turnK {o : Oper} {d : Nat} {S' : Nat → Sd} {v : Nat → V} (hq : GrowK E S o S' v) (hdst : o.dst = some d) (hd : d < E.C.nt) (hg : S.gd ops o = some true) (hdf : isDefer o = false) (hw : isBar draw way = true) (h : ∀ k, TR E draw ops Q rest ((S' k).put d (v k))) : TR E draw ops Q (.step o way rest) S := fun a w hS => by
  have hS0 := hS
  have key : ∀ w1, Grows w w1 → ∀ K : Act → World → Prop, (∀ k a2 w2, St E.C ((S' k).put d (v k)) a2 w2 → K a2 w2) → o.wp E.P a w1 K (Qof E.C Q) := fun w1 g K hK => by
    obtain ⟨β, hB⟩ := hS.later g
    obtain ⟨x, w', β', k, h1, h2, h3⟩ := hq.out β a w1 hB
    refine wp_value h1 (hK k _ _ ?_)
    rw [hdst]
    exact ⟨β', h2.put hd h3⟩
  cases draw with
  | true =>
    dsimp only
    cases way with
    | pure => cases hw
    | quiet => cases hw
    | grow => cases hw
    | bar =>
      simp only [wpMix3]
      intro n
      rw [Sd.gd_sound hS0 hg, if_pos rfl]
      exact key n.w n.grows _ fun k a2 w2 hs2 => h k _ _ hs2
  | false => exact listIn_of_wp hS0 hg hdf fun K hK => key w (Grows.refl w) K fun k a2 w2 hs2 => hK _ _ (h k _ _ hs2)
theorem run_append_op {P : Program} {a : Act} {s x : Operand} {t : TypeId} {dst : Option Tmp} {w w' : World} {v : Value} (h : (Builtin.append_ #[t, t] ty #[a.eval s, a.eval x]).run P w = .ok v w') :
    (execOp a.eval ⟨dst, .call { callee := .builtin .append, args := #[s, x], argTypes := #[t, t] }, ty, pos, af, gd⟩).run P w = .ok (.value v) w' := by
  simp [execOp, resolve, invoke, builtin, h]
theorem t_append {d t e sz n k : Nat} {sh : Bool} {s x : Operand} {v : V} {xs ys : List D} [ht : TSlice E.P t e sz] (hs : S.ev s = some (.own n k)) (hos : okOp s = true) (hl : look n S.H = some (.row e sz sh xs k)) (hx : S.ev x = some v) (hox : okOp x = true) (hy : ToD S.H v (.list sz ys)) (hlen : xs.length + ys.length ≤ 100000000000) (hN : E.C.N.contains n = false) :
    GrowK E S ⟨some d, .call { callee := .builtin .append, args := #[s, x], argTypes := #[t, t] }, ty, pos, af, gd⟩ (fun k' => { S with H := (n, .row e sz sh (xs ++ ys) k') :: S.H }) (fun k' => .own n k') := GrowK.mk fun β a w h => by
  obtain ⟨bytes, he, hby⟩ := slice_elem ht
  have h1 : a.eval s = (β n).v := h.ev hs hos e sz sh xs hl
  obtain ⟨olds, h2, h3⟩ := h.obs n _ hl
  obtain ⟨xa, xc, news, h4, h5, h6, h7, h8, h9⟩ := hy.rep h (h.ev hx hox)
  obtain ⟨v', w', h10, h11, h12⟩ := run_app (P := E.P) (ty := ty) w he h2 (xa := xa) (m := ys.length) (xc := xc) (news := news) h8.length (fun j u hu => by
    obtain ⟨b, o, e1, _, e2⟩ := h9 j u hu
    exact ⟨b, o, e1, e2⟩) h7 h5 h8.one hlen hby
  refine ⟨v', w', _, max (topE S.env) (topO S.H), run_append_op (by rw [h1, h4]; exact h10), h.append hl h2 h3 h8 h11 h12 _ (Nat.le_refl _) hN, repV_own⟩
theorem g_append {d n t e sz sz' : Nat} {s x : Operand} {v : V} {ys : List D} [ht : TSlice E.P t e sz] (hs : S.ev s = some (.nils sz')) (hos : okOp s = true) (hx : S.ev x = some v) (hox : okOp x = true) (hy : ToD S.H v (.list sz ys)) (hlen : ys.length ≤ 100000000000) (hn : S.fresh n = true) :
    Grow E S ⟨some d, .call { callee := .builtin .append, args := #[s, x], argTypes := #[t, t] }, ty, pos, af, gd⟩ { S with H := (n, .row e sz true ys 0) :: S.H } (.own n 0) := Grow.mk fun β a w h => by
  obtain ⟨bytes, he, hby⟩ := slice_elem ht
  have h1 : a.eval s = .slice none 0 0 := h.ev hs hos
  obtain ⟨xa, xc, news, h4, h5, h6, h7, h8, h9⟩ := hy.rep h (h.ev hx hox)
  obtain ⟨v', w', h10, h11, h12⟩ := run_app (P := E.P) (ty := ty) w he (World.ownsRow_nil w 0 e sz) (xa := xa) (m := ys.length) (xc := xc) (news := news) h8.length (fun j u hu => by
    obtain ⟨b, o, e1, _, e2⟩ := h9 j u hu
    exact ⟨b, o, e1, e2⟩) h7 h5 h8.one (by omega) hby
  rw [Nat.zero_add, List.nil_append] at h11
  have hg : Grows w w' ∧ ∀ b, v'.ownBlock = some b → w.heap.size ≤ b := by
    rcases h12 with ⟨h13, h14⟩ | ⟨h13, h14⟩
    · exact ⟨(Below.refl _ _).grown h14 (Nat.le_refl _) (fun k hk => by cases hk), fun b hb' => by rw [h13] at hb'; cases hb'⟩
    · exact ⟨(Below.refl _ _).grown h14 (Nat.le_refl _) (fun k hk => by cases hk), h13⟩
  exact ⟨v', w', upd β n v', run_append_op (by rw [h1, h4]; exact h10), hg.1, h.newRow hn hg.1 hg.2 h11 h8, repV_own⟩
theorem StB.nilRow {C : Ctx} {β : Nat → Hd} {a : Act} {w : World} (h : StB C β S a w) {n e sz : Nat} (hn : S.fresh n = true) : StB C (upd β n (.slice none 0 0)) { S with H := (n, .row e sz true [] 0) :: S.H } a w :=
  h.newRow hn (Grows.refl w) (fun b hb' => by cases hb') (World.ownsRow_nil w 0 e sz) rfl
end
end
end Go.Proofs.YtjhbglklcddekaaGreatDoor
