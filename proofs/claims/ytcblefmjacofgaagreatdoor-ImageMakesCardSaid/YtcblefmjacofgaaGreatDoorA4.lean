/- Parts: D19, D20, D21, D22, D23, D24, D25, D26, D27, D28, D29, D30. -/
import Derived.Test.YtcblefmjacofgaaGreatDoorA3
set_option linter.all false
set_option linter.unusedVariables false
set_option linter.unusedSimpArgs false
namespace Go.Proofs.YtcblefmjacofgaaGreatDoor
open Go.RowKit
def shift (l : List (Nat × V)) : List (Nat × V) := l.map fun p => (p.1 + 100000, p.2)
noncomputable def down (t : Nat) : Nat := Classical.choose (⟨t - 100000, rfl⟩ : ∃ m, m = t - 100000)
theorem down_eq (t : Nat) : down t = t - 100000 := Classical.choose_spec (⟨t - 100000, rfl⟩ : ∃ m, m = t - 100000)
noncomputable def ghostOf (C : Ctx) (tm : Array Value) (t : Nat) : Value := (slotV C { tmps := tm, defers := [] } (down t)).getD undef
noncomputable def Ctx.inner (C : Ctx) (nt1 : Nat) (tm : Array Value) (xs : List (Nat × Obj)) : Ctx := { C with nt := nt1, g := ghostOf C tm, sys := xs ++ C.sys }
inductive Nub : List Nat → List (Nat × V) → List (Nat × V) → Prop
  | nil (s : List Nat) : Nub s [] []
  | skip {s : List Nat} {t : Nat} {v : V} {l r : List (Nat × V)} (h : s.contains t = true) (k : Nub s l r) : Nub s ((t, v) :: l) r
  | keep {s : List Nat} {t : Nat} {v : V} {l r : List (Nat × V)} (h : s.contains t = false) (k : Nub (t :: s) l r) : Nub s ((t, v) :: l) ((t, v) :: r)
theorem Nub.not {s : List Nat} {l r : List (Nat × V)} (h : Nub s l r) {t : Nat} {v : V} (hl : look t r = some v) : t ∉ s := by
  induction h with
  | nil => cases hl
  | skip _ _ ih => exact ih hl
  | @keep s t' v' l r h _ ih =>
    rw [look_cons] at hl
    split at hl
    · rename_i e
      subst e
      simpa using h
    · have := ih hl
      simp only [List.mem_cons, not_or] at this
      exact this.2
theorem Nub.look {s : List Nat} {l r : List (Nat × V)} (h : Nub s l r) {t : Nat} {v : V} (hl : Go.Proofs.YtcblefmjacofgaaGreatDoor.look t r = some v) : Go.Proofs.YtcblefmjacofgaaGreatDoor.look t l = some v := by
  induction h with
  | nil => cases hl
  | @skip s t' v' l r h k ih =>
    rw [look_cons]
    split
    · rename_i e
      subst e
      exact absurd (by simpa using h) (k.not hl)
    · exact ih hl
  | @keep s t' v' l r h k ih =>
    rw [look_cons] at hl ⊢
    split at hl
    · rename_i e; rw [if_pos e]; exact hl
    · rename_i e; rw [if_neg e]; exact ih hl
theorem look_appE (t : Nat) (l : List (Nat × V)) (r : List (Nat × V)) : look t (l ++ r) = match look t l with | some v => some v | none => look t r := by
  induction l with
  | nil => rfl
  | cons p l ih =>
    rw [List.cons_append, show p = (p.1, p.2) from rfl, look_cons, look_cons, ih]
    split <;> rfl
theorem look_shift {t : Nat} {l : List (Nat × V)} {v : V} : look t (shift l) = some v ↔ 100000 ≤ t ∧ look (t - 100000) l = some v := by
  induction l with
  | nil => simp [shift, look]
  | cons p l ih =>
    have : shift (p :: l) = (p.1 + 100000, p.2) :: shift l := rfl
    rw [this, show p = (p.1, p.2) from rfl, look_cons, look_cons]
    by_cases h : p.1 + 100000 = t
    · rw [if_pos h, if_pos (by omega)]
      exact ⟨fun h' => ⟨by omega, h'⟩, fun h' => h'.2⟩
    · rw [if_neg h, ih]
      by_cases h' : 100000 ≤ t
      · rw [if_neg (by omega)]
      · constructor <;> intro h2 <;> exact absurd h2.1 h'
theorem slot_big {C : Ctx} {a : Act} {t : Nat} (h : 100000 ≤ t) : slotV C a t = some (C.g t) := by
  have : Nat.blt t 100000 = false := by
    cases hb : Nat.blt t 100000 with
    | false => rfl
    | true => have := Nat.le_of_ble_eq_true hb; omega
  simp [slotV, this]
theorem slot_small {C : Ctx} {a : Act} {t : Nat} (h : t < 100000) : slotV C a t = a.tmps[t]? := by
  have : Nat.blt t 100000 = true := Nat.ble_eq_true_of_le h
  simp [slotV, this]
theorem ghost_of {C : Ctx} {a : Act} {t : Nat} {x : Value} (h : slotV C a (t - 100000) = some x) : ghostOf C a.tmps t = x := by
  unfold ghostOf
  rw [down_eq, show slotV C { tmps := a.tmps, defers := [] } (t - 100000) = some x from h, Option.getD_some]
theorem inner_g {C : Ctx} {nt1 : Nat} {tm : Array Value} {xs : List (Nat × Obj)} (t : Nat) : (C.inner nt1 tm xs).g t = ghostOf C tm t := rfl
theorem slot_act {C : Ctx} {a : Act} {t : Nat} : slotV C { tmps := a.tmps, defers := [] } t = slotV C a t := rfl
section
variable {C : Ctx} {β : Nat → Value} {S : Sd} {a : Act} {w : World}
theorem StB.sysput (h : StB C β S a w) {l : Nat} {o o' : Obj} (ho : w.heap[l]? = some o) (hs : sysO o = true) (hs' : sysO o' = true) (h0 : C.w0.heap.size ≤ l) {sys' : List (Nat × Obj)} (hsys : ∀ p ∈ sys', p = (l, o') ∨ (p ∈ C.sys ∧ p.1 ≠ l))
    {a' : Act} (ha : a'.tmps = a.tmps) (hD : ∃ Ds : List Nat, a'.defers = Ds.map markOf ∧ Ds.Nodup ∧ ∀ D ∈ Ds, w.heap[D]? = some (.deferred (some [])) ∧ C.w0.heap.size ≤ D ∧ D ≠ l ∧ ∀ p ∈ sys', p.1 ≠ D) : StB { C with sys := sys' } β S a' (w.putObj l o') := by
  have hlt := (Array.getElem?_eq_some_iff.1 ho).1
  have hn : ∀ b x, w.heap[b]? = some x → sysO x = false → b ≠ l := fun b x hx hsx e => by
    subst e
    rw [ho] at hx
    cases hx
    rw [hs] at hsx
    cases hsx
  have kb : ∀ k, k ≠ l → (w.putObj l o').heap[k]? = w.heap[k]? := fun k hk => World.putObj_heap_other hk
  have kp : Keeps w (Mut C.M0 β S.H) (w.putObj l o') (Mut C.M0 β S.H) := ⟨fun b o2 y h1 h2 => ⟨h1, by
    have : b ≠ l := by
      rintro rfl
      cases o <;> simp [World.cell?, ho, sysO] at h2 hs
    rw [← h2]
    exact World.cell?_of_block (kb b this)⟩, fun b ob hs2 h1 h2 => ⟨h1, (kb b (hn b _ h2 hs2)).trans h2⟩⟩
  have hr : ∀ n e sz sh xs q, look n S.H = some (.row e sz sh xs q) → ∃ sh' xs', look n S.H = some (.row e sz sh' xs' q) := fun n e sz sh xs q h => ⟨sh, xs, h⟩
  obtain ⟨Ds, hd1, hd2, hd3⟩ := hD
  have hsl : ∀ t, slotV { C with sys := sys' } a' t = slotV C a t := fun t => by unfold slotV; rw [ha]
  refine ⟨by rw [ha]; exact h.size, h.small, ⟨Ds, hd1, hd2, fun D hD => ?_⟩, fun p hp => ?_, fun t v hl => ?_, fun n ob hl => ?_, h.apart, h.place, fun g cs hl => (h.glob g cs hl).keep kp, ?_, h.out, h.low, h.fix, h.has⟩
  · obtain ⟨q1, q2, q3, q4⟩ := hd3 D hD
    exact ⟨(kb D q3).trans q1, q2, q4⟩
  · rcases hsys p hp with rfl | ⟨h1, h2⟩
    · exact ⟨World.putObj_heap_same hlt, hs', h0⟩
    · exact ⟨(kb p.1 h2).trans (h.sys p h1).1, (h.sys p h1).2⟩
  · obtain ⟨x, h1, h2⟩ := h.env t v hl
    exact ⟨x, by rw [hsl]; exact h1, RepV.keep kp (fun _ => rfl) hr v x h2⟩
  · have h1 := h.obs n ob hl
    refine RepO.keep kp (fun b hb' => ?_) (fun cs vs _ h2 => RepL.keep kp (fun _ => rfl) hr _ _ h2) h1
    obtain ⟨x, h2, h3, _⟩ := h1.kind hb'
    exact kb b (hn b x h2 h3)
  · exact ⟨h.frame.os, h.frame.tape, h.frame.output, by rw [World.putObj_size]; exact h.frame.size, fun i hi he => (kb i (by have hi' : i < C.w0.heap.size := hi; omega)).trans (h.frame.block i hi he)⟩
theorem StB.enter (h : StB C β S a w) {args : List V} {us : List Value} (hargs : RepL w (Mut C.M0 β S.H) β S.H args us) {nt1 : Nat} (hle : args.length ≤ nt1) (hs : nt1 ≤ 100000) {env0 : List (Nat × V)} (hsub : ∀ t v, look t env0 = some v → look t S.env = some v)
    {xs : List (Nat × Obj)} (hx : ∀ p ∈ xs, w.heap[p.1]? = some p.2 ∧ sysO p.2 = true ∧ C.w0.heap.size ≤ p.1) : StB (C.inner nt1 a.tmps xs) β ⟨slots args ++ shift env0, S.H, S.gl⟩ { tmps := us.toArray ++ Array.replicate (nt1 - us.toArray.size) undef, defers := [] } w := by
  have hlen := hargs.length
  refine ⟨?_, hs, ⟨[], rfl, List.nodup_nil, (fun D h => by cases h)⟩, fun p hp => ?_, fun t v hl => ?_, h.obs, h.apart, h.place, h.glob, h.frame, h.out, h.low, h.fix, h.has⟩
  · simp [Ctx.inner]; omega
  · rcases List.mem_append.1 hp with hp | hp
    · exact hx p hp
    · exact h.sys p hp
  · dsimp only at hl
    rw [look_appE] at hl
    cases h1 : look t (slots args) with
    | some v1 =>
      rw [h1] at hl
      cases hl
      exact env_args hargs hle hs h1
    | none =>
      rw [h1] at hl
      obtain ⟨h2, h3⟩ := look_shift.1 hl
      obtain ⟨x, h4, h5⟩ := h.env _ v (hsub _ v h3)
      refine ⟨x, ?_, h5⟩
      rw [slot_big h2, inner_g, ghost_of h4]
theorem StB.leave (h : StB C β S a w) {nt1 : Nat} {xs : List (Nat × Obj)} {β1 : Nat → Value} {S1 : Sd} {a1 : Act} {w1 : World} (h1 : StB (C.inner nt1 a.tmps xs) β1 S1 a1 w1) {env0 : List (Nat × V)} (hsub0 : ∀ t v, look t env0 = some v → look t S.env = some v)
    (hsub : ∀ t v, look t (shift env0) = some v → look t S1.env = some v) (hD : ∀ D, markOf D ∈ a.defers → (D, Obj.deferred (some [])) ∈ xs) : StB C β1 ⟨env0, S1.H, S1.gl⟩ a w1 := by
  obtain ⟨Ds, hd1, hd2, hd3⟩ := h.defers
  refine ⟨h.size, h.small, ⟨Ds, hd1, hd2, fun D hDm => ⟨?_, (hd3 D hDm).2⟩⟩, fun p hp => h1.sys p (List.mem_append_right _ hp), fun t v hl => ?_, h1.obs, h1.apart, h1.place, h1.glob, h1.frame, h1.out, h1.low, h1.fix, h1.has⟩
  · exact (h1.sys (D, .deferred (some [])) (List.mem_append_left _ (hD D (by rw [hd1]; exact List.mem_map_of_mem hDm)))).1
  · obtain ⟨x, h2, h3⟩ := h.env t v (hsub0 t v hl)
    have h4 := hsub (t + 100000) v (look_shift.2 ⟨by omega, by simpa using hl⟩)
    obtain ⟨y, h5, h6⟩ := h1.env _ v h4
    refine ⟨y, ?_, h6⟩
    rw [slot_big (by omega), inner_g, ghost_of (x := x) (by rw [Nat.add_sub_cancel]; exact h2)] at h5
    rw [h2]
    exact h5
end
structure EndsI (P : Program) (rs : List ResultVar) (env0 : List (Nat × V)) (gl : List (Nat × List D)) (K : V → List (Nat × Ob) → Prop) (e : Exit) (S : Sd) : Prop where
  how : e = .ret ∨ e = .normal
  gl : S.gl = gl
  sub : Sub S.env (shift env0)
  res : ∃ vs, ResE P S rs vs ∧ K (oneOf vs) S.H
theorem noPanic_endsI {P : Program} {rs : List ResultVar} {env0 : List (Nat × V)} {gl : List (Nat × List D)} {K : V → List (Nat × Ob) → Prop} : noPanic (EndsI P rs env0 gl K) := fun c S h => by rcases h.how with h | h <;> cases h
section
variable {E : Set} {Q : Exit → Sd → Prop} {ops : Array Oper} {draw : Bool} {rest : Todo} {way : Way3} {ty : TypeId} {pos : String} {af : Array Edge} {gd : Option (Nat × Bool)}
variable {env : List (Nat × V)} {H : List (Nat × Ob)} {gl : List (Nat × List D)} {d : Nat}
theorem markOf_mem {Ds : List Nat} {D : Nat} (h : markOf D ∈ Ds.map markOf) : D ∈ Ds := by
  obtain ⟨D', h1, h2⟩ := List.mem_map.1 h
  have : D' = D := by simpa [markOf] using h2
  exact this ▸ h1
theorem s_inline {f nt1 : Nat} {fx : Operand} {xs : List Operand} {ats : Array TypeId} {fs gs vs : List V} {env0 : List (Nat × V)} {fn : Func} {c : Code} {rs : Array ResultVar} [hf : TFun E.P f] (hfx : Sd.ev ⟨env, H, gl⟩ fx = some (.clo (.func f) fs gs)) (hof : okOp fx = true) (hx : Evs ⟨env, H, gl⟩ xs vs)
    (hfn : E.P.funcs[f]? = some fn) (hbody : fn.body = some c) (hn : fn.ntmps = nt1) (hr : fn.results = rs) (hle : Nat.ble (fs ++ vs ++ gs).length nt1 = true) (hs : Nat.ble nt1 100000 = true) (hnub : Nub [] env env0) (hd : d < E.C.nt) (hg : Sd.gd ⟨env, H, gl⟩ ops ⟨some d, .call { callee := .value fx, args := xs.toArray, argTypes := ats }, ty, pos, af, gd⟩ = some true) (hw : isBar draw way = true)
    (h : ∀ tm sy, TC ⟨E.P, E.C.inner nt1 tm sy, none⟩ c (EndsI E.P rs.toList env0 gl fun v H1 => TR E draw ops Q rest ⟨(d, v) :: env0, H1, gl⟩) ⟨slots (fs ++ vs ++ gs) ++ shift env0, H, gl⟩) :
    TR E draw ops Q (.step ⟨some d, .call { callee := .value fx, args := xs.toArray, argTypes := ats }, ty, pos, af, gd⟩ way rest) ⟨env, H, gl⟩ := by
  have hsub0 : ∀ t v, look t env0 = some v → look t env = some v := fun t v hl => hnub.look hl
  refine tr_calls rfl hd hg rfl hw fun β a w hB => ?_
  obtain ⟨fs', gs', h1, h2, h3⟩ := hB.ev hfx hof
  refine ⟨f, _, run_callV hf a h1 xs ats (some d) w, ?_⟩
  obtain ⟨Ds, hd1, hd2, hd3⟩ := hB.defers
  have hargs := RepL.app (RepL.app h2 (hx.rep hB)) h3
  have hst := hB.enter hargs (Nat.le_of_ble_eq_true hle) (Nat.le_of_ble_eq_true hs) (env0 := env0) hsub0 (xs := Ds.map fun D => (D, .deferred (some []))) (fun p hp => by
    obtain ⟨D, hD, rfl⟩ := List.mem_map.1 hp
    exact ⟨(hd3 D hD).1, rfl, (hd3 D hD).2.1⟩)
  refine calls_of_tc hfn hbody (h a.tmps _) ⟨β, by rw [hn]; exact hst⟩ fun e S1 β1 a1 w1 hB1 hq => ⟨hq.how, ?_⟩
  obtain ⟨vs', hres, hK⟩ := hq.res
  obtain ⟨us', h4, h5⟩ := resE_run hB1 hres
  have hBL := hB.leave hB1 (env0 := env0) hsub0 (fun t v hl => hq.sub.look hl) (fun D hD => by
    rw [hd1] at hD
    exact List.mem_map.2 ⟨D, markOf_mem hD, rfl⟩)
  rw [hq.gl] at hBL
  exact ⟨_, run_results hr h4, _, ⟨env0, S1.H, gl⟩, β1, oneOf vs', rfl, hBL, rep_oneOf h5, hK⟩
def recOf (st : LoopState) (fn0 : FuncId) (tm : Array Value) (ps : Array Tmp) (assign body : Code) (D : Nat) : Obj := .loop { state := st, pending := none, fn := fn0, tmps := tm, params := ps, assign := assign, body := body, defers := D }
noncomputable def Ctx.iter (C : Ctx) (nt1 : Nat) (st : LoopState) (fn0 : FuncId) (tm : Array Value) (ps : Array Tmp) (assign body : Code) (D : Nat) (sy : List (Nat × Obj)) : Ctx :=
  C.inner nt1 tm ((D + 1, recOf st fn0 tm ps assign body D) :: (D, .deferred (some [])) :: sy)
theorem tc_range {f nt1 : Nat} {g : Operand} {ps : Array Tmp} {assign body : Code} {fs gs : List V} {env0 : List (Nat × V)} {fn : Func} {c : Code} {rs : Array ResultVar} (hrd : E.rd = none) [hf : TFun E.P f] (hg : Sd.ev ⟨env, H, gl⟩ g = some (.clo (.func f) fs gs)) (hog : okOp g = true)
    (hfn : E.P.funcs[f]? = some fn) (hbody : fn.body = some c) (hn : fn.ntmps = nt1) (hr : fn.results = rs) (hle : Nat.ble (fs ++ [V.clo (.yield 0) [] []] ++ gs).length nt1 = true) (hs : Nat.ble nt1 100000 = true) (hnub : Nub [] env env0)
    (h : ∀ tm fn0 sy D, tm.size = E.C.nt → E.C.nt ≤ 100000 → (∀ p ∈ sy ++ E.C.sys, p.1 < D) → TC ⟨E.P, E.C.iter nt1 .ready fn0 tm ps assign body D sy, none⟩ c (EndsI E.P rs.toList env0 gl fun _ H1 => Q .normal ⟨env0, H1, gl⟩) ⟨slots (fs ++ [V.clo (.yield (D + 1)) [] []] ++ gs) ++ shift env0, H, gl⟩) :
    TC E (.rangeFunc g ps assign body) Q ⟨env, H, gl⟩ := fun a w ⟨β, hB⟩ => by
  have hsub0 : ∀ t v, look t env0 = some v → look t env = some v := fun t v hl => hnub.look hl
  obtain ⟨P, C, rd⟩ := E
  dsimp only at hrd
  subst hrd
  obtain ⟨fs', gs', h1, h2, h3⟩ := hB.ev hg hog
  obtain ⟨Ds, hd1, hd2, hd3⟩ := hB.defers
  have hcl : ∀ args w, (callFunc f args).run P w = .ok (.enter f args) w := fun args w => by
    have := hf.ok
    unfold callOk at this
    rw [hfn] at this
    simp only [Bool.and_eq_true, Bool.not_eq_true'] at this
    have h2 : ¬ fn.name = "runtime.NumGoroutine" := by simpa using this.2
    simp [callFunc, hfn, hbody, h2]
  show Code.wpIn (WF none) 0 P (.rangeFunc g ps assign body) (Qof C Q) a w
  refine wpIn_rangeFunc fun fn0 _ => ?_
  have hro : (WF none).round = none := rfl
  rw [hro]
  let D := w.heap.size
  let W1 := (w.alloc (.deferred (some []))).alloc (recOf .ready fn0 a.tmps ps assign body D)
  have hl1 : W1.heap[D + 1]? = some (recOf .ready fn0 a.tmps ps assign body D) := by
    have := World.alloc_heap_new (w.alloc (.deferred (some []))) (recOf .ready fn0 a.tmps ps assign body D)
    rwa [World.size_alloc] at this
  have hl0 : W1.heap[D]? = some (.deferred (some [])) := (Below.heap_alloc _ _ _ (by simp [D])).trans (World.alloc_heap_new w _)
  have gr : Grows w W1 := (Grows.alloc w _).trans (Grows.alloc _ _)
  have hw0 : C.w0.heap.size ≤ D := hB.frame.size
  have hDlt : ∀ D' ∈ Ds, D' < D := fun D' hD' => (Array.getElem?_eq_some_iff.1 (hd3 D' hD').1).1
  have hSlt : ∀ p ∈ C.sys, p.1 < D := fun p hp => (Array.getElem?_eq_some_iff.1 (hB.sys p hp).1).1
  have hB1 := hB.later gr
  refine ⟨D + 1, [{ target := .collected D, args := #[] }], W1, { target := .fn (.func f) gs'.toArray, args := fs'.toArray ++ #[Value.func (.yield (D + 1)) #[] #[]] }, W1, f,
    (fs' ++ [Value.func (.yield (D + 1)) #[] #[]] ++ gs').toArray, W1, run_enterLoop_outer _ _ _ _ _, ?_, ?_, ?_, WF_depth none 0, ?_⟩
  · simp only [resolve, h1]
    simp [Deferred.ofValue, Act.eval]
  · intro f' _; trivial
  · simp [invoke, hcl]
  · refine callsIn_wide.2 ?_
    have hyv : RepL W1 (Mut C.M0 β H) β H [.clo (.yield (D + 1)) [] []] [.func (.yield (D + 1)) #[] #[]] := ⟨_, [], rfl, ⟨[], [], rfl, rfl, rfl⟩, rfl⟩
    have hk : Keeps w (Mut C.M0 β H) W1 (Mut C.M0 β H) := Keeps.below gr
    have hrr : ∀ n e sz sh xs k, look n H = some (.row e sz sh xs k) → ∃ sh' xs', look n H = some (.row e sz sh' xs' k) := fun n e sz sh xs k h => ⟨sh, xs, h⟩
    have hargs := RepL.app (RepL.app (RepL.keep hk (fun _ => rfl) hrr _ _ h2) hyv) (RepL.keep hk (fun _ => rfl) hrr _ _ h3)
    have hlen : (fs ++ [V.clo (.yield (D + 1)) [] []] ++ gs).length ≤ nt1 := by have := Nat.le_of_ble_eq_true hle; simpa using this
    have hsys : ∀ p ∈ ((D + 1, recOf .ready fn0 a.tmps ps assign body D) :: (D, .deferred (some [])) :: Ds.map fun D => (D, Obj.deferred (some []))), W1.heap[p.1]? = some p.2 ∧ sysO p.2 = true ∧ C.w0.heap.size ≤ p.1 := fun p hp => by
      rcases List.mem_cons.1 hp with rfl | hp
      · exact ⟨hl1, rfl, by show C.w0.heap.size ≤ D + 1; omega⟩
      · rcases List.mem_cons.1 hp with rfl | hp
        · exact ⟨hl0, rfl, hw0⟩
        · obtain ⟨D', hD', rfl⟩ := List.mem_map.1 hp
          exact ⟨(gr.block D' (hDlt D' hD')).trans (hd3 D' hD').1, rfl, (hd3 D' hD').2.1⟩
    have hst := hB1.enter hargs hlen (Nat.le_of_ble_eq_true hs) (env0 := env0) hsub0 hsys
    refine calls_of_tc hfn hbody (h a.tmps fn0 _ D hB.size hB.small (fun p hp => ?_)) ⟨β, by rw [hn]; exact hst⟩ fun e S1 β1 a1 w1 hBi hq => ⟨hq.how, ?_⟩
    · rcases List.mem_append.1 hp with hp | hp
      · obtain ⟨D', hD', rfl⟩ := List.mem_map.1 hp
        exact hDlt D' hD'
      · exact hSlt p hp
    · obtain ⟨vs', hres, hK⟩ := hq.res
      obtain ⟨us', h4, h5⟩ := resE_run hBi hres
      have hBL := hB1.leave hBi (env0 := env0) hsub0 (fun t v hl => hq.sub.look hl) (fun D' hD' => by
        rw [hd1] at hD'
        exact List.mem_cons_of_mem _ (List.mem_cons_of_mem _ (List.mem_map.2 ⟨D', markOf_mem hD', rfl⟩)))
      rw [hq.gl] at hBL
      have q1 : w1.heap[D + 1]? = some (recOf .ready fn0 a.tmps ps assign body D) := (hBi.sys _ List.mem_cons_self).1
      have q0 : w1.heap[D]? = some (.deferred (some [])) := (hBi.sys (D, .deferred (some [])) (List.mem_cons_of_mem _ List.mem_cons_self)).1
      refine ⟨_, run_results hr h4, none, _, run_endLoop (P := P) q1 (by simp), ?_⟩
      refine ⟨⟨env0, S1.H, gl⟩, ⟨β1, ?_⟩, hK⟩
      refine hBL.sysput q1 rfl rfl (by have : C.w0.heap.size ≤ D := hw0; show C.w0.heap.size ≤ D + 1; omega) (sys' := C.sys) (fun p hp => .inr ⟨hp, by have := hSlt p hp; omega⟩) rfl ⟨D :: Ds, by rw [hd1]; rfl, List.nodup_cons.2 ⟨fun hm => by have := hDlt D hm; omega, hd2⟩, fun D' hD' => ?_⟩
      rcases List.mem_cons.1 hD' with rfl | hD'
      · exact ⟨q0, hw0, by omega, fun p hp => by have := hSlt p hp; omega⟩
      · obtain ⟨Ds2, e1, e2, e3⟩ := hBL.defers
        have : D' ∈ Ds2 := by
          have hm : markOf D' ∈ Ds2.map markOf := by rw [← e1, hd1]; exact List.mem_map_of_mem hD'
          exact markOf_mem hm
        exact ⟨(e3 D' this).1, (e3 D' this).2.1, by have := hDlt D' hD'; omega, (e3 D' this).2.2⟩
def zipPs : List Tmp → List V → List (Nat × V)
  | p :: ps, v :: vs => (p, v) :: zipPs ps vs
  | _, _ => []
theorem foldl_size (l : List (Tmp × Value)) : ∀ tm : Array Value, (l.foldl (fun t (p, v) => t.setIfInBounds p v) tm).size = tm.size := by
  induction l with
  | nil => intro tm; rfl
  | cons x l ih => intro tm; rw [List.foldl_cons, ih]; simp
theorem foldl_other {t : Nat} : ∀ (l : List (Tmp × Value)) (tm : Array Value), (∀ p ∈ l, p.1 ≠ t) → (l.foldl (fun t (p, v) => t.setIfInBounds p v) tm)[t]? = tm[t]?
  | [], tm, _ => rfl
  | x :: l, tm, h => by
    rw [List.foldl_cons, foldl_other l _ (fun p hp => h p (List.mem_cons_of_mem _ hp))]
    exact Array.getElem?_setIfInBounds_ne (h x List.mem_cons_self)
theorem foldl_zip {w : World} {M : Nat → Nat → Prop} {β : Nat → Value} {H : List (Nat × Ob)} : ∀ (ps : List Tmp) {vs : List V} {us : List Value} (tm : Array Value), RepL w M β H vs us → ps.Nodup → (∀ p ∈ ps, p < tm.size) → ∀ {t : Nat} {v : V}, look t (zipPs ps vs) = some v →
    ∃ x, ((ps.zip us).foldl (fun t (p, v) => t.setIfInBounds p v) tm)[t]? = some x ∧ RepV w M β H v x
  | [], _, _, _, _, _, _, _, _, h => by simp [zipPs, look] at h
  | p :: ps, [], _, _, _, _, _, _, _, h => by simp [zipPs, look] at h
  | p :: ps, v :: vs, us, tm, hr, hnd, hlt, t, v', h => by
    obtain ⟨u, r, rfl, h1, h2⟩ := hr
    obtain ⟨hp, hnd'⟩ := List.nodup_cons.1 hnd
    simp only [zipPs] at h
    rw [look_cons] at h
    rw [List.zip_cons_cons, List.foldl_cons]
    split at h
    · rename_i e
      subst e
      cases h
      refine ⟨u, ?_, h1⟩
      rw [foldl_other _ _ (fun q hq => by rintro rfl; exact hp (List.of_mem_zip hq).1)]
      simp [hlt p List.mem_cons_self]
    · exact foldl_zip ps _ h2 hnd' (fun q hq => by simpa using hlt q (List.mem_cons_of_mem _ hq)) h
structure EndsY (env1 : List (Nat × V)) (gl : List (Nat × List D)) (K : List (Nat × Ob) → Prop) (e : Exit) (S : Sd) : Prop where
  how : e = .normal
  gl : S.gl = gl
  sub : Sub S.env (shift env1)
  res : K S.H
theorem noPanic_endsY {env1 : List (Nat × V)} {gl : List (Nat × List D)} {K : List (Nat × Ob) → Prop} : noPanic (EndsY env1 gl K) := fun c S h => by cases h.how
structure EndsA (E2 : Set) (body : Code) (Q : Exit → Sd → Prop) (e : Exit) (S : Sd) : Prop where
  how : e = .normal
  go : TC E2 body Q S
theorem noPanic_endsA {E2 : Set} {body : Code} {Q : Exit → Sd → Prop} : noPanic (EndsA E2 body Q) := fun c S h => by cases h.how
theorem s_yield {P : Program} {C : Ctx} {nt1 : Nat} {fn0 : FuncId} {tm : Array Value} {ps : Array Tmp} {assign body : Code} {D : Nat} {sy : List (Nat × Obj)} {fx : Operand} {xs : List Operand} {ats : Array TypeId} {vs : List V} {env1 envc : List (Nat × V)}
    (htm : tm.size = C.nt) (hnt : C.nt ≤ 100000) (hlow : ∀ p ∈ sy ++ C.sys, p.1 < D)
    (hfx : Sd.ev ⟨env, H, gl⟩ fx = some (.clo (.yield (D + 1)) [] [])) (hof : okOp fx = true) (hx : Evs ⟨env, H, gl⟩ xs vs) (hlen : Nat.beq vs.length ps.size = true) (hps : (ps.toList.all fun p => Nat.blt p C.nt) = true) (hnd : ps.toList.Nodup)
    (hnub : Nub [] env env1) (hec : Sub env (shift envc)) (hcl : (envc.all fun p => Nat.blt p.1 C.nt) = true)
    (hd : d < nt1) (hg : Sd.gd ⟨env, H, gl⟩ ops ⟨some d, .call { callee := .value fx, args := xs.toArray, argTypes := ats }, ty, pos, af, gd⟩ = some true)
    (h : ∀ tm1 sy1, TC ⟨P, (C.iter nt1 .ready fn0 tm ps assign body D sy).inner C.nt tm1 sy1, some (D + 1)⟩ assign (EndsA ⟨P, (C.iter nt1 .busy fn0 tm ps assign body D sy).inner C.nt tm1 sy1, some (D + 1)⟩ body
      (EndsY env1 gl fun H1 => TR ⟨P, C.iter nt1 .ready fn0 tm ps assign body D sy, none⟩ false ops Q rest ⟨(d, .d (.bool true)) :: env1, H1, gl⟩)) ⟨zipPs ps.toList vs ++ (envc ++ shift env1), H, gl⟩) :
    TR ⟨P, C.iter nt1 .ready fn0 tm ps assign body D sy, none⟩ false ops Q (.step ⟨some d, .call { callee := .value fx, args := xs.toArray, argTypes := ats }, ty, pos, af, gd⟩ way rest) ⟨env, H, gl⟩ := fun a w hS => by
  have hsub0 : ∀ t v, look t env1 = some v → look t env = some v := fun t v hl => hnub.look hl
  have hS0 := hS
  obtain ⟨β, hB⟩ := hS
  let C1 := C.iter nt1 .ready fn0 tm ps assign body D sy
  have hq1 : w.heap[D + 1]? = some (recOf .ready fn0 tm ps assign body D) := (hB.sys _ List.mem_cons_self).1
  have hw0 : C.w0.heap.size ≤ D + 1 := (hB.sys (D + 1, recOf .ready fn0 tm ps assign body D) List.mem_cons_self).2.2
  obtain ⟨fs', gs', e1, e2, e3⟩ := hB.ev hfx hof
  simp only [RepL] at e2 e3
  subst e2
  subst e3
  have hargs := hx.rep hB
  have hal := hargs.length
  have hll := Nat.eq_of_beq_eq_true hlen
  obtain ⟨Ds, hd1, hd2, hd3⟩ := hB.defers
  show wpListIn (WF none) 0 P ops (Qof C1 Q) (_ :: rest.list) a w
  refine wpListIn_step fun K hK => ?_
  rw [Sd.gd_sound hS0 hg, if_pos rfl]
  refine ⟨fun _ _ => WF_fn none _, ?_⟩
  rw [Oper.semAt_eq _ _ _ (by intro c hc; cases hc)]
  have hrun : (execOp a.eval ⟨some d, .call { callee := .value fx, args := xs.toArray, argTypes := ats }, ty, pos, af, gd⟩).run P w = .ok (.round (D + 1) fn0 ((ps.zip (xs.map a.eval).toArray).foldl (fun tmps (t, a) => tmps.setIfInBounds t a) tm) assign body) w := by
    have := run_yield (P := P) (args := (xs.map a.eval).toArray) hq1 (by simp at hal ⊢; omega)
    simpa [execOp, resolve, e1, Deferred.ofValue, invoke] using this
  rw [hrun, Oper.uponIn_round]
  refine ⟨WF_depth none 0, ?_⟩
  -- the frame of the round
  let tm2 := (ps.zip (xs.map a.eval).toArray).foldl (fun tmps (t, a) => tmps.setIfInBounds t a) tm
  have htm2 : tm2 = (ps.toList.zip (xs.map a.eval)).foldl (fun tmps (t, a) => tmps.setIfInBounds t a) tm := by
    show Array.foldl _ _ _ = _
    rw [← Array.foldl_toList]
    simp
  let sy1 : List (Nat × Obj) := Ds.map fun D => (D, .deferred (some []))
  have hpl : ∀ p ∈ ps.toList, p < tm.size := fun p hp => by rw [htm]; exact Nat.le_of_ble_eq_true (List.all_eq_true.1 hps p hp)
  have hsy1 : ∀ p ∈ sy1, w.heap[p.1]? = some p.2 ∧ sysO p.2 = true ∧ C1.w0.heap.size ≤ p.1 := fun p hp => by
    obtain ⟨D', hD', rfl⟩ := List.mem_map.1 hp
    exact ⟨(hd3 D' hD').1, rfl, (hd3 D' hD').2.1⟩
  have hst : StB (C1.inner C.nt a.tmps sy1) β ⟨zipPs ps.toList vs ++ (envc ++ shift env1), H, gl⟩ { tmps := tm2, defers := [] } w := by
    refine ⟨?_, hnt, ⟨[], rfl, List.nodup_nil, (fun D h => by cases h)⟩, fun p hp => ?_, fun t v hl => ?_, hB.obs, hB.apart, hB.place, hB.glob, hB.frame, hB.out, hB.low, hB.fix, hB.has⟩
    · show tm2.size = C.nt
      rw [htm2, foldl_size, htm]
    · rcases List.mem_append.1 hp with hp | hp
      · exact hsy1 p hp
      · exact hB.sys p hp
    · dsimp only at hl
      rw [look_appE] at hl
      cases q1 : look t (zipPs ps.toList vs) with
      | some v1 =>
        rw [q1] at hl
        cases hl
        obtain ⟨x, k1, k2⟩ := foldl_zip ps.toList tm hargs hnd hpl q1
        refine ⟨x, ?_, k2⟩
        have ht : t < tm2.size := by
          rw [htm2]; exact (Array.getElem?_eq_some_iff.1 k1).1
        have hsz : tm2.size = C.nt := by rw [htm2, foldl_size, htm]
        rw [slot_small (by omega)]
        show tm2[t]? = some x
        rw [htm2]
        exact k1
      | none =>
        rw [q1] at hl
        dsimp only at hl
        rw [look_appE] at hl
        cases q2 : look t envc with
        | some v1 =>
          rw [q2] at hl
          cases hl
          have hlt : t < C.nt := Nat.le_of_ble_eq_true (List.all_eq_true.1 hcl (t, v) (look_mem q2))
          have h6 := hec.look (look_shift.2 ⟨(by omega : 100000 ≤ t + 100000), by simpa using q2⟩)
          obtain ⟨y, k1, k2⟩ := hB.env _ v h6
          refine ⟨y, ?_, k2⟩
          have htt : t < tm.size := by omega
          rw [slot_big (by omega), show (C.iter nt1 .ready fn0 tm ps assign body D sy).g (t + 100000) = ghostOf C tm (t + 100000) from rfl,
            ghost_of (a := { tmps := tm, defers := [] }) (x := tm[t]) (by rw [Nat.add_sub_cancel, slot_small (by omega)]; exact Array.getElem?_eq_getElem htt)] at k1
          rw [slot_small (by omega)]
          show tm2[t]? = some y
          rw [htm2, foldl_other _ _ (fun p hp => ?_)]
          · rw [Array.getElem?_eq_getElem htt]
            exact k1
          · rintro rfl
            have hp1 := (List.of_mem_zip hp).1
            -- a slot of the loop is among the first
            have : ∀ (ps : List Tmp) (vs : List V), ps.length = vs.length → p.1 ∈ ps → look p.1 (zipPs ps vs) ≠ none := by
              intro ps
              induction ps with
              | nil => intro vs _ h; cases h
              | cons q ps ih =>
                intro vs hl h
                cases vs with
                | nil => simp at hl
                | cons v vs =>
                  simp only [zipPs]
                  rw [look_cons]
                  split
                  · simp
                  · rename_i hne
                    rcases List.mem_cons.1 h with h | h
                    · exact absurd h.symm hne
                    · exact ih vs (by simpa using hl) h
            exact this ps.toList vs (by simp; omega) hp1 q1
        | none =>
          rw [q2] at hl
          obtain ⟨h2, h3⟩ := look_shift.1 hl
          obtain ⟨x, h4, h5⟩ := hB.env _ v (hsub0 _ v h3)
          refine ⟨x, ?_, h5⟩
          rw [slot_big h2, inner_g, ghost_of h4]
  have hls : ∀ p ∈ sy1 ++ ((D, Obj.deferred (some [])) :: (sy ++ C.sys)), p.1 ≠ D + 1 := fun p hp => by
    rcases List.mem_append.1 hp with hp | hp
    · rintro e
      have := (hsy1 p hp).1
      obtain ⟨D', hD', rfl⟩ := List.mem_map.1 hp
      dsimp only at e this
      rw [e, hq1] at this
      cases this
    · rcases List.mem_cons.1 hp with rfl | hp
      · simp
      · have := hlow p hp
        omega
  have hmem : ∀ (st : LoopState) p, p ∈ ((C.iter nt1 st fn0 tm ps assign body D sy).inner C.nt a.tmps sy1).sys → p = (D + 1, recOf st fn0 tm ps assign body D) ∨ p ∈ sy1 ++ ((D, Obj.deferred (some [])) :: (sy ++ C.sys)) := fun st p hp => by
    rcases List.mem_append.1 hp with hp | hp
    · exact .inr (List.mem_append_left _ hp)
    · rcases List.mem_cons.1 hp with rfl | hp
      · exact .inl rfl
      · exact .inr (List.mem_append_right _ (by simpa using hp))
  have hmem' : ∀ (st : LoopState) p, p ∈ sy1 ++ ((D, Obj.deferred (some [])) :: (sy ++ C.sys)) → p ∈ ((C.iter nt1 st fn0 tm ps assign body D sy).inner C.nt a.tmps sy1).sys := fun st p hp => by
    rcases List.mem_append.1 hp with hp | hp
    · exact List.mem_append_left _ hp
    · exact List.mem_append_right _ (List.mem_cons_of_mem _ (by simpa using hp))
  refine roundIn_of_wpIn (WF_fn none _) ?_
  refine wpIn_mono (h a.tmps sy1 _ w ⟨β, hst⟩) fun e a3 w3 hqa => ?_
  obtain ⟨S3, ⟨β3, hB3⟩, hA⟩ := hqa
  obtain ⟨rfl, hT⟩ := hA
  have q3 : w3.heap[D + 1]? = some (recOf .ready fn0 tm ps assign body D) := (hB3.sys _ (List.mem_append_right _ List.mem_cons_self)).1
  refine ⟨_, run_beginRound q3 rfl, ?_⟩
  obtain ⟨Ds3, f1, f2, f3⟩ := hB3.defers
  have hB4 := hB3.sysput q3 rfl (o' := recOf .busy fn0 tm ps assign body D) rfl hw0 (sys' := ((C.iter nt1 .busy fn0 tm ps assign body D sy).inner C.nt a.tmps sy1).sys) (fun p hp => (hmem .busy p hp).imp id fun hp => ⟨hmem' .ready p hp, hls p hp⟩) (a' := a3) rfl ⟨Ds3, f1, f2, fun D' hD' => by
    obtain ⟨k1, k2, k3⟩ := f3 D' hD'
    refine ⟨k1, k2, fun e => ?_, fun p hp => ?_⟩
    · rw [e, q3] at k1; cases k1
    · rcases hmem .busy p hp with rfl | hp
      · exact k3 (D + 1, recOf .ready fn0 tm ps assign body D) (List.mem_append_right sy1 (List.mem_cons_self (l := (D, Obj.deferred (some [])) :: (sy ++ C.sys))))
      · exact k3 p (hmem' .ready p hp)⟩
  refine wpIn_mono (hT _ _ ⟨β3, hB4⟩) fun e a5 w5 hqb => ?_
  obtain ⟨S5, ⟨β5, hB5⟩, hY⟩ := hqb
  obtain ⟨rfl, hgl, hsub, hres⟩ := hY
  have hm5 : (D + 1, recOf .busy fn0 tm ps assign body D) ∈ ((C.iter nt1 .busy fn0 tm ps assign body D sy).inner C.nt a.tmps sy1).sys := List.mem_append_right sy1 (List.mem_cons_self (l := (D, Obj.deferred (some [])) :: (sy ++ C.sys)))
  have q5 : w5.heap[D + 1]? = some (recOf .busy fn0 tm ps assign body D) := (hB5.sys _ hm5).1
  refine ⟨_, _, run_endRound none q5, ?_⟩
  have hB6 := hB5.sysput q5 rfl (o' := recOf .ready fn0 tm ps assign body D) rfl hw0 (sys' := ((C.iter nt1 .ready fn0 tm ps assign body D sy).inner C.nt a.tmps sy1).sys) (fun p hp => (hmem .ready p hp).imp id fun hp => ⟨hmem' .busy p hp, hls p hp⟩) (a' := { a5 with defers := [] }) rfl ⟨[], rfl, List.nodup_nil, (fun D h => by cases h)⟩
  have hBL := hB.leave (xs := sy1) hB6 (env0 := env1) hsub0 (fun t v hl => hsub.look hl) (fun D' hD' => by
    rw [hd1] at hD'
    exact List.mem_map.2 ⟨D', markOf_mem hD', rfl⟩)
  rw [hgl] at hBL
  refine hK _ _ (hres _ _ ⟨β5, ?_⟩)
  exact hBL.put hd rfl
end
end Go.Proofs.YtcblefmjacofgaaGreatDoor
namespace Go.Proofs.YtcblefmjacofgaaGreatDoor
open Go.RowKit
def zeroDOk (P : Program) (t : Nat) (x : D) : Bool := match P.info? t with
  | some i => (match i.zero with
    | some (.agg cs) => (match x with | .agg ds => zeroD cs.toList ds | _ => false)
    | some z => zeroD [z] [x]
    | none => false)
  | none => false
class TZeroD (P : Program) (t : Nat) (x : outParam D) : Prop where
  ok : zeroDOk P t x = true
theorem zeroD_one {P : Program} {t : Nat} {x : D} (h : TZeroD P t x) : ∃ i z, P.info? t = some i ∧ i.zero = some z ∧ ∀ {w : World} {M : Nat → Nat → Prop}, RepD w M x z := by
  have := h.ok
  unfold zeroDOk at this
  cases hi : P.info? t with
  | none => rw [hi] at this; cases this
  | some i =>
    rw [hi] at this
    dsimp only at this
    cases hz : i.zero with
    | none => rw [hz] at this; cases this
    | some z =>
      rw [hz] at this
      refine ⟨i, z, rfl, hz, ?_⟩
      intro w M
      have one : zeroD [z] [x] = true → RepD w M x z := fun h => by
        obtain ⟨v, r, e, _, h1, _⟩ := zeroD_rep' (w := w) (M := M) h
        cases e
        exact h1
      cases z
      case agg cs =>
        dsimp only at this
        split at this
        · exact ⟨cs.toList, by simp, zeroD_rep' this⟩
        · cases this
      all_goals exact one this
section
variable {E : Set} {Q : Exit → Sd → Prop} {ops : Array Oper} {draw : Bool} {rest : Todo} {way : Way3} {ty : TypeId} {pos : String} {af : Array Edge} {gd : Option (Nat × Bool)} {dst : Option Tmp}
variable {env : List (Nat × V)} {H : List (Nat × Ob)} {gl : List (Nat × List D)} {d : Nat}
theorem q_min {S : Sd} {x y : Operand} {k k' : IntKind} {p q : Int} {ats : Array TypeId} (hx : S.ev x = some (.d (.int k p))) (hy : S.ev y = some (.d (.int k' q))) (hox : okOp x = true) (hoy : okOp y = true) :
    Swift E S ⟨dst, .call { callee := .builtin .min, args := #[x, y], argTypes := ats }, ty, pos, af, gd⟩ (.d (.int k (if q < p then q else p))) := Swift.mk fun β a w h => by
  have h1 : a.eval x = .int k p := h.ev hx hox
  have h2 : a.eval y = .int k' q := h.ev hy hoy
  refine ⟨.int k (if q < p then q else p), fun w' _ => ?_, rfl⟩
  simp [execOp, resolve, invoke, builtin, h1, h2, Builtin.min_, Builtin.min2]
theorem q_max {S : Sd} {x y : Operand} {k k' : IntKind} {p q : Int} {ats : Array TypeId} (hx : S.ev x = some (.d (.int k p))) (hy : S.ev y = some (.d (.int k' q))) (hox : okOp x = true) (hoy : okOp y = true) :
    Swift E S ⟨dst, .call { callee := .builtin .max, args := #[x, y], argTypes := ats }, ty, pos, af, gd⟩ (.d (.int k (if p < q then q else p))) := Swift.mk fun β a w h => by
  have h1 : a.eval x = .int k p := h.ev hx hox
  have h2 : a.eval y = .int k' q := h.ev hy hoy
  refine ⟨.int k (if p < q then q else p), fun w' _ => ?_, rfl⟩
  simp [execOp, resolve, invoke, builtin, h1, h2, Builtin.max_, Builtin.max2]
theorem madeCells_rep {w : World} {M : Nat → Nat → Prop} {x : D} {z : Value} (hr : RepD w M x z) {sz : Nat} (hs : z.cells.size = sz) (hpos : 0 < sz) : ∀ n, RepE w M sz (List.replicate n x) (madeCells z.cells (n * sz)).toList := by
  intro n
  induction n with
  | zero => simp [madeCells, RepE]
  | succ n ih =>
    have e : (madeCells z.cells ((n + 1) * sz)).toList = z.cells.toList ++ (madeCells z.cells (n * sz)).toList := by
      apply List.ext_getElem?
      intro j
      simp only [madeCells, Array.toList_map, Array.toList_range, List.getElem?_map]
      by_cases hj : j < sz
      · rw [List.getElem?_append_left (by simp [hs, hj])]
        have : j < (n + 1) * sz := by rw [Nat.add_mul]; omega
        rw [List.getElem?_range this]
        simp only [Option.map_some, hs, Nat.mod_eq_of_lt hj]
        rw [Array.getElem?_toList, Array.getElem?_eq_getElem (by omega)]
        rw [getElem!_pos z.cells j (by omega)]
      · rw [List.getElem?_append_right (by simp [hs]; omega)]
        simp only [Array.length_toList, hs, List.getElem?_map]
        by_cases hj2 : j < (n + 1) * sz
        · have : j - sz < n * sz := by rw [Nat.add_mul] at hj2; omega
          rw [List.getElem?_range hj2, List.getElem?_range this]
          simp only [Option.map_some]
          rw [Nat.mod_eq_sub_mod (by omega)]
        · have : ¬ j - sz < n * sz := by rw [Nat.add_mul] at hj2; omega
          rw [List.getElem?_eq_none (by simp; omega), List.getElem?_eq_none (by simp; omega)]
    rw [List.replicate_succ, e]
    exact ⟨z, _, rfl, hs, hr, ih⟩
theorem g_make {S : Sd} {n t e sz m : Nat} {k : IntKind} {p : Int} {x : Operand} {z : D} [ht : TSlice E.P t e sz] [hz : TZeroD E.P e z] (hx : S.ev x = some (.d (.int k p))) (hox : okOp x = true) (hp : p = (m : Nat)) (hm : m ≤ 1000000000) (hn : S.fresh n = true) :
    Grow E S ⟨some d, .makeSlice t x x, ty, pos, af, gd⟩ { S with H := (n, .row e sz false (List.replicate m z) 0) :: S.H } (.own n 0) := Grow.mk fun β a w h => by
  subst hp
  obtain ⟨bytes, ⟨i, z', hu, hi, hz', hs, hby, hzs, hpos⟩, hbl⟩ := slice_elem ht
  obtain ⟨i2, z2, hi2, hz2, hzr⟩ := zeroD_one hz
  rw [hi] at hi2
  cases hi2
  rw [hz'] at hz2
  cases hz2
  have h1 : a.eval x = .int k (m : Nat) := h.ev hx hox
  obtain ⟨w', h2, h3, h4⟩ := run_make_full (P := E.P) w 0 t e i z' sz hu hi hz' hs k k m (by rw [hby]; have := Nat.mul_le_mul hbl hm; omega) (by unfold maxLen; omega) (Nat.zero_le _)
  have g : Grows w w' := (Below.refl _ _).grown h4 (Nat.le_refl _) (fun k hk => by cases hk)
  refine ⟨_, w', _, ?_, g, h.newRow (sh := false) (xs := List.replicate m z) hn g (fun b hb' => ?_) (by rw [List.length_replicate]; exact h3) (madeCells_rep hzr hzs hpos m), repV_own⟩
  · simp only [execOp, h1, Sem.run_bind, h2, Result.andThen_ok, Sem.run_pure]
  · simp only [Value.ownBlock, Option.some.injEq] at hb'
    omega
theorem s_make (n : Nat) {t e sz m : Nat} {k : IntKind} {p : Int} {x : Operand} {z : D} [ht : TSlice E.P t e sz] [hz : TZeroD E.P e z] (hx : Sd.ev ⟨env, H, gl⟩ x = some (.d (.int k p))) (hox : okOp x = true) (hp : p = (m : Nat)) (hm : m ≤ 1000000000) (hn : Sd.fresh ⟨env, H, gl⟩ n = true) (hd : d < E.C.nt)
    (hg : Sd.gd ⟨env, H, gl⟩ ops ⟨some d, .makeSlice t x x, ty, pos, af, gd⟩ = some true) (hw : way.loud = true) (h : TR E draw ops Q rest ⟨(d, .own n 0) :: env, (n, .row e sz false (List.replicate m z) 0) :: H, gl⟩) :
    TR E draw ops Q (.step ⟨some d, .makeSlice t x x, ty, pos, af, gd⟩ way rest) ⟨env, H, gl⟩ := tr_grow (g_make hx hox hp hm hn) rfl hd hg rfl hw h
theorem t_store1 {S : Sd} {t n off : Nat} {x y : Operand} {v : V} {cs : List V} [ht : TSize E.P t 1] (hx : S.ev x = some (.ptr n off)) (hox : okOp x = true) (hy : S.ev y = some v) (hoy : okOp y = true) (hown : ownOk S v = true) (hl : look n S.H = some (.box cs)) (hc : CellsV v [v]) (hoff : off < cs.length) :
    Turn E S ⟨none, .store t x y, ty, pos, af, gd⟩ { S with H := (n, .box (cs.set off v)) :: S.H } := by
  have hr : Repl cs off [v] (cs.set off v) := by
    clear hl hx
    induction cs generalizing off with
    | nil => simp at hoff
    | cons c cs ih =>
      cases off with
      | zero => exact .here (.done _)
      | succ off => exact .there (ih (by simpa using hoff))
  exact t_store (m := 1) hx hox hy hoy hown hl hc rfl hr
theorem s_store1 {t n off : Nat} {x y : Operand} {v : V} {cs : List V} [ht : TSize E.P t 1] (hx : Sd.ev ⟨env, H, gl⟩ x = some (.ptr n off)) (hox : okOp x = true) (hy : Sd.ev ⟨env, H, gl⟩ y = some v) (hoy : okOp y = true) (hown : ownOk ⟨env, H, gl⟩ v = true)
    (hl : look n H = some (.box cs)) (hc : CellsV v [v]) (hoff : off < cs.length) (hg : Sd.gd ⟨env, H, gl⟩ ops ⟨none, .store t x y, ty, pos, af, gd⟩ = some true) (hw : isBar draw way = true)
    (h : TR E draw ops Q rest ⟨env, (n, .box (cs.set off v)) :: H, gl⟩) : TR E draw ops Q (.step ⟨none, .store t x y, ty, pos, af, gd⟩ way rest) ⟨env, H, gl⟩ := tr_turn (t_store1 hx hox hy hoy hown hl hc hoff) rfl hg rfl hw h
theorem repE_set {w : World} {M : Nat → Nat → Prop} {sz : Nat} {z : D} {u : Value} (hu : u.cells.size = sz) (hz : RepD w M z u) : ∀ {xs : List D} {vs : List Value}, RepE w M sz xs vs → ∀ {i : Nat}, i < xs.length → RepE w M sz (xs.set i z) (vs.take (i * sz) ++ u.cells.toList ++ vs.drop (i * sz + sz))
  | [], _, _, i, hi => by simp at hi
  | x :: xs, _, ⟨v, r, e, h2, h3, h4⟩, 0, _ => by
    subst e
    refine ⟨u, r, ?_, hu, hz, h4⟩
    have : v.cells.toList.length = sz := by simpa using h2
    simp [← this]
  | x :: xs, _, ⟨v, r, e, h2, h3, h4⟩, i + 1, hi => by
    subst e
    have hl : v.cells.toList.length = sz := by simpa using h2
    refine ⟨v, _, ?_, h2, h3, repE_set hu hz h4 (i := i) (by simpa using hi)⟩
    have e1 : (i + 1) * sz = v.cells.toList.length + i * sz := by rw [hl, Nat.add_mul]; omega
    rw [e1, List.take_append, List.take_of_length_le (by omega), Nat.add_sub_cancel_left, Nat.add_assoc, List.drop_append, List.drop_of_length_le (by omega), Nat.add_sub_cancel_left]
    simp
theorem t_store_el {S : Sd} {t n k i e sz : Nat} {x y : Operand} {v : V} {z : D} {xs zs : List D} [ht : TSize E.P t sz] (hx : S.ev x = some (.el n k i 0)) (hox : okOp x = true) (hl : look n S.H = some (.row e sz false xs k)) (hy : S.ev y = some v) (hoy : okOp y = true) (hz : ToD S.H v z) (hc : CellsD z zs) (hm : zs.length = sz) (hi : i < xs.length) :
    Turn E S ⟨none, .store t x y, ty, pos, af, gd⟩ { S with H := (n, .row e sz false (xs.set i z) k) :: S.H } := Turn.mk fun β a w h => by
  obtain ⟨b, l, c, h1, h2⟩ := h.ev hx hox e sz false xs hl
  obtain ⟨ys, h3, h4⟩ := h.obs n _ hl
  have hzr := hz.rep h (h.ev hy hoy)
  obtain ⟨g, cap, cur, h5, h6, h7, h8, h9, h10, h11⟩ : ∃ g cap cur, β n = .slice (some ⟨g, 0, none⟩) xs.length cap ∧ 0 ≤ g ∧ w.heap[g]? = some (.cells cur e (0, 0)) ∧ xs.length ≤ cap ∧ cap ≤ maxLen ∧ cur.size = cap * sz ∧ cur.toList.take (xs.length * sz) = ys := by
    rcases h3.2 with ⟨q, _⟩ | q
    · rw [h1] at q; cases q
    · exact q
  rw [h1] at h5
  simp only [Value.slice.injEq, Option.some.injEq, Addr.mk.injEq, and_true] at h5
  obtain ⟨rfl, _, rfl⟩ := h5
  cases hinf : E.P.info? t with
  | none => have := ht.ok; rw [hinf] at this; cases this
  | some inf =>
    have hsz : inf.size = sz := by have := ht.ok; rw [hinf] at this; simpa using this
    have hzl : (a.eval y).cells.size = sz := by have := (hc.rep hzr).length; simp at this; omega
    have hend : i * sz + sz ≤ xs.length * sz := by
      rw [show i * sz + sz = (i + 1) * sz by rw [Nat.add_mul]; omega]
      exact Nat.mul_le_mul_right _ (by omega)
    have hend2 : xs.length * sz ≤ cur.size := by rw [h10]; exact Nat.mul_le_mul_right _ h8
    have hst := run_storeCells_at E.P b (i * sz) e (a.eval y).cells.toList 0 cur w h7 (by simp; omega) (hzr.one)
    simp only [Nat.add_zero] at hst
    have hlen : (a.eval y).cells.toList.length = sz := by simpa using hzl
    have hbn : hb (β n) = some b := by rw [h1]; rfl
    have hH : ∀ m e' sz' sh' xs' k', look m ((n, Ob.row e sz false (xs.set i z) k) :: S.H) = some (.row e' sz' sh' xs' k') → ∃ sh' xs', look m S.H = some (.row e' sz' sh' xs' k') := fun m e' sz' sh' xs' k' hm => by
      rw [look_set] at hm
      split at hm
      · rename_i eq
        subst eq
        cases hm
        exact ⟨false, xs, hl⟩
      · exact ⟨sh', xs', hm⟩
    refine ⟨_, ?_, β, h.turn (w' := w.setRow b (cur.toList.take (i * sz) ++ (a.eval y).cells.toList ++ cur.toList.drop (i * sz + (a.eval y).cells.toList.length)).toArray) hl (fun _ _ => rfl) rfl rfl rfl (by simp) (fun k _ hk => setRow_other w b k _ (fun e => hk (by rw [hbn, e]))) (fun b h => .inl h) (fun b' o' y h4 h5 _ => absurd (.inl rfl) h5) (fun _ _ _ _ _ => .inl rfl)
      (fun k t x v _ => RepV.keep k (fun _ => rfl) hH x v) (fun _ => rfl) (fun k m cs vs _ _ => RepL.keep k (fun _ => rfl) hH cs vs) (fun kp => ?_)⟩
    · simp only [Nat.add_zero] at h2
      simp [execOp, h2, Instr.storeAt, Instr.sureAddr, storeVar, run_size hinf, hsz, hzl, hst]
    · refine ⟨ys.take (i * sz) ++ (a.eval y).cells.toList ++ ys.drop (i * sz + sz), ⟨?_, .inr ⟨b, c, _, ?_, h6, setRow_heap w b _ _ e _ h7, by rw [List.length_set]; exact h8, h9, ?_, ?_⟩⟩, repE_set hzl (RepD.keep kp _ _ hzr) (RepE.keep kp _ _ _ h4) hi⟩
      · have := h4.length
        simp only [List.length_append, List.length_take, List.length_drop, List.length_set, hlen, this]
        omega
      · rw [List.length_set]
        rw [h1]
        congr 1
      · simp only [List.size_toArray, List.length_append, List.length_take, List.length_drop, Array.length_toList, hlen]
        omega
      · rw [← h11, List.length_set, hlen]
        have hl1 : (cur.toList.take (i * sz)).length = i * sz := by simp; omega
        rw [List.append_assoc, List.take_append, hl1, List.take_of_length_le (by omega), List.take_append, hlen, List.take_of_length_le (l := (a.eval y).cells.toList) (by omega), List.append_assoc, List.take_take, Nat.min_eq_left (by omega)]
        congr 2
        rw [List.drop_take]
        congr 1
        omega
theorem s_store_el {t n k i e sz : Nat} {x y : Operand} {v : V} {z : D} {xs zs : List D} [ht : TSize E.P t sz] (hx : Sd.ev ⟨env, H, gl⟩ x = some (.el n k i 0)) (hox : okOp x = true) (hl : look n H = some (.row e sz false xs k)) (hy : Sd.ev ⟨env, H, gl⟩ y = some v) (hoy : okOp y = true) (hz : ToD H v z) (hc : CellsD z zs) (hm : zs.length = sz) (hi : i < xs.length)
    (hg : Sd.gd ⟨env, H, gl⟩ ops ⟨none, .store t x y, ty, pos, af, gd⟩ = some true) (hw : isBar draw way = true)
    (h : TR E draw ops Q rest ⟨env, (n, .row e sz false (xs.set i z) k) :: H, gl⟩) : TR E draw ops Q (.step ⟨none, .store t x y, ty, pos, af, gd⟩ way rest) ⟨env, H, gl⟩ := tr_turn (t_store_el hx hox hl hy hoy hz hc hm hi) rfl hg rfl hw h
end
end Go.Proofs.YtcblefmjacofgaaGreatDoor
namespace Go.Proofs.YtcblefmjacofgaaGreatDoor
open Go.RowKit
section
variable {E : Set} {Q : Exit → Sd → Prop} {ops : Array Oper} {draw : Bool} {rest : Todo} {way : Way3} {ty : TypeId} {pos : String} {af : Array Edge} {gd : Option (Nat × Bool)} {dst : Option Tmp}
variable {env : List (Nat × V)} {H : List (Nat × Ob)} {gl : List (Nat × List D)} {d : Nat}
theorem run_index_arr {P : Program} {t m e sz : Nat} (ht : TArray P t m e sz) {b o i : Nat} {k : IntKind} (hi : i < m) (w : World) : (Instr.indexAt t (.pointer (some ⟨b, o, none⟩)) (.int k (i : Nat))).run P w = .ok (.pointer (some ⟨b, o + i * sz, none⟩)) w := by
  obtain ⟨ie, hu, hie, hs, _⟩ := array_parts ht
  have h1 : (i : Int) < (m : Int) := by omega
  have h2 : ¬ m ≤ i := by omega
  simp [Instr.indexAt, asIntOf, run_underlying hu, h1, h2, run_size hie, hs, add_flat, Instr.sureAddr, hi]
theorem q_index_arr {S : Sd} {t m e sz i n off : Nat} {x y : Operand} {k : IntKind} {p : Int} [ht : TArray E.P t m e sz] (hx : S.ev x = some (.ptr n off)) (hy : S.ev y = some (.d (.int k p))) (hox : okOp x = true) (hoy : okOp y = true) (hi : p = (i : Nat)) (hm : i < m) :
    Swift E S ⟨dst, .indexAddr t x y, ty, pos, af, gd⟩ (.ptr n (off + i * sz)) := Swift.mk fun β a w h => by
  subst hi
  obtain ⟨b, h1, h2⟩ := h.ev hx hox
  have h3 : a.eval y = .int k (i : Nat) := h.ev hy hoy
  refine ⟨.pointer (some ⟨b, off + i * sz, none⟩), fun w' _ => ?_, b, h1, rfl⟩
  simp [execOp, h2, h3, run_index_arr ht hm]
theorem q_index_sl {S : Sd} {t e i n off l c : Nat} {x y : Operand} {k : IntKind} {p : Int} [ht : TSlice E.P t e 1] (hx : S.ev x = some (.sl n off l c)) (hy : S.ev y = some (.d (.int k p))) (hox : okOp x = true) (hoy : okOp y = true) (hi : p = (i : Nat)) (hm : i < l) :
    Swift E S ⟨dst, .indexAddr t x y, ty, pos, af, gd⟩ (.ptr n (off + i)) := Swift.mk fun β a w h => by
  subst hi
  obtain ⟨b, h1, h2⟩ := h.ev hx hox
  have h3 : a.eval y = .int k (i : Nat) := h.ev hy hoy
  refine ⟨.pointer (some ⟨b, off + i, none⟩), fun w' _ => ?_, b, h1, rfl⟩
  have := run_indexAt (P := E.P) ht (b := b) (o := off) (n := l) (c := c) (k := k) hm w'
  rw [Nat.mul_one] at this
  simp [execOp, h2, h3, this]
theorem q_len_sl {S : Sd} {t e sz n off l c : Nat} {x : Operand} [ht : TSlice E.P t e sz] (hx : S.ev x = some (.sl n off l c)) (hox : okOp x = true) : Swift E S ⟨dst, .call { callee := .builtin .len, args := #[x], argTypes := #[t] }, ty, pos, af, gd⟩ (.d (.int .i64 (l : Nat))) := Swift.mk fun β a w h => by
  obtain ⟨ie, hu, _⟩ := slice_parts ht
  obtain ⟨b, h1, h2⟩ := h.ev hx hox
  refine ⟨.int .i64 (l : Nat), fun w' _ => ?_, rfl⟩
  simp [execOp, resolve, invoke, builtin, h2, Builtin.len_, goInt, run_underlying hu]
theorem g_makeBox {S : Sd} {n t e m : Nat} {k : IntKind} {x : Operand} {v : V} [ht : TSlice E.P t e 1] [hz : TZero E.P e [v]] (hx : S.ev x = some (.d (.int k (m : Nat)))) (hox : okOp x = true) (hm : m ≤ 1000000000) (hn : S.fresh n = true) (hs : saysL n (List.replicate m v) = false) :
    Grow E S ⟨some d, .makeSlice t x x, ty, pos, af, gd⟩ { S with H := (n, .box (List.replicate m v)) :: S.H } (.sl n 0 m m) := Grow.mk fun β a w h => by
  obtain ⟨bytes, ⟨i, z', hu, hi, hz', hs', hby, hzs, hpos⟩, hbl⟩ := slice_elem ht
  obtain ⟨i2, z2, hi2, hz2, hzr, hz3⟩ := zero_parts hz
  rw [hi] at hi2
  cases hi2
  rw [hz'] at hz2
  cases hz2
  have h1 : a.eval x = .int k (m : Nat) := h.ev hx hox
  have hb' : ¬ ((i.bytes : Int) * (m : Int) > 281474976710656) := by
    rw [hby]
    have := Nat.mul_le_mul hbl hm
    omega
  have hmw : IntKind.i64.wrap (m : Int) = (m : Int) := by rw [IntKind.wrap_i64]; omega
  have hroom : True := trivial
  obtain ⟨w', h2, h3, h4⟩ := run_make_full (P := E.P) w 0 t e i z' 1 hu hi hz' hs' k k m (by rw [hby]; have := Nat.mul_le_mul hbl hm; omega) (by unfold maxLen; omega) (Nat.zero_le _)
  have g : Grows w w' := (Below.refl _ _).grown h4 (Nat.le_refl _) (fun k hk => by cases hk)
  obtain ⟨u, hzc⟩ : ∃ u, z'.cells.toList = [u] := List.length_eq_one_iff.1 (by simpa using hzs)
  have hcell : ∀ {w : World} {M : Nat → Nat → Prop} {β : Nat → Value} {H : List (Nat × Ob)}, RepV w M β H v u := fun {w M β H} => by
    rw [hzc] at hzr
    have := zeroRep_rep (w := w) (M := M) (β := β) (H := H) hzr
    obtain ⟨u', r, e, h5, _⟩ := this
    cases e
    exact h5
  have hcells : (madeCells z'.cells (m * 1)).toList = List.replicate m u := by
    apply List.ext_getElem?
    intro j
    simp only [madeCells, Array.toList_map, Array.toList_range, List.getElem?_map, Nat.mul_one]
    by_cases hj : j < m
    · rw [List.getElem?_range hj, List.getElem?_replicate, if_pos hj]
      simp only [Option.map_some]
      rw [getElem!_pos z'.cells _ (by rw [hzs]; exact Nat.mod_lt _ (by omega))]
      have : z'.cells[j % z'.cells.size]'(by rw [hzs]; exact Nat.mod_lt _ (by omega)) = u := by
        have h6 : z'.cells.toList[j % z'.cells.size]? = some u := by rw [hzc, hzs, Nat.mod_one]; rfl
        rw [Array.getElem?_toList] at h6
        rw [Array.getElem?_eq_getElem (by rw [hzs]; exact Nat.mod_lt _ (by omega))] at h6
        exact Option.some.inj h6
      rw [this]
    · rw [List.getElem?_eq_none (by simp; omega), List.getElem?_eq_none (by simp; omega)]; rfl
  rw [hcells] at h3
  obtain ⟨cur, q1, q2⟩ : ∃ cur, w'.heap[w.heap.size]? = some (.cells cur e (0, 0)) ∧ cur.toList = List.replicate m u := by
    rcases h3.2 with ⟨q, _⟩ | ⟨g', cap, cur, q, _, q1, _, _, q3, q4⟩
    · cases q
    · simp only [Value.slice.injEq, Option.some.injEq, Addr.mk.injEq, and_true, true_and] at q
      obtain ⟨rfl, rfl⟩ := q
      refine ⟨cur, q1, ?_⟩
      rw [← q4, List.take_of_length_le (by simp; omega)]
  have hv : StB E.C (upd β n (.pointer (some ⟨w.heap.size, 0, none⟩))) { S with H := (n, .box (List.replicate m v)) :: S.H } a w' := by
    refine h.newObj hn (.pointer (some ⟨w.heap.size, 0, none⟩)) g (fun b hb' => ?_) (.box _) fun kp => ⟨w.heap.size, List.replicate m u, e, rfl, ?_, ?_⟩
    · simp only [hb, Option.some.injEq] at hb'
      omega
    · rw [q1, ← q2]
    · have : ∀ j, RepL w' (Mut E.C.M0 (upd β n (.pointer (some ⟨w.heap.size, 0, none⟩))) ((n, .box (List.replicate m v)) :: S.H)) (upd β n (.pointer (some ⟨w.heap.size, 0, none⟩))) ((n, .box (List.replicate m v)) :: S.H) (List.replicate j v) (List.replicate j u) := fun j => by
        induction j with
        | zero => rfl
        | succ j ih => exact ⟨u, _, rfl, hcell, ih⟩
      exact this m
  refine ⟨_, w', _, ?_, g, hv, w.heap.size, upd_same _ _ _, rfl⟩
  simp only [execOp, h1, Sem.run_bind, h2, Result.andThen_ok, Sem.run_pure]
theorem s_makeBox (n m : Nat) {t e : Nat} {k : IntKind} {x : Operand} {v : V} [ht : TSlice E.P t e 1] [hz : TZero E.P e [v]] (hx : Sd.ev ⟨env, H, gl⟩ x = some (.d (.int k (m : Nat)))) (hox : okOp x = true) (hm : m ≤ 1000000000) (hn : Sd.fresh ⟨env, H, gl⟩ n = true) (hs : saysL n (List.replicate m v) = false) (hd : d < E.C.nt)
    (hg : Sd.gd ⟨env, H, gl⟩ ops ⟨some d, .makeSlice t x x, ty, pos, af, gd⟩ = some true) (hw : way.loud = true) (h : TR E draw ops Q rest ⟨(d, .sl n 0 m m) :: env, (n, .box (List.replicate m v)) :: H, gl⟩) :
    TR E draw ops Q (.step ⟨some d, .makeSlice t x x, ty, pos, af, gd⟩ way rest) ⟨env, H, gl⟩ := tr_grow (g_makeBox hx hox hm hn hs) rfl hd hg rfl hw h
theorem StB.row_shape {C : Ctx} {S : Sd} {β : Nat → Value} {a : Act} {w : World} (h : StB C β S a w) {n e sz k : Nat} {sh : Bool} {xs : List D} (hl : look n S.H = some (.row e sz sh xs k)) : ∃ ad c, β n = .slice ad xs.length c ∧ xs.length ≤ c ∧ (ad = none → c = 0) ∧ (∀ p, ad = some p → ∃ b, p = ⟨b, 0, none⟩) := by
  obtain ⟨ys, h1, _⟩ := h.obs n _ hl
  rcases h1.2 with ⟨q1, q2⟩ | ⟨g, cap, cur, q, _, _, q3, _⟩
  · exact ⟨none, 0, by rw [q1, q2], by omega, fun _ => rfl, fun p hp => by cases hp⟩
  · exact ⟨_, cap, q, q3, (fun e => by cases e), fun p hp => by cases hp; exact ⟨_, rfl⟩⟩
theorem tc_suf {c : Code} {t n k e sz : Nat} {sh : Bool} {xs : List D} (hl : look t env = some (.own n k)) (hn : look n H = some (.row e sz sh xs k)) (h : TC E c Q ⟨(t, .suf n k 0) :: env, H, gl⟩) : TC E c Q ⟨env, H, gl⟩ := fun a w ⟨β, hB⟩ => by
  refine h a w ⟨β, { hB with env := fun s v hs => ?_ }⟩
  dsimp only at hs
  rw [look_cons] at hs
  split at hs
  · rename_i e'
    subst e'
    cases hs
    obtain ⟨x, h2, h3⟩ := hB.env t _ hl
    refine ⟨x, h2, fun e1 sz1 sh1 xs1 hl1 => ?_⟩
    obtain ⟨ad, c, h4, h5, h6, h7⟩ := hB.row_shape hl1
    refine ⟨ad, xs1.length, c, ad, h4, Nat.zero_le _, ?_, fun _ => ?_, Iff.rfl⟩
    · rw [h3 e1 sz1 sh1 xs1 hl1, h4]
      rfl
    · cases ad with
      | none => rfl
      | some p =>
        obtain ⟨b, rfl⟩ := h7 p rfl
        simp [add_flat]
  · exact hB.env s v hs
theorem run_slice_lo {P : Program} {t e sz : Nat} (ht : TSlice P t e sz) (a : Option Addr) (n c l : Nat) (k : IntKind) (hl : l ≤ n) (w : World) : (Instr.slice t (.slice a n c) (some (.int k (l : Nat))) none none).run P w = .ok (sliced a l n c sz) w := by
  obtain ⟨ie, hu, hie, hs, hpos⟩ := slice_parts ht
  have hb : (Instr.sliceBounds true n c (some (.int k (l : Nat))) none none).run P w = .ok (l, n, c) w := by
    have : (l : Int) ≤ (n : Int) := by omega
    simp [Instr.sliceBounds, Instr.sliceBound, asIntOf, this, show ¬ n < l by omega]
  simp [run_underlying hu, Instr.slice, hb, run_size hie, hs, sliced]
theorem q_slice_suf {S : Sd} {t e sz n k p l e' : Nat} {sh : Bool} {xs : List D} {x lo : Operand} {li : IntKind} {lv : Int} [ht : TSlice E.P t e sz] (hx : S.ev x = some (.suf n k p)) (hox : okOp x = true) (hl : look n S.H = some (.row e' sz sh xs k)) (hlo : S.ev lo = some (.d (.int li lv))) (hol : okOp lo = true) (el : lv = (l : Nat)) (hlm : p + l ≤ xs.length) :
    Swift E S ⟨dst, .slice t x (some lo) none none, ty, pos, af, gd⟩ (.suf n k (p + l)) := Swift.mk fun β a w h => by
  subst el
  obtain ⟨ad, ll, c, ad1, h1, h2, h3, h4, hnn⟩ := h.ev hx hox e' sz sh xs hl
  obtain ⟨ad', c', h4', h5, h6, h7⟩ := h.row_shape hl
  rw [h1] at h4'
  simp only [Value.slice.injEq] at h4'
  obtain ⟨rfl, rfl, rfl⟩ := h4'
  have hv : a.eval lo = .int li (l : Nat) := h.ev hlo hol
  refine ⟨sliced ad1 l (xs.length - p) (c - p) sz, fun w' _ => ?_, fun e2 sz2 sh2 xs2 hl2 => ?_⟩
  · have := run_slice_lo (P := E.P) ht ad1 (xs.length - p) (c - p) l li (by omega) w'
    obtain ⟨ie, hu, _⟩ := slice_parts ht
    simp [execOp, Instr.sliceAt, h3, hv, this, run_underlying hu]
  · rw [hl] at hl2
    cases hl2
    refine ⟨ad, xs.length, c, if c - p = l then ad1 else ad1.map (·.add (l * sz)), h1, hlm, ?_, fun hne => ?_, by rw [← hnn]; split <;> simp⟩
    · unfold sliced
      rw [Nat.sub_sub, Nat.sub_sub]
    · rw [if_neg (by omega), h4 (by omega)]
      cases ad with
      | none => rfl
      | some q =>
        obtain ⟨b, rfl⟩ := h7 q rfl
        simp [add_flat, Nat.add_mul]
theorem q_len_suf {S : Sd} {t e sz n k p e' sz' m : Nat} {sh : Bool} {xs : List D} {x : Operand} [ht : TSlice E.P t e sz] (hx : S.ev x = some (.suf n k p)) (hox : okOp x = true) (hl : look n S.H = some (.row e' sz' sh xs k)) (hm : xs.length - p = m) : Swift E S ⟨dst, .call { callee := .builtin .len, args := #[x], argTypes := #[t] }, ty, pos, af, gd⟩ (.d (.int .i64 (m : Nat))) := Swift.mk fun β a w h => by
  subst hm
  obtain ⟨ie, hu, _⟩ := slice_parts ht
  obtain ⟨ad, ll, c, ad1, h1, h2, h3, _⟩ := h.ev hx hox e' sz' sh xs hl
  obtain ⟨ad', c', h4, h5, h6, h7⟩ := h.row_shape hl
  rw [h1] at h4
  simp only [Value.slice.injEq] at h4
  obtain ⟨rfl, rfl, rfl⟩ := h4
  refine ⟨.int .i64 ((xs.length - p : Nat) : Int), fun w' _ => ?_, rfl⟩
  simp [execOp, resolve, invoke, builtin, h3, Builtin.len_, goInt, run_underlying hu]
theorem q_index_suf {S : Sd} {t e sz i n k' e' p : Nat} {sh : Bool} {x y : Operand} {xs : List D} {k : IntKind} {m : Int} [ht : TSlice E.P t e sz] (hx : S.ev x = some (.suf n k' p)) (hl : look n S.H = some (.row e' sz sh xs k')) (hy : S.ev y = some (.d (.int k m))) (hox : okOp x = true) (hoy : okOp y = true) (hi : m = (i : Nat)) (hz : p + i < xs.length) :
    Swift E S ⟨dst, .indexAddr t x y, ty, pos, af, gd⟩ (.el n k' (p + i) 0) := Swift.mk fun β a w h => by
  subst hi
  obtain ⟨ad, ll, c, ad1, h1, h2, h3, h4, _⟩ := h.ev hx hox e' sz sh xs hl
  obtain ⟨ys, h2', _⟩ := h.obs n _ hl
  have h5 : a.eval y = .int k (i : Nat) := h.ev hy hoy
  rcases h2'.2 with ⟨q1, q2⟩ | ⟨g, cap, cur, q, _, _, q3, _⟩
  · omega
  · rw [h1] at q
    simp only [Value.slice.injEq] at q
    obtain ⟨rfl, rfl, rfl⟩ := q
    have hne : ¬ c = p := by omega
    have h6 : a.eval x = .slice (some ⟨g, p * sz, none⟩) (xs.length - p) (c - p) := by rw [h3, h4 hne]; simp [add_flat]
    refine ⟨.pointer (some ⟨g, (p + i) * sz, none⟩), fun w' _ => ?_, fun e2 sz2 sh2 xs2 hl2 => ?_⟩
    · have := run_indexAt (P := E.P) ht (b := g) (o := p * sz) (n := xs.length - p) (c := c - p) (k := k) (i := i) (by omega) w'
      rw [Nat.add_mul]
      simp [execOp, h6, h5, this]
    · rw [hl] at hl2
      cases hl2
      exact ⟨g, _, c, h1, rfl⟩
end
end Go.Proofs.YtcblefmjacofgaaGreatDoor
namespace Go.Proofs.YtcblefmjacofgaaGreatDoor
open Go.RowKit
theorem StB.moved {C : Ctx} {β : Nat → Value} {S : Sd} {a : Act} {w w' : World} (h : StB C β S a w) {n e sz k : Nat} {sh : Bool} {xs zs : List D} (hl : look n S.H = some (.row e sz sh xs k)) {v' : Value} {news : List Value}
    (hown : w'.ownsRow 0 e sz v' zs.length news) (hz : RepE w (Mut C.M0 β S.H) sz zs news) (hnew : ∀ b, v'.ownBlock = some b → w.heap.size ≤ b) (hg : w.grownBy w' none) (k' : Nat) (hk : max (topE S.env) (topO S.H) ≤ k') (hN : C.N.contains n = false) :
    StB C (upd β n v') { S with H := (n, .row e sz true zs k') :: S.H } a w' := by
  have hbn := hb_row hown
  have hsl0 : ∃ a n' c, β n = .slice a n' c := by
    obtain ⟨ys, h1, _⟩ := h.obs n _ hl
    obtain ⟨a, c, e, _⟩ := owns_shape h1
    exact ⟨a, _, c, e⟩
  have hH : ∀ m, m ≠ n → look m ((n, Ob.row e sz true zs k') :: S.H) = look m S.H := fun m hm => by rw [look_set, if_neg (Ne.symm hm)]
  have hq : ∀ e' sz' sh' xs' k'', look n ((n, Ob.row e sz true zs k') :: S.H) = some (.row e' sz' sh' xs' k'') → max (topE S.env) (topO S.H) ≤ k'' := fun e' sz' sh' xs' k'' h1 => by
    rw [look_set, if_pos rfl] at h1
    cases h1
    exact hk
  refine h.turn hl (fun m hm => upd_other β n v' hm) hg.os hg.tape hg.output hg.size (fun q hq _ => hg.block q hq (by simp)) (fun b hb' => ?_) (fun b o y hb' hm hc => ?_) (fun b o h1 h2 h3 => ?_)
    (fun kp t x v hx hv => RepV.bump kp (fun m hm => upd_other β n v' hm) hsl0 hH hq x v (by have := topE_look hx; omega) hv)
    (fun hm => absurd hm (by simpa using hN))
    (fun kp m cs vs _ hm hv => RepL.bump kp (fun m hm => upd_other β n v' hm) hsl0 hH hq cs vs (by have := topO_look hm; omega) hv) (fun kp => ?_)
  · rw [upd_same, hbn] at hb'
    exact .inr (hnew b hb')
  · rw [← hc]
    exact World.cell?_of_block (hg.block b (h.old hl hb') (by simp))
  · rw [upd_same, hbn] at h2
    have := hnew b h2
    have := h.old hl h1
    omega
  · rw [upd_same]
    exact ⟨news, hown, RepE.keep kp _ _ _ hz⟩
section
variable {E : Set} {Q : Exit → Sd → Prop} {ops : Array Oper} {draw : Bool} {rest : Todo} {way : Way3} {ty : TypeId} {pos : String} {af : Array Edge} {gd : Option (Nat × Bool)} {dst : Option Tmp}
variable {env : List (Nat × V)} {H : List (Nat × Ob)} {gl : List (Nat × List D)} {d : Nat}
theorem s_append_suf {t e sz n k p : Nat} {s x : Operand} {v : V} {xs ys : List D} [ht : TSlice E.P t e sz] (hs : Sd.ev ⟨env, H, gl⟩ s = some (.suf n k p)) (hos : okOp s = true) (hl : look n H = some (.row e sz true xs k)) (hx : Sd.ev ⟨env, H, gl⟩ x = some v) (hox : okOp x = true) (hy : ToD H v (.list sz ys))
    (hpos : 0 < ys.length) (hlen : xs.length + ys.length ≤ 1000000000000) (hN : E.C.N.contains n = false) (hd : d < E.C.nt) (hg : Sd.gd ⟨env, H, gl⟩ ops ⟨some d, .call { callee := .builtin .append, args := #[s, x], argTypes := #[t, t] }, ty, pos, af, gd⟩ = some true) (hw : isBar draw way = true)
    (h : ∀ xs' p' k', xs'.drop p' = xs.drop p ++ ys → p' ≤ xs'.length → xs'.length ≤ xs.length + ys.length → TR E draw ops Q rest ⟨(d, .suf n k' p') :: env, (n, .row e sz true xs' k') :: H, gl⟩) :
    TR E draw ops Q (.step ⟨some d, .call { callee := .builtin .append, args := #[s, x], argTypes := #[t, t] }, ty, pos, af, gd⟩ way rest) ⟨env, H, gl⟩ := by
  have key : ∀ β a w, StB E.C β ⟨env, H, gl⟩ a w → ∃ r w' β' xs' p' k', (execOp a.eval ⟨some d, .call { callee := .builtin .append, args := #[s, x], argTypes := #[t, t] }, ty, pos, af, gd⟩).run E.P w = .ok (.value r) w' ∧ xs'.drop p' = xs.drop p ++ ys ∧ p' ≤ xs'.length ∧ xs'.length ≤ xs.length + ys.length ∧
      StB E.C β' ⟨env, (n, .row e sz true xs' k') :: H, gl⟩ a w' ∧ RepV w' (Mut E.C.M0 β' ((n, .row e sz true xs' k') :: H)) β' ((n, .row e sz true xs' k') :: H) (.suf n k' p') r := fun β a w hB => by
    obtain ⟨bytes, he, hby⟩ := slice_elem ht
    have he' := he
    obtain ⟨i, z, hu, hi, hz, hsize, hbytes, hzs, hps⟩ := he'
    obtain ⟨ad, ll, c, ad1, h1, h2, h3, h4, hnn⟩ := hB.ev hs hos e sz true xs hl
    obtain ⟨olds, h5, h6⟩ := hB.obs n _ hl
    obtain ⟨xa, xc, news, q1, q2, q4, q3, q5, q6⟩ := hy.rep hB (hB.ev hx hox)
    have hnl : news.length = ys.length * sz := q5.length
    obtain ⟨bx, ox, hxa⟩ : ∃ b o, xa = some ⟨b, o, none⟩ := by
      have : 0 < news.length := by rw [hnl]; exact Nat.mul_pos hpos hps
      obtain ⟨b, o, e1, _, _⟩ := q6 0 news[0] (by simp [this])
      exact ⟨b, o, e1⟩
    subst hxa
    have hrd : ∀ j u, news[j]? = some u → w.cell? ((⟨bx, ox, none⟩ : Addr).add j) = some u := fun j u hj => by
      obtain ⟨b, o, e1, _, e2⟩ := q6 j u hj
      cases e1
      rw [add_flat]
      exact e2
    have hmul : ∀ m, m ≤ 1000000000000 → m * bytes ≤ 140737488355328 := fun m hm => Nat.le_trans (Nat.mul_le_mul hm hby) (by omega)
    rcases h5.2 with ⟨r1, r2⟩ | ⟨g, cap, cur, r1, _, r2, r3, r4, r5, r6⟩
    · -- the row is nil
      have hx0 : xs = [] := List.eq_nil_of_length_eq_zero r2
      subst hx0
      rw [h1] at r1
      simp only [Value.slice.injEq] at r1
      obtain ⟨rfl, rfl, rfl⟩ := r1
      have hp0 : p = 0 := by omega
      subst hp0
      have ho0 : olds = [] := List.eq_nil_of_length_eq_zero (by rw [h5.1]; simp)
      subst ho0
      obtain ⟨v', w', k1, k2, k3⟩ := run_app (P := E.P) (ty := ty) w he h5 (xa := some ⟨bx, ox, none⟩) (m := ys.length) (xc := xc) (news := news) hnl (fun j u hj => by obtain ⟨b, o, e1, _, e2⟩ := q6 j u hj; exact ⟨b, o, e1, e2⟩) q3 q2 q5.one (by simp at hlen ⊢; omega) hby
      have hap := hB.append hl h5 h6 q5 k2 k3 rfl _ (Nat.le_refl _) hN
      have hs0 : a.eval s = β n := by rw [h3, h1, hnn.2 rfl]
      refine ⟨v', w', _, [] ++ ys, 0, _, run_append_op (by rw [hs0, q1]; exact k1), by simp, Nat.zero_le _, by simp, hap, fun e1 sz1 sh1 xs1 hl1 => ?_⟩
      rw [look_set, if_pos rfl] at hl1
      cases hl1
      obtain ⟨a9, c9, e9, _⟩ := owns_shape k2
      have ha9 : ∀ q, a9 = some q → ∃ b, q = ⟨b, 0, none⟩ := fun q hq => by
        rcases k2.2 with ⟨f1, _⟩ | ⟨g9, cap9, cur9, f1, _⟩
        · rw [e9] at f1; simp only [Value.slice.injEq] at f1; rw [f1.1] at hq; cases hq
        · rw [e9] at f1
          simp only [Value.slice.injEq] at f1
          rw [f1.1] at hq
          cases hq
          exact ⟨_, rfl⟩
      refine ⟨a9, _, c9, a9, by rw [upd_same]; exact e9, Nat.zero_le _, by rw [e9]; rfl, fun _ => ?_, Iff.rfl⟩
      cases a9 with
      | none => rfl
      | some q =>
        obtain ⟨b, rfl⟩ := ha9 q rfl
        simp [add_flat]
    · rw [h1] at r1
      simp only [Value.slice.injEq] at r1
      obtain ⟨rfl, rfl, rfl⟩ := r1
      obtain ⟨b1, rfl⟩ : ∃ b1, ad1 = some b1 := by
        cases ad1 with
        | none => have := hnn.1 rfl; cases this
        | some b1 => exact ⟨b1, rfl⟩
      by_cases hroom : xs.length + ys.length ≤ c
      · -- in the row's own block
        have hne : c ≠ p := by omega
        have hb1 : b1 = ⟨g, p * sz, none⟩ := by have := h4 hne; simpa [add_flat] using this
        subst hb1
        obtain ⟨w', k1, k2, k3⟩ := run_append_fits (P := E.P) w 0 t ty e i sz hu hi hsize g xs.length c olds (by rw [← h1]; exact h5) ⟨bx, ox, none⟩ ys.length xc news hnl hrd q5.one hroom
        have hcell : ∀ j, j < news.length → (w.cell? ⟨g, xs.length * sz + j, none⟩).isSome = true := fun j hj => by
          have : xs.length * sz + j < cur.size := by
            rw [r5]
            rw [hnl] at hj
            have : (xs.length + ys.length) * sz ≤ c * sz := Nat.mul_le_mul_right _ hroom
            rw [Nat.add_mul] at this
            omega
          simp [World.cell?, r2, this]
        have hfz : ∀ j, j < news.length → w.frozen? ⟨g, xs.length * sz + j, none⟩ = false := fun j hj => by simp [World.frozen?, r2]
        have k4 := run_append_room_cells (P := E.P) w t ty e i hu hi g 0 xs.length c ⟨bx, ox, none⟩ ys.length xc news (by rw [hsize]; exact hnl) hrd q5.one hroom (by rw [hsize]; intro j hj; rw [Nat.zero_add]; exact hcell j hj) (by rw [hsize]; intro j hj; rw [Nat.zero_add]; exact hfz j hj)
        have e0 : p * sz + (xs.length - p) * sz = xs.length * sz := by rw [← Nat.add_mul]; congr 1; omega
        have k5 := run_append_room_cells (P := E.P) w t ty e i hu hi g (p * sz) (xs.length - p) (c - p) ⟨bx, ox, none⟩ ys.length xc news (by rw [hsize]; exact hnl) hrd q5.one (by omega) (by rw [hsize, e0]; exact hcell) (by rw [hsize, e0]; exact hfz)
        rw [k1] at k4
        simp only [Result.ok.injEq, hsize, Nat.zero_add] at k4
        rw [hsize, e0, ← k4.2] at k5
        have hap := hB.append hl h5 h6 q5 k2 (.inl ⟨by rw [h1]; rfl, by rw [h1]; exact k3⟩) rfl _ (Nat.le_refl _) hN
        refine ⟨_, w', _, xs ++ ys, p, _, run_append_op (by rw [h3, q1]; exact k5), by rw [List.drop_append_of_le_length h2], by simp; omega, by simp, hap, fun e1 sz1 sh1 xs1 hl1 => ?_⟩
        rw [look_set, if_pos rfl] at hl1
        cases hl1
        refine ⟨some ⟨g, 0, none⟩, _, c, some ⟨g, p * sz, none⟩, by rw [upd_same], by omega, ?_, fun _ => by simp [add_flat], by simp⟩
        congr 1
        omega
      · -- in a new one
        have hod : (olds.drop (p * sz)).length = (xs.length - p) * sz := by rw [List.length_drop, h5.1, Nat.sub_mul]
        have hold : ∀ j u, (olds.drop (p * sz))[j]? = some u → w.cell? (b1.add j) = some u := fun j u hj => by
          have hjl : j < (olds.drop (p * sz)).length := (List.getElem?_eq_some_iff.1 hj).1
          have hne : c ≠ p := by
            rintro rfl
            have : xs.length - c = 0 := by omega
            rw [hod, this] at hjl
            omega
          have hb1 : b1 = ⟨g, p * sz, none⟩ := by have := h4 hne; simpa [add_flat] using this
          subst hb1
          rw [List.getElem?_drop] at hj
          have := h5.cells (g := g) (by rw [h1]; rfl) _ u hj
          rw [add_flat, Nat.zero_add] at this
          rw [add_flat]
          exact this
        obtain ⟨v', w', k1, k2, k3⟩ := run_append_arg_grows (P := E.P) w t ty e i z sz bytes hu hi hz hsize hbytes hzs hps b1 (xs.length - p) (c - p) (olds.drop (p * sz)) hod hold ⟨bx, ox, none⟩ ys.length xc news hnl hrd (by omega) (by unfold maxLen; omega) (hmul _ (by omega))
        have hz' : RepE w (Mut E.C.M0 β H) sz (xs.drop p ++ ys) (olds.drop (p * sz) ++ news) := (RepE.drop p h6 h2).append q5
        have hlen' : (xs.drop p ++ ys).length = xs.length - p + ys.length := by simp
        have hmv := hB.moved hl (owns_mono (by rw [hlen']; exact k2) (Nat.zero_le _)) hz' (fun b hb' => (k2.lt b hb').1) k3 _ (Nat.le_refl _) hN
        refine ⟨v', w', _, xs.drop p ++ ys, 0, _, run_append_op (by rw [h3, q1]; exact k1), by simp, Nat.zero_le _, by simp, hmv, fun e1 sz1 sh1 xs1 hl1 => ?_⟩
        rw [look_set, if_pos rfl] at hl1
        cases hl1
        obtain ⟨a9, c9, e9, _⟩ := owns_shape k2
        have ha9 : ∀ q, a9 = some q → ∃ b, q = ⟨b, 0, none⟩ := fun q hq => by
          rcases k2.2 with ⟨f1, _⟩ | ⟨g9, cap9, cur9, f1, _⟩
          · rw [e9] at f1; simp only [Value.slice.injEq] at f1; rw [f1.1] at hq; cases hq
          · rw [e9] at f1
            simp only [Value.slice.injEq] at f1
            rw [f1.1] at hq
            cases hq
            exact ⟨_, rfl⟩
        refine ⟨a9, _, c9, a9, by rw [upd_same]; exact e9, Nat.zero_le _, by rw [e9]; rfl, fun _ => ?_, Iff.rfl⟩
        cases a9 with
        | none => rfl
        | some q =>
          obtain ⟨b, rfl⟩ := ha9 q rfl
          simp [add_flat]
  intro a w hS
  have hS0 := hS
  have key2 : ∀ w1, Grows w w1 → ∀ K : Act → World → Prop, (∀ xs' p' k' a2 w2, xs'.drop p' = xs.drop p ++ ys → p' ≤ xs'.length → xs'.length ≤ xs.length + ys.length → St E.C ⟨(d, .suf n k' p') :: env, (n, .row e sz true xs' k') :: H, gl⟩ a2 w2 → K a2 w2) → Oper.wp E.P ⟨some d, .call { callee := .builtin .append, args := #[s, x], argTypes := #[t, t] }, ty, pos, af, gd⟩ a w1 K (Qof E.C Q) := fun w1 g K hK => by
    obtain ⟨β, hB⟩ := hS.later g
    obtain ⟨r, w', β', xs', p', k', h1, h2, h3, h4, h5, h6⟩ := key β a w1 hB
    exact wp_value h1 (hK xs' p' k' _ _ h2 h3 h4 ⟨β', h5.put hd h6⟩)
  cases draw with
  | true =>
    dsimp only
    cases way with
    | pure => cases hw
    | quiet => cases hw
    | grow => cases hw
    | bar =>
      simp only [wpMix3]
      intro n
      rw [Sd.gd_sound hS0 hg, if_pos rfl]
      exact key2 n.w n.grows _ fun xs' p' k' a2 w2 q1 q2 q3 hs2 => h xs' p' k' q1 q2 q3 _ _ hs2
  | false => exact listIn_of_wp hS0 hg rfl fun K hK => key2 w (Grows.refl w) K fun xs' p' k' a2 w2 q1 q2 q3 hs2 => hK _ _ (h xs' p' k' q1 q2 q3 _ _ hs2)
end
end Go.Proofs.YtcblefmjacofgaaGreatDoor
namespace Go.Proofs.YtcblefmjacofgaaGreatDoor
open Go.RowKit
section
variable {E : Set} {Q : Exit → Sd → Prop} {ops : Array Oper} {draw : Bool} {rest : Todo} {way : Way3} {ty : TypeId} {pos : String} {af : Array Edge} {gd : Option (Nat × Bool)} {dst : Option Tmp}
variable {env : List (Nat × V)} {H : List (Nat × Ob)} {gl : List (Nat × List D)} {d : Nat}
theorem tc_share {c : Code} (n : Nat) {e sz k : Nat} {sh : Bool} {xs : List D} (hn : look n H = some (.row e sz sh xs k)) (h : TC E c Q ⟨env, (n, .row e sz true xs k) :: H, gl⟩) : TC E c Q ⟨env, H, gl⟩ := fun a w ⟨β, hB⟩ => h a w ⟨β, hB.share hn⟩
inductive Frz (H : List (Nat × Ob)) : List V → List D → List Nat → Prop
  | nil : Frz H [] [] []
  | cons {v : V} {x : D} {vs : List V} {xs : List D} {ms : List Nat} (h : ToD H v x) (t : Frz H vs xs ms) : Frz H (v :: vs) (x :: xs) ms
  | map {m : Nat} {ks us : List D} {vs : List V} {xs : List D} {ms : List Nat} (h : look m H = some (.map ks us)) (t : Frz H vs xs ms) : Frz H (.map m :: vs) (.map ks us :: xs) (m :: ms)
theorem tc_freeze {c : Code} {t n off : Nat} {cs : List V} {ds : List D} {ms : List Nat} {env' : List (Nat × V)} {H' : List (Nat × Ob)} (hl : look t env = some (.ptr n off)) (hb' : look n H = some (.box cs)) (hf : Frz H cs ds ms) (hsc : ds.all D.scalar = true) (h1 : Sub env env') (h2 : Sub H H')
    (hn : ((n :: ms).all fun m => (look m H').isNone) = true) (hN : (E.C.N.all fun n => (look n H').isSome) = true) (h : TC E c Q ⟨(t, .d (.ref ds off)) :: env', H', gl⟩) : TC E c Q ⟨env, H, gl⟩ := fun a w ⟨β, hB⟩ => by
  have hB' := hB.weak (S' := ⟨env', H', gl⟩) (fun t v h => h1.look h) (fun n ob h => h2.look h) (fun _ _ h => h) (fun n hn => List.all_eq_true.1 hN n hn)
  have hne : ∀ m, m ∈ n :: ms → look m H' = none := fun m hm => by simpa using List.all_eq_true.1 hn m hm
  have hk : Keeps w (Mut E.C.M0 β H) w (Mut E.C.M0 β H') := Keeps.weak fun b o hm => by
    rcases hm with hm | ⟨m, ob, q1, q2, q3⟩
    · exact .inl hm
    · exact .inr ⟨m, ob, h2.look q1, q2, q3⟩
  have hfree : ∀ m ob b o, m ∈ n :: ms → look m H = some ob → hb (β m) = some b → ¬ Mut E.C.M0 β H' b o := fun m ob b o hm hlm hbm hmut => by
    rcases hmut with q | ⟨m2, ob2, q1, q2, q3⟩
    · exact hB.out m ob b o hlm hbm q
    · have : m ≠ m2 := by rintro rfl; rw [hne m hm] at q1; cases q1
      exact hB.apart m m2 b ob ob2 this hlm (h2.look q1) hbm q2
  refine h a w ⟨β, { hB' with env := fun s v hs => ?_ }⟩
  dsimp only at hs
  rw [look_cons] at hs
  split at hs
  · rename_i e
    subst e
    cases hs
    obtain ⟨x, q1, b, q2, rfl⟩ := hB.env t _ hl
    obtain ⟨b2, vs, ty, q3, q4, q5⟩ := hB.obs n _ hb'
    rw [q2] at q3
    cases q3
    refine ⟨_, q1, b, 0, vs, by rw [Nat.zero_add], ?_, fun j y hj => ⟨b, 0, rfl, ?_, ?_⟩⟩
    · have : ∀ (cs : List V) (ds : List D) (ms' : List Nat), Frz H cs ds ms' → ds.all D.scalar = true → (∀ m ∈ ms', m ∈ ms) → ∀ vs, RepL w (Mut E.C.M0 β H) β H cs vs → RepA w (Mut E.C.M0 β H') ds vs := fun cs ds ms' hf => by
        induction hf with
        | nil => intro _ _ vs h; exact h
        | cons hd _ ih =>
          intro hs hm vs hv
          obtain ⟨u, r, rfl, r1, r2⟩ := hv
          simp only [List.all_cons, Bool.and_eq_true] at hs
          have r3 := hd.rep hB r1
          exact ⟨u, r, rfl, r3.oneOf hs.1, RepD.keep hk _ _ r3, ih hs.2 hm r r2⟩
        | @map m ks us vs' xs ms2 hlm _ ih =>
          intro hs hm vs hv
          obtain ⟨u, r, rfl, ⟨rr, r1, r1'⟩, r2⟩ := hv
          simp only [List.all_cons, Bool.and_eq_true] at hs
          obtain ⟨r0, es, clock, r3, r4, r5, r6, _⟩ := hB.obs m _ hlm
          rw [r1] at r3
          cases r3
          subst r1'
          exact ⟨_, r, rfl, rfl, ⟨rr, es, clock, rfl, r4, fun o => hfree m _ rr o (List.mem_cons_of_mem _ (hm m List.mem_cons_self)) hlm (by rw [r1]; rfl), RepB.keep hk _ _ r5, RepB.keep hk _ _ r6⟩, ih hs.2 (fun m' h' => hm m' (List.mem_cons_of_mem _ h')) r r2⟩
      exact this cs ds ms hf hsc (fun m h => h) vs q5
    · exact hfree n _ b _ List.mem_cons_self hb' (by rw [q2]; rfl)
    · rw [Nat.zero_add]
      exact box_cell q4 hj
  · exact hB'.env s v hs
theorem mod_last {α : Type} (f : α → α) (x : α) : ∀ l : List α, (l ++ [x]).modify l.length f = l ++ [f x]
  | [] => rfl
  | y :: l => by simp [mod_last f x l]
theorem RepB.split {w : World} {M : Nat → Nat → Prop} : ∀ {xs ys : List D} {us : List Value}, RepB w M (xs ++ ys) us → ∃ u1 u2, us = u1 ++ u2 ∧ RepB w M xs u1 ∧ RepB w M ys u2
  | [], _, us, h => ⟨[], us, rfl, rfl, h⟩
  | x :: xs, ys, _, h => by
    obtain ⟨v, r, rfl, h1, h2⟩ := h
    obtain ⟨u1, u2, rfl, h3, h4⟩ := RepB.split h2
    exact ⟨v :: u1, u2, rfl, ⟨v, u1, rfl, h1, h3⟩, h4⟩
inductive BuildV (P : Program) (S : Sd) (t : Nat) : List V → List (Nat × Operand) → List V → Prop
  | nil (zs : List V) : BuildV P S t zs [] zs
  | cons {zs zs' ds cs : List V} {f off ft m : Nat} {x : Operand} {v : V} {ps : List (Nat × Operand)} [hf : TField P t f off ft] [hs : TSize P ft m] (hx : S.ev x = some v) (ho : okOp x = true) (hw : ownOk S v = true) (hc : CellsV v cs) (hm : cs.length = m) (hr : Repl zs off cs zs') (h : BuildV P S t zs' ps ds) :
    BuildV P S t zs ((f, x) :: ps) ds
theorem RepL.cut {w : World} {M : Nat → Nat → Prop} {β : Nat → Value} {H : List (Nat × Ob)} : ∀ (k : Nat) {l : List V} {m : List Value}, RepL w M β H l m → RepL w M β H (l.take k) (m.take k) ∧ RepL w M β H (l.drop k) (m.drop k)
  | 0, _, _, h => ⟨by simp [RepL], h⟩
  | k + 1, [], _, h => by simp only [RepL] at h; subst h; exact ⟨by simp [RepL], by simp [RepL]⟩
  | k + 1, y :: l, _, h => by
    obtain ⟨v, r, rfl, h5, h6⟩ := h
    obtain ⟨q1, q2⟩ := RepL.cut k h6
    exact ⟨⟨v, _, rfl, h5, q1⟩, q2⟩
theorem BuildV.rep {P : Program} {C : Ctx} {β : Nat → Value} {S : Sd} {a : Act} {w : World} (h : StB C β S a w) {t : Nat} {fs : Array Field} (hu : P.underlying t = some (.struct fs)) {places : Array (Nat × Nat)} (hp : ∀ (f : Nat) (fd : Field) i, fs[f]? = some fd → P.info? fd.type = some i → places[f]? = some (fd.offset, i.size))
    {zs ds : List V} {ps : List (Nat × Operand)} (hb : BuildV P S t zs ps ds) : ∀ {us : List Value}, RepL w (Mut C.M0 β S.H) β S.H zs us → (∀ u ∈ us, u.oneCell' = true) →
    ∃ vs : List Value, Instr.fill (places[·]?) us.toArray (ps.map fun x => (x.1, a.eval x.2)) = some vs.toArray ∧ RepL w (Mut C.M0 β S.H) β S.H ds vs ∧ ∀ u ∈ vs, u.oneCell' = true := by
  induction hb with
  | nil zs => intro us hr h1; exact ⟨us, rfl, hr, h1⟩
  | @cons zs zs' ds cs f off ft m x v ps hf hs hx ho hw hc hm hr hb ih =>
    intro us hrep hone
    obtain ⟨fs', fd, i, hu', h1, h2, h3, h4, _⟩ := field_parts hf
    rw [hu] at hu'
    cases hu'
    have hi : i.size = m := by have := hs.ok; rw [h4] at this; simpa using this
    have hpl := hp f fd i h1 (by rw [h3]; exact h4)
    obtain ⟨hcs, hco⟩ := hc.rep h (h.ev hx ho) (ownOk_spec hw)
    have hlen := hcs.length
    obtain ⟨h5, h6⟩ := hr.eq
    have hul := hrep.length
    have hsz : (a.eval x).cells.size = m := by simp at hlen; omega
    have hnew : RepL w (Mut C.M0 β S.H) β S.H zs' (us.take off ++ (a.eval x).cells.toList ++ us.drop (off + (a.eval x).cells.toList.length)) := by
      rw [h5, ← hlen]
      exact RepL.app (RepL.app (RepL.cut off hrep).1 hcs) (RepL.cut _ hrep).2
    obtain ⟨vs, h7, h8⟩ := ih hnew (fun u hu => by
      rcases List.mem_append.1 hu with hu | hu
      · rcases List.mem_append.1 hu with hu | hu
        · exact hone u (List.mem_of_mem_take hu)
        · exact hco u hu
      · exact hone u (List.mem_of_mem_drop hu))
    refine ⟨vs, ?_, h8⟩
    simp only [List.map_cons, Instr.fill, hpl]
    rw [if_neg (by
      simp only [ne_eq, Bool.or_eq_true, decide_eq_true_eq, not_or, Decidable.not_not, List.size_toArray]
      simp at hlen
      omega)]
    have hfo := foldl_repl fd.offset (a.eval x).cells.toList us.toArray (by simp at hlen ⊢; omega)
    rw [Array.toArray_toList] at hfo
    simp only [List.toList_toArray] at hfo
    rw [hfo, h2]
    exact h7
theorem zeroRep_one : ∀ {us : List Value} {vs : List V}, zeroRep us vs = true → ∀ u ∈ us, u.oneCell' = true
  | [], _, _, u, hu => by cases hu
  | x :: us, [], h, _, _ => by cases h
  | x :: us, v :: vs, h, u, hu => by
    simp only [zeroRep, Bool.and_eq_true] at h
    rcases List.mem_cons.1 hu with rfl | hu
    · have := h.1
      unfold zeroCell at this
      split at this <;> first | rfl | cases this
    · exact zeroRep_one h.2 u hu
theorem q_buildV {S : Sd} {t : Nat} {ps : List (Nat × Operand)} {vs ds : List V} [ht : TStruct E.P t] [hz : TZero E.P t vs] (hb : BuildV E.P S t vs ps ds) : Swift E S ⟨dst, .build t ps.toArray, ty, pos, af, gd⟩ (.agg ds) := Swift.mk fun β a w h => by
  obtain ⟨fs, hu, hfs⟩ := struct_parts ht
  obtain ⟨i, z, hi, hiz, h1, _⟩ := zero_parts hz
  obtain ⟨pl, h2, h3⟩ := run_places (P := E.P) fs.toList hfs
  obtain ⟨us, h4, h5, h6⟩ := hb.rep h hu (places := pl.toArray) (fun f fd i hf hi => by simpa using h3 f fd i (by simpa using hf) hi) (zeroRep_rep h1) (zeroRep_one h1)
  refine ⟨.agg us.toArray, fun w' _ => ?_, us, rfl, h6, h5⟩
  have hpl : (fs.mapM fun f => do pure (f.offset, ← sizeOf f.type) : Sem (Array (Nat × Nat))).run E.P w' = .ok pl.toArray w' := by
    rw [Array.mapM_eq_mapM_toList]
    simp only [Sem.run_map]
    refine (congrArg (fun r : Result (List (Nat × Nat)) => r.andThen fun a w' => Result.ok a.toArray w') (h2 w')).trans ?_
    rfl
  rw [Array.toArray_toList] at h4
  simp only [execOp, Sem.run_bind, Instr.build, zeroValue, typeInfo, hi, hiz, run_underlying hu, Sem.run_pure, Result.andThen_ok, program, Sem.run]
  simp only [hpl, Result.andThen_ok]
  have e : (ps.toArray.map fun x => (x.1, a.eval x.2)).toList = ps.map fun x => (x.1, a.eval x.2) := by simp
  rw [e, h4]
  rfl
def unk : V := .own 999999999 0
theorem unk_rep {w : World} {M : Nat → Nat → Prop} {β : Nat → Value} {H : List (Nat × Ob)} (h : look 999999999 H = none) (v : Value) : RepV w M β H unk v := fun e sz sh xs hl => by rw [h] at hl; cases hl
theorem wanted_none {o : Oper} (h : o.guard = none) (y : Nat → Option Bool) : Region.wanted o y = true := by simp [Region.wanted, h]
theorem run_entryStore {P : Program} {w : World} {r c1 i : Nat} {es : Array MapEntry} (t : TypeId) (hw : w.heap[r]? = some (.map es c1)) (s : Int) (val : Value) (hfi : es.findIdx? (fun e => (e.born : Int) == s) = some i) :
    (Instr.entryStore t (.map (some r)) (.int .i64 s) val).run P w = .ok () (w.putObj r (.map (es.modify i fun e => { e with val := val }) c1)) := by
  simp [Instr.entryStore, run_getMap hw, asInt, asIntOf, hfi, run_setMap _ hw]
theorem s_entry_miss {t k e n : Nat} {kk : KeyK} {x y x3 z : Operand} {key u z0 : D} {v : V} {ks vs : List D} {d1 d2 : Nat} {ty1 ty2 ty3 : TypeId} {p1 p2 p3 : String} {af1 af2 af3 : Array Edge} [ht : TMap E.P t k e] [hkk : TKey E.P k kk] [hz0 : TZeroD E.P e z0]
    (hx : Sd.ev ⟨env, H, gl⟩ x = some (.map n)) (hox : okOp x = true) (hl : look n H = some (.map ks vs)) (hy : Sd.ev ⟨env, H, gl⟩ y = some (.d key)) (hoy : okOp y = true) (hx3 : Sd.ev ((⟨env, H, gl⟩ : Sd).put d1 unk |>.put d2 unk) x3 = some (.map n)) (hox3 : okOp x3 = true)
    (hz : Sd.ev ((⟨env, H, gl⟩ : Sd).put d1 unk |>.put d2 unk) z = some v) (hoz : okOp z = true) (hu : ToD H v u) (hc : Comp kk key key) (hd1 : d1 < E.C.nt) (hd2 : d2 < E.C.nt) (hb1 : Nat.blt d1 100000 = true) (hb2 : Nat.blt d2 100000 = true) (hunk : look 999999999 H = none)
    (hk : ∀ y ∈ ks, Comp kk key y) (hn : key ∉ ks)
    (h : TR E true ops Q rest ⟨(d2, unk) :: (d1, unk) :: env, (n, .map (ks ++ [key]) (vs ++ [u])) :: H, gl⟩) :
    TR E true ops Q (.step ⟨some d1, .mapEntry t x y, ty1, p1, af1, none⟩ .bar (.step ⟨some d2, .extract (.tmp d1) 1, ty2, p2, af2, none⟩ .pure (.step ⟨none, .entryStore t x3 (.tmp d2) z, ty3, p3, af3, none⟩ .bar rest))) ⟨env, H, gl⟩ := fun a w hS => by
  show wpMix3 E.P ops (Qof E.C Q) _ a w
  simp only [wpMix3]
  intro n1
  rw [if_pos (wanted_none rfl _)]
  obtain ⟨β, hB⟩ := hS.later n1.grows
  obtain ⟨r, h1, h2⟩ := hB.ev hx hox
  obtain ⟨r', es, c, h3, h4, h5, h6, hbn⟩ := hB.obs n _ hl
  rw [h1] at h3
  cases h3
  have hkr := hB.ev hy hoy
  have hkey : a.eval y = keyV key := hc.rep.1 _ hkr
  obtain ⟨q, h7, h8⟩ := findKey_run (P := E.P) (t := k) (x := key) n1.w es.toList (keys_comp h5 hk)
  have := found_miss h5 hk hn h8
  subst this
  obtain ⟨i0, z1, hi0, hz1, hzr⟩ := zeroD_one hz0
  let o1 : Obj := .map (es.push { key := keyV key, val := z1, born := c }) (c + 1)
  have hr1 : (execOp a.eval ⟨some d1, .mapEntry t x y, ty1, p1, af1, none⟩).run E.P n1.w = .ok (.value (.tuple #[z1, goInt c])) (n1.w.putObj r o1) := by
    simp only [execOp, h2, hkey, Instr.mapEntry, Sem.run_bind, run_underlying (map_parts ht), Result.andThen_ok, run_getMap h4, hc.check, h7, run_setMap _ h4, Sem.run_pure, run_zeroValue' hi0 hz1]
    rfl
  refine wp_value hr1 ?_
  have hlt := (Array.getElem?_eq_some_iff.1 h4).1
  have hB1 : StB E.C β ⟨env, (n, .map (ks ++ [key]) (vs ++ [z0])) :: H, gl⟩ a (n1.w.putObj r o1) := hB.setMap hl rfl (fun _ => trivial) (fun _ _ _ _ _ h => by cases h) h1 h4 (.inr fun kp => ⟨r, _, c + 1, h1, World.putObj_heap_same hlt, by
      rw [Array.toList_push, List.map_append]
      exact (RepB.keep kp _ _ h5).append ⟨_, [], rfl, RepD.keep kp _ _ (hkey ▸ hkr), rfl⟩, by
      rw [Array.toList_push, List.map_append]
      exact (RepB.keep kp _ _ h6).append ⟨_, [], rfl, hzr, rfl⟩, fun en' hen' => by
      rw [Array.toList_push] at hen'
      rcases List.mem_append.1 hen' with hen' | hen'
      · have := hbn _ hen'; omega
      · rw [List.mem_singleton] at hen'; subst hen'; exact Nat.lt_succ_self c⟩)
  have hunk1 : look 999999999 ((n, Ob.map (ks ++ [key]) (vs ++ [z0])) :: H) = none := by
    rw [look_cons]
    split
    · rename_i e; subst e; rw [hl] at hunk; cases hunk
    · exact hunk
  have hB2 := hB1.put hd1 (x := .tuple #[z1, goInt c]) (unk_rep hunk1 _)
  dsimp only
  rw [if_pos (wanted_none rfl _)]
  have hev1 : (a.put (some d1) (.tuple #[z1, goInt c])).eval (.tmp d1) = .tuple #[z1, goInt c] := by
    have := put_get a d1 (.tuple #[z1, goInt c]) (by rw [hB.size]; exact hd1) d1
    simp [Act.eval, Array.getD_eq_getD_getElem?, this]
  refine ⟨goInt c, fun w' => by simp [execOp, Instr.extract, hev1], ?_⟩
  intro n3
  rw [if_pos (wanted_none rfl _)]
  have hB3 := (hB2.put hd2 (x := goInt c) (unk_rep hunk1 _)).later n3.grows
  have h9 : n3.w.heap[r]? = some o1 := (n3.grows.block r (by rw [World.putObj_size]; exact hlt)).trans (World.putObj_heap_same hlt)
  have hev2 : ((a.put (some d1) (.tuple #[z1, goInt c])).put (some d2) (goInt c)).eval (.tmp d2) = goInt c := by
    have := put_get (a.put (some d1) (.tuple #[z1, goInt c])) d2 (goInt c) (by rw [hB2.size]; exact hd2) d2
    simp [Act.eval, Array.getD_eq_getD_getElem?, this]
  obtain ⟨r3, g1, g2⟩ := hB3.ev (x := x3) (v := .map n) hx3 hox3
  rw [h1] at g1
  cases g1
  have hzv := hB3.ev (x := z) hz hoz
  have hu3 : ToD ((n, Ob.map (ks ++ [key]) (vs ++ [z0])) :: H) v u := by
    cases hu with
    | d => exact .d _
    | @own m q e' sz' xs' hlm =>
      refine .own (e := e') ?_
      rw [look_cons]
      split
      · rename_i e9; subst e9; rw [hl] at hlm; cases hlm
      · exact hlm
    | nils => exact .nils _
  have hval := hu3.rep hB3 hzv
  have hfi : (es.push { key := keyV key, val := z1, born := c }).findIdx? (fun e => (e.born : Int) == (c : Int)) = some es.size := by
    have hnone : es.findIdx? (fun e => (e.born : Int) == (c : Int)) = none := by
      rw [Array.findIdx?_eq_none_iff]
      intro e he
      have := hbn e (by simpa using he)
      simp
      omega
    rw [Array.findIdx?_push, hnone]
    simp
  let o3 : Obj := .map ((es.push { key := keyV key, val := z1, born := c }).modify es.size fun e => { e with val := ((a.put (some d1) (.tuple #[z1, goInt c])).put (some d2) (goInt c)).eval z }) (c + 1)
  have hr3 : (execOp ((a.put (some d1) (.tuple #[z1, goInt c])).put (some d2) (goInt c)).eval ⟨none, .entryStore t x3 (.tmp d2) z, ty3, p3, af3, none⟩).run E.P n3.w = .ok .skip (n3.w.putObj r o3) := by
    have := run_entryStore (P := E.P) t h9 (c : Int) (((a.put (some d1) (.tuple #[z1, goInt c])).put (some d2) (goInt c)).eval z) hfi
    simp only [execOp, g2, hev2, Sem.run_bind]
    rw [show goInt (c : Int) = .int .i64 (c : Int) from rfl] at this ⊢
    rw [this]
    rfl
  refine wp_skip' hr3 ?_
  have hpush : ((es.push { key := keyV key, val := z1, born := c }).modify es.size fun e => { e with val := ((a.put (some d1) (.tuple #[z1, goInt c])).put (some d2) (goInt c)).eval z }).toList = es.toList ++ [{ key := keyV key, val := ((a.put (some d1) (.tuple #[z1, goInt c])).put (some d2) (goInt c)).eval z, born := c }] := by
    rw [Array.toList_modify, Array.toList_push]
    have : es.size = es.toList.length := by simp
    rw [this, mod_last]
  have hB4 : StB E.C β ⟨(d2, unk) :: (d1, unk) :: env, (n, .map (ks ++ [key]) (vs ++ [u])) :: (n, .map (ks ++ [key]) (vs ++ [z0])) :: H, gl⟩ ((a.put (some d1) (.tuple #[z1, goInt c])).put (some d2) (goInt c)) (n3.w.putObj r o3) := by
    obtain ⟨r4, es4, c4, f1, f2, f3, f4, _⟩ := hB3.obs n (.map (ks ++ [key]) (vs ++ [z0])) (by show look n ((n, _) :: H) = _; rw [look_cons, if_pos rfl])
    rw [h1] at f1
    cases f1
    rw [h9] at f2
    simp only [o1, Option.some.injEq, Obj.map.injEq] at f2
    obtain ⟨rfl, rfl⟩ := f2
    rw [Array.toList_push, List.map_append] at f3 f4
    refine hB3.setMap (by show look n ((n, _) :: H) = _; rw [look_cons, if_pos rfl]) rfl (ob := .map (ks ++ [key]) (vs ++ [z0])) (fun _ => trivial) (fun _ _ _ _ _ h => by cases h) h1 h9 (.inr fun kp => ⟨r, _, c + 1, h1, World.putObj_heap_same (Array.getElem?_eq_some_iff.1 h9).1, ?_, ?_, ?_⟩)
    · rw [hpush, List.map_append]
      exact RepB.keep kp _ _ f3
    · rw [hpush, List.map_append]
      obtain ⟨u1, u2, e1, e2, e3⟩ := RepB.split (RepB.keep kp _ _ f4)
      have l3 := e3.length
      have : u1 = es.toList.map (·.val) := by
        refine (List.append_inj' e1.symm ?_).1
        simp [l3]
      rw [this] at e2
      exact e2.append ⟨_, [], rfl, RepD.keep kp _ _ hval, rfl⟩
    · intro en' hen'
      rw [hpush] at hen'
      rcases List.mem_append.1 hen' with hen' | hen'
      · have := hbn _ hen'; omega
      · rw [List.mem_singleton] at hen'; subst hen'; exact Nat.lt_succ_self c
  refine h _ _ ⟨β, hB4.weak (fun t v h => h) (fun m ob hm => ?_) (fun _ _ h => h) (fun m hm => ?_)⟩
  · dsimp only at hm ⊢
    rw [look_cons] at hm ⊢
    split
    · rename_i e9; rw [if_pos e9] at hm; exact hm
    · rename_i e9; rw [if_neg e9] at hm; rw [look_cons, if_neg e9]; exact hm
  · have := hB.has m hm
    dsimp only at this ⊢
    rw [look_cons]
    split
    · rfl
    · exact this
end
end Go.Proofs.YtcblefmjacofgaaGreatDoor
namespace Go.Proofs.YtcblefmjacofgaaGreatDoor
open Go.RowKit
theorem nat_lit_eq {n : Nat} : (OfNat.ofNat n : Int) = ((OfNat.ofNat n : Nat) : Int) := rfl
section
variable {E : Set} {Q : Exit → Sd → Prop} {S : Sd} {ops : Array Oper} {draw : Bool} {rest : Todo} {way : Way3} {ty : TypeId} {pos : String} {af : Array Edge} {gd : Option (Nat × Bool)} {dst : Option Tmp} {o : Oper} {v : V}
variable {env : List (Nat × V)} {H : List (Nat × Ob)} {gl : List (Nat × List D)} {d : Nat} {k : IntKind} {p q r : Int} {xt yt : TypeId} {x y : Operand}
theorem z_p (hq : Swift E ⟨env, H, gl⟩ o v) (h : TR E draw ops Q rest ⟨(d, v) :: env, H, gl⟩) (hdst : o.dst = some d := by exact rfl) (hd : d < E.C.nt := by exact ltd rfl) (hg : Sd.gd ⟨env, H, gl⟩ ops o = some true := by exact rfl) (hdf : isDefer o = false := by exact rfl) : TR E draw ops Q (.step o way rest) ⟨env, H, gl⟩ := s_p hq hdst hd hg hdf h
theorem z_q (hq : Quiet E ⟨env, H, gl⟩ o v) (h : TR E draw ops Q rest ⟨(d, v) :: env, H, gl⟩) (hdst : o.dst = some d := by exact rfl) (hd : d < E.C.nt := by exact ltd rfl) (hg : Sd.gd ⟨env, H, gl⟩ ops o = some true := by exact rfl) (hdf : isDefer o = false := by exact rfl) (hw : way.known = false := by exact rfl) : TR E draw ops Q (.step o way rest) ⟨env, H, gl⟩ := s_q hq hdst hd hg hdf hw h
theorem w_c_bool {b : Bool}  : Swift E S ⟨dst, .assign (.const (.bool b)), ty, pos, af, gd⟩ (.d (.bool b)) := q_c_bool
theorem w_c_int {k : IntKind} {n : Int}  : Swift E S ⟨dst, .assign (.const (.int k n)), ty, pos, af, gd⟩ (.d (.int k n)) := q_c_int
theorem w_c_str {s : ByteArray}  : Swift E S ⟨dst, .assign (.const (.string s)), ty, pos, af, gd⟩ (.d (.str s)) := q_c_str
theorem w_m_bool {b : Bool}  : Swift E S ⟨dst, .move (.const (.bool b)), ty, pos, af, gd⟩ (.d (.bool b)) := q_m_bool
theorem w_m_int {k : IntKind} {n : Int}  : Swift E S ⟨dst, .move (.const (.int k n)), ty, pos, af, gd⟩ (.d (.int k n)) := q_m_int
theorem w_m_str {s : ByteArray}  : Swift E S ⟨dst, .move (.const (.string s)), ty, pos, af, gd⟩ (.d (.str s)) := q_m_str
theorem w_nil {e sz : Nat} [TSlice E.P ty e sz]  : Swift E S ⟨dst, .assign (.const (.slice none 0 0)), ty, pos, af, gd⟩ (.nils sz) := q_nil
theorem w_assign {x : Operand} {v : V} (hx : S.ev x = some v := by exact rfl) (ho : okOp x = true := by exact rfl) : Swift E S ⟨dst, .assign x, ty, pos, af, gd⟩ v := q_assign hx ho
theorem w_move {x : Operand} {v : V} (hx : S.ev x = some v := by exact rfl) (ho : okOp x = true := by exact rfl) : Swift E S ⟨dst, .move x, ty, pos, af, gd⟩ v := q_move hx ho
theorem w_p_t {c y : Operand} {b : Bool} (hc : S.ev c = some (.d (.bool true)) := by exact rfl) (hk : okOp c = true := by exact rfl) : Swift E S ⟨dst, .pick c (.const (.bool b)) y, ty, pos, af, gd⟩ (.d (.bool b)) := q_p_t hc hk
theorem w_p_f {c x : Operand} {b : Bool} (hc : S.ev c = some (.d (.bool false)) := by exact rfl) (hk : okOp c = true := by exact rfl) : Swift E S ⟨dst, .pick c x (.const (.bool b)), ty, pos, af, gd⟩ (.d (.bool b)) := q_p_f hc hk
theorem w_pick_t {c x y : Operand} {v : V} (hc : S.ev c = some (.d (.bool true)) := by exact rfl) (hk : okOp c = true := by exact rfl) (hx : S.ev x = some v := by exact rfl) (ho : okOp x = true := by exact rfl) : Swift E S ⟨dst, .pick c x y, ty, pos, af, gd⟩ v := q_pick_t hc hk hx ho
theorem w_pick_f {c x y : Operand} {v : V} (hc : S.ev c = some (.d (.bool false)) := by exact rfl) (hk : okOp c = true := by exact rfl) (hx : S.ev y = some v := by exact rfl) (ho : okOp y = true := by exact rfl) : Swift E S ⟨dst, .pick c x y, ty, pos, af, gd⟩ v := q_pick_f hc hk hx ho
theorem w_build {t : Nat} {ps : List (Nat × Operand)} {vs : List V} {zs ds : List D} [ht : TStruct E.P t] [hz : TZero E.P t vs] (hzd : ZeroD vs zs := by (repeat (first | exact ZeroD.nil | apply ZeroD.d | apply ZeroD.nils)); fail_if_success intros) (hb : Build E.P S t zs ps ds := by (repeat (first | exact Build.nil _ | apply Build.cons rfl rfl (by first | exact ToD.d _ | exact ToD.nils _ | exact ToD.own rfl) (by first | exact CellsD.agg _ | constructor) (by rfl) (by (repeat (first | exact Repl.done _ | apply Repl.here | apply Repl.there)); fail_if_success intros))); fail_if_success intros) : Swift E S ⟨dst, .build t ps.toArray, ty, pos, af, gd⟩ (.d (.agg ds)) := q_build hzd hb
theorem w_buildn {t : Nat} {ps : List (Nat × Operand)} {vs : List V} {zs ds : List D} [ht : TStruct E.P t] [hz : TZero E.P t vs] (hzd : ZeroD vs zs := by (repeat (first | exact ZeroD.nil | apply ZeroD.d | apply ZeroD.none)); fail_if_success intros) (hb : Build E.P S t zs ps ds := by (repeat (first | exact Build.nil _ | apply Build.cons rfl rfl (by first | exact ToD.d _ | exact ToD.nils _ | exact ToD.own rfl) (by first | exact CellsD.agg _ | constructor) (by rfl) (by (repeat (first | exact Repl.done _ | apply Repl.here | apply Repl.there)); fail_if_success intros))); fail_if_success intros) : Swift E S ⟨dst, .build t ps.toArray, ty, pos, af, gd⟩ (.d (.agg ds)) := q_build hzd hb
theorem w_buildV {t : Nat} {ps : List (Nat × Operand)} {vs ds : List V} [ht : TStruct E.P t] [hz : TZero E.P t vs] (hb : BuildV E.P S t vs ps ds := by (repeat (first | exact BuildV.nil _ | apply BuildV.cons rfl rfl (by first | exact rfl | exact ownOk_row rfl) (by first | (refine CellsV.d (by first | exact CellsD.agg _ | constructor) (by (repeat (first | exact MapD.nil | apply MapD.nils | apply MapD.cons)); fail_if_success intros)) | constructor) (by rfl) (by (repeat (first | exact Repl.done _ | apply Repl.here | apply Repl.there)); fail_if_success intros))); fail_if_success intros) : Swift E S ⟨dst, .build t ps.toArray, ty, pos, af, gd⟩ (.agg ds) := q_buildV hb
theorem w_load_boxs {t n off m : Nat} {x : Operand} {cs vs' : List V} {ds : List D} [ht : TAgg E.P t m] (hx : S.ev x = some (.ptr n off) := by exact rfl) (hl : look n S.H = some (.box cs) := by exact rfl) (hc : Cut cs off m vs' := by (repeat (first | exact Cut.done _ | apply Cut.take | apply Cut.skip)); fail_if_success intros) (hd : ToDs S.H vs' ds := by (repeat (first | exact ToDs.nil | apply ToDs.cons (ToD.d _) | apply ToDs.cons (ToD.nils _) | apply ToDs.cons (ToD.own rfl))); fail_if_success intros) (hn : ds.all D.scalar = true := by exact rfl) : Quiet E S ⟨dst, .load t x, ty, pos, af, gd⟩ (.d (.agg ds)) := q_load_boxs hx hl hc hd hn
theorem w_load_refs {t off m : Nat} {x : Operand} {cs ds : List D} [ht : TAgg E.P t m] (hx : S.ev x = some (.d (.ref cs off)) := by exact rfl) (hc : Cut cs off m ds := by (repeat (first | exact Cut.done _ | apply Cut.take | apply Cut.skip)); fail_if_success intros) : Quiet E S ⟨dst, .load t x, ty, pos, af, gd⟩ (.d (.agg ds)) := q_load_refs hx hc
theorem w_load_els {t n k i off m e sz : Nat} {sh : Bool} {x : Operand} {xs cs ds : List D} {z : D} [ht : TAgg E.P t m] (hx : S.ev x = some (.el n k i off) := by exact rfl) (hox : okOp x = true := by exact rfl) (hl : look n S.H = some (.row e sz sh xs k) := by exact rfl) (hz : xs[i]? = some z := by first | assumption | exact get_map (by first | omega | (simp only [List.length_cons, List.length_nil, List.length_append, List.length_map, List.length_take, List.length_drop]; omega)) | exact get_list (by first | omega | (simp only [List.length_cons, List.length_nil, List.length_append, List.length_map, List.length_take, List.length_drop]; omega)) | rfl) (hc : CellsD z cs := by first | exact CellsD.agg _ | constructor) (hv : Cut cs off m ds := by (repeat (first | exact Cut.done _ | apply Cut.take | apply Cut.skip)); fail_if_success intros) : Quiet E S ⟨dst, .load t x, ty, pos, af, gd⟩ (.d (.agg ds)) := q_load_els hx hox hl hz hc hv
theorem w_load_box {t : Nat} {x : Operand} {n off : Nat} {cs : List V} {v : V} [ht : TCell E.P t] (hx : S.ev x = some (.ptr n off) := by exact rfl) (hl : look n S.H = some (.box cs) := by exact rfl) (hc : cs[off]? = some v := by exact rfl) : Quiet E S ⟨dst, .load t x, ty, pos, af, gd⟩ v := q_load_box hx hl hc
theorem w_load_ref {t : Nat} {x : Operand} {off : Nat} {cs : List D} {v : D} [ht : TCell E.P t] (hx : S.ev x = some (.d (.ref cs off)) := by exact rfl) (hc : cs[off]? = some v := by exact rfl) : Quiet E S ⟨dst, .load t x, ty, pos, af, gd⟩ (.d v) := q_load_ref hx hc
theorem w_load_el {t n k i off e sz : Nat} {sh : Bool} {x : Operand} {xs cs : List D} {z v : D} [ht : TCell E.P t] (hx : S.ev x = some (.el n k i off) := by exact rfl) (hox : okOp x = true := by exact rfl) (hl : look n S.H = some (.row e sz sh xs k) := by exact rfl) (hz : xs[i]? = some z := by first | assumption | exact get_map (by first | omega | (simp only [List.length_cons, List.length_nil, List.length_append, List.length_map, List.length_take, List.length_drop]; omega)) | exact get_list (by first | omega | (simp only [List.length_cons, List.length_nil, List.length_append, List.length_map, List.length_take, List.length_drop]; omega)) | rfl) (hc : CellsD z cs := by first | exact CellsD.agg _ | constructor) (hv : cs[off]? = some v := by exact rfl) : Quiet E S ⟨dst, .load t x, ty, pos, af, gd⟩ (.d v) := q_load_el hx hox hl hz hc hv
theorem w_load_boxz {t : Nat} {x : Operand} {n off : Nat} {cs : List V} {v : V} [ht : TCell E.P t] (hx : S.ev x = some (.ptr n off) := by exact rfl) (hl : look n S.H = some (.box cs) := by exact rfl) (hc : cs[off]? = some v := by first | assumption | exact get_map (by first | omega | (simp only [List.length_cons, List.length_nil, List.length_append, List.length_map, List.length_take, List.length_drop]; omega)) | exact get_list (by first | omega | (simp only [List.length_cons, List.length_nil, List.length_append, List.length_map, List.length_take, List.length_drop]; omega)) | rfl) : Quiet E S ⟨dst, .load t x, ty, pos, af, gd⟩ v := q_load_box hx hl hc
theorem w_field_box {s f off' ft n off : Nat} {x : Operand} [ht : TField E.P s f off' ft] (hx : S.ev x = some (.ptr n off) := by exact rfl) : Swift E S ⟨dst, .fieldAddr s x f, ty, pos, af, gd⟩ (.ptr n (off + off')) := q_field_box hx
theorem w_field_ref {s f off' ft off : Nat} {cs : List D} {x : Operand} [ht : TField E.P s f off' ft] (hx : S.ev x = some (.d (.ref cs off)) := by exact rfl) : Swift E S ⟨dst, .fieldAddr s x f, ty, pos, af, gd⟩ (.d (.ref cs (off + off'))) := q_field_ref hx
theorem w_field_el {s f off' ft n k i off : Nat} {x : Operand} [ht : TField E.P s f off' ft] {e sz : Nat} {sh : Bool} {xs : List D} (hx : S.ev x = some (.el n k i off) := by exact rfl) (hox : okOp x = true := by exact rfl) (hl : look n S.H = some (.row e sz sh xs k) := by exact rfl) : Swift E S ⟨dst, .fieldAddr s x f, ty, pos, af, gd⟩ (.el n k i (off + off')) := q_field_el hx hox hl
theorem w_nil_box {n off : Nat} {x : Operand} (hx : S.ev x = some (.ptr n off) := by exact rfl) : Swift E S ⟨dst, .nilCheck x, ty, pos, af, gd⟩ (.ptr n off) := q_nil_box hx
theorem w_nil_ref {off : Nat} {cs : List D} {x : Operand} (hx : S.ev x = some (.d (.ref cs off)) := by exact rfl) : Swift E S ⟨dst, .nilCheck x, ty, pos, af, gd⟩ (.d (.ref cs off)) := q_nil_ref hx
theorem w_bool_eql {xt yt : TypeId} {x y : Operand} {s t : Bool} [ht : TCell E.P xt] (hu : E.P.underlying xt = some .bool := by kernel_rfl) (hx : S.ev x = some (.d (.bool s)) := by exact rfl) (hy : S.ev y = some (.d (.bool t)) := by exact rfl) (hox : okOp x = true := by exact rfl) (hoy : okOp y = true := by exact rfl) : Swift E S ⟨dst, .binOp .eql xt x y yt, ty, pos, af, gd⟩ (.d (.bool (s == t))) := q_bool_eql hu hx hy hox hoy
theorem w_cmp_t {op : BinOp} (hop : isCmp op = true := by exact rfl) (hx : S.ev x = some (.d (.int k p)) := by exact rfl) (hy : S.ev y = some (.d (.int k q)) := by exact rfl) (hox : okOp x = true := by exact rfl) (hoy : okOp y = true := by exact rfl) (h : cmp op p q := by first | (simp only [cmp] <;> omega) | (simp only [cmp]; exact not_not_intro trivial)) : Swift E S ⟨dst, .binOp op xt x y yt, ty, pos, af, gd⟩ (.d (.bool true)) := q_cmp_t hop hx hy hox hoy h
theorem w_cmp_f {op : BinOp} (hop : isCmp op = true := by exact rfl) (hx : S.ev x = some (.d (.int k p)) := by exact rfl) (hy : S.ev y = some (.d (.int k q)) := by exact rfl) (hox : okOp x = true := by exact rfl) (hoy : okOp y = true := by exact rfl) (h : ¬ cmp op p q := by first | (simp only [cmp] <;> omega) | (simp only [cmp]; exact not_not_intro trivial)) : Swift E S ⟨dst, .binOp op xt x y yt, ty, pos, af, gd⟩ (.d (.bool false)) := q_cmp_f hop hx hy hox hoy h
theorem w_str_add {xt yt : TypeId} {x y : Operand} {s t : ByteArray} (hx : S.ev x = some (.d (.str s)) := by exact rfl) (hy : S.ev y = some (.d (.str t)) := by exact rfl) (hox : okOp x = true := by exact rfl) (hoy : okOp y = true := by exact rfl) (hl : s.size + t.size ≤ 9223372036854775807 := by omega) : Swift E S ⟨dst, .binOp .add xt x y yt, ty, pos, af, gd⟩ (.d (.str (s ++ t))) := q_str_add hx hy hox hoy hl
theorem w_add  (hx : S.ev x = some (.d (.int k p)) := by exact rfl) (hy : S.ev y = some (.d (.int k q)) := by exact rfl) (hox : okOp x = true := by exact rfl) (hoy : okOp y = true := by exact rfl) (hin : inK k (p + q) := by simp only [inK]; omega) : Swift E S ⟨dst, .binOp .add xt x y yt, ty, pos, af, gd⟩ (.d (.int k (p + q))) := q_add hx hy hox hoy hin
theorem w_sub  (hx : S.ev x = some (.d (.int k p)) := by exact rfl) (hy : S.ev y = some (.d (.int k q)) := by exact rfl) (hox : okOp x = true := by exact rfl) (hoy : okOp y = true := by exact rfl) (hin : inK k (p - q) := by simp only [inK]; omega) : Swift E S ⟨dst, .binOp .sub xt x y yt, ty, pos, af, gd⟩ (.d (.int k (p - q))) := q_sub hx hy hox hoy hin
theorem w_mul  (hx : S.ev x = some (.d (.int k p)) := by exact rfl) (hy : S.ev y = some (.d (.int k q)) := by exact rfl) (hox : okOp x = true := by exact rfl) (hoy : okOp y = true := by exact rfl) (hin : inK k (p * q) := by simp only [inK]; omega) : Swift E S ⟨dst, .binOp .mul xt x y yt, ty, pos, af, gd⟩ (.d (.int k (p * q))) := q_mul hx hy hox hoy hin
theorem w_add_w  (hx : S.ev x = some (.d (.int k p)) := by exact rfl) (hy : S.ev y = some (.d (.int k q)) := by exact rfl) (hox : okOp x = true := by exact rfl) (hoy : okOp y = true := by exact rfl) : Swift E S ⟨dst, .binOp .add xt x y yt, ty, pos, af, gd⟩ (.d (.int k (k.wrap (p + q)))) := q_add_w hx hy hox hoy
theorem w_sub_w  (hx : S.ev x = some (.d (.int k p)) := by exact rfl) (hy : S.ev y = some (.d (.int k q)) := by exact rfl) (hox : okOp x = true := by exact rfl) (hoy : okOp y = true := by exact rfl) : Swift E S ⟨dst, .binOp .sub xt x y yt, ty, pos, af, gd⟩ (.d (.int k (k.wrap (p - q)))) := q_sub_w hx hy hox hoy
theorem w_mul_w  (hx : S.ev x = some (.d (.int k p)) := by exact rfl) (hy : S.ev y = some (.d (.int k q)) := by exact rfl) (hox : okOp x = true := by exact rfl) (hoy : okOp y = true := by exact rfl) : Swift E S ⟨dst, .binOp .mul xt x y yt, ty, pos, af, gd⟩ (.d (.int k (k.wrap (p * q)))) := q_mul_w hx hy hox hoy
theorem w_quo  (hx : S.ev x = some (.d (.int k p)) := by exact rfl) (hy : S.ev y = some (.d (.int k q)) := by exact rfl) (hox : okOp x = true := by exact rfl) (hoy : okOp y = true := by exact rfl) (h0 : 0 ≤ p := by omega) (h1 : 1 ≤ q := by omega) (hin : inK k (p / q) := by simp only [inK]; omega) : Swift E S ⟨dst, .binOp .quo xt x y yt, ty, pos, af, gd⟩ (.d (.int k (p / q))) := q_quo hx hy hox hoy h0 h1 hin
theorem w_quo_w  (hx : S.ev x = some (.d (.int k p)) := by exact rfl) (hy : S.ev y = some (.d (.int k q)) := by exact rfl) (hox : okOp x = true := by exact rfl) (hoy : okOp y = true := by exact rfl) (h1 : ¬ q = 0 := by omega) : Swift E S ⟨dst, .binOp .quo xt x y yt, ty, pos, af, gd⟩ (.d (.int k (k.wrap (p.tdiv q)))) := q_quo_w hx hy hox hoy h1
theorem w_rem  (hx : S.ev x = some (.d (.int k p)) := by exact rfl) (hy : S.ev y = some (.d (.int k q)) := by exact rfl) (hox : okOp x = true := by exact rfl) (hoy : okOp y = true := by exact rfl) (h0 : 0 ≤ p := by omega) (h1 : 1 ≤ q := by omega) : Swift E S ⟨dst, .binOp .rem xt x y yt, ty, pos, af, gd⟩ (.d (.int k (p % q))) := q_rem hx hy hox hoy h0 h1
theorem w_rem_w  (hx : S.ev x = some (.d (.int k p)) := by exact rfl) (hy : S.ev y = some (.d (.int k q)) := by exact rfl) (hox : okOp x = true := by exact rfl) (hoy : okOp y = true := by exact rfl) (h1 : ¬ q = 0 := by omega) : Swift E S ⟨dst, .binOp .rem xt x y yt, ty, pos, af, gd⟩ (.d (.int k (p.tmod q))) := q_rem_w hx hy hox hoy h1
theorem w_bits {op : BinOp} {xt yt : TypeId} {x y : Operand} {k : IntKind} {p q r : Int} (hx : S.ev x = some (.d (.int k p)) := by exact rfl) (hy : S.ev y = some (.d (.int k q)) := by exact rfl) (hox : okOp x = true := by exact rfl) (hoy : okOp y = true := by exact rfl) (hr : bitsI op k p q = some r := by exact rfl) : Swift E S ⟨dst, .binOp op xt x y yt, ty, pos, af, gd⟩ (.d (.int k r)) := q_bits hx hy hox hoy hr
theorem w_shl {xt yt : TypeId} {x y : Operand} {k k' : IntKind} {p q : Int} (hx : S.ev x = some (.d (.int k p)) := by exact rfl) (hy : S.ev y = some (.d (.int k' q)) := by exact rfl) (hox : okOp x = true := by exact rfl) (hoy : okOp y = true := by exact rfl) (h0 : 0 ≤ q := by omega) : Swift E S ⟨dst, .binOp .shl xt x y yt, ty, pos, af, gd⟩ (.d (.int k (k.wrap (p * 2 ^ min q.toNat k.bits)))) := q_shl hx hy hox hoy h0
theorem w_shr {xt yt : TypeId} {x y : Operand} {k k' : IntKind} {p q : Int} (hx : S.ev x = some (.d (.int k p)) := by exact rfl) (hy : S.ev y = some (.d (.int k' q)) := by exact rfl) (hox : okOp x = true := by exact rfl) (hoy : okOp y = true := by exact rfl) (h0 : 0 ≤ q := by omega) : Swift E S ⟨dst, .binOp .shr xt x y yt, ty, pos, af, gd⟩ (.d (.int k (p.fdiv (2 ^ min q.toNat k.bits)))) := q_shr hx hy hox hoy h0
theorem w_not_t {xt : TypeId} {x : Operand} (hx : S.ev x = some (.d (.bool true)) := by exact rfl) (hox : okOp x = true := by exact rfl) : Swift E S ⟨dst, .unOp .not xt x, ty, pos, af, gd⟩ (.d (.bool false)) := q_not_t hx hox
theorem w_not_f {xt : TypeId} {x : Operand} (hx : S.ev x = some (.d (.bool false)) := by exact rfl) (hox : okOp x = true := by exact rfl) : Swift E S ⟨dst, .unOp .not xt x, ty, pos, af, gd⟩ (.d (.bool true)) := q_not_f hx hox
theorem w_not {xt : TypeId} {x : Operand} {b : Bool} (hx : S.ev x = some (.d (.bool b)) := by exact rfl) (hox : okOp x = true := by exact rfl) : Swift E S ⟨dst, .unOp .not xt x, ty, pos, af, gd⟩ (.d (.bool !b)) := q_not hx hox
theorem w_neg {xt : TypeId} {x : Operand} {k : IntKind} {n : Int} (hx : S.ev x = some (.d (.int k n)) := by exact rfl) (hox : okOp x = true := by exact rfl) : Swift E S ⟨dst, .unOp .neg xt x, ty, pos, af, gd⟩ (.d (.int k (k.wrap (0 - n)))) := q_neg hx hox
theorem w_conv {st dt : TypeId} {x : Operand} {k k' : IntKind} {n : Int} [hs : TInt E.P st k] [hd : TInt E.P dt k'] (hx : S.ev x = some (.d (.int k n)) := by exact rfl) (hox : okOp x = true := by exact rfl) (hin : inK k' n := by simp only [inK]; omega) : Swift E S ⟨dst, .convert st dt x, ty, pos, af, gd⟩ (.d (.int k' n)) := q_conv hx hox hin
theorem w_conv_w {st dt : TypeId} {x : Operand} {k k' : IntKind} {n : Int} [hs : TInt E.P st k] [hd : TInt E.P dt k'] (hx : S.ev x = some (.d (.int k n)) := by exact rfl) (hox : okOp x = true := by exact rfl) : Swift E S ⟨dst, .convert st dt x, ty, pos, af, gd⟩ (.d (.int k' (k'.wrap n))) := q_conv_w hx hox
theorem w_conv_bytes {st dt e : TypeId} {x : Operand} {l : List UInt8} {xs : List D} [hs : TSlice E.P st e 1] [hb : TInt E.P e .u8] [hd : TStr E.P dt] (hx : S.ev x = some (.d (.list 1 xs)) := by exact rfl) (hox : okOp x = true := by exact rfl) (hl : xs = l.map dByte := by first | rfl | exact slice_lo .. | exact slice_all ..) : Quiet E S ⟨dst, .convert st dt x, ty, pos, af, gd⟩ (.d (.str ⟨l.toArray⟩)) := q_conv_bytes hx hox hl
theorem w_extract {x : Operand} {vs : List V} {i : Nat} {v : V} (hx : S.ev x = some (.tup vs) := by exact rfl) (hox : okOp x = true := by exact rfl) (hv : vs[i]? = some v := by exact rfl) : Swift E S ⟨dst, .extract x i, ty, pos, af, gd⟩ v := q_extract hx hox hv
theorem w_field {s f off ft : Nat} {x : Operand} {cs : List D} {v : D} [ht : TField E.P s f off ft] [hc : TCell E.P ft] (hx : S.ev x = some (.d (.agg cs)) := by exact rfl) (hox : okOp x = true := by exact rfl) (hv : cs[off]? = some v := by exact rfl) : Swift E S ⟨dst, .field s x f, ty, pos, af, gd⟩ (.d v) := q_field hx hox hv
theorem w_fields {s f off ft m : Nat} {x : Operand} {cs ds : List D} [ht : TField E.P s f off ft] [hc : TAgg E.P ft m] (hx : S.ev x = some (.d (.agg cs)) := by exact rfl) (hox : okOp x = true := by exact rfl) (hv : Cut cs off m ds := by (repeat (first | exact Cut.done _ | apply Cut.take | apply Cut.skip)); fail_if_success intros) : Swift E S ⟨dst, .field s x f, ty, pos, af, gd⟩ (.d (.agg ds)) := q_fields hx hox hv
theorem w_makeFunc {fn : Fn} {f c : List Operand} {fs cs : List V} (hf : Evs S f fs := by (repeat (first | exact Evs.nil | apply Evs.cons rfl rfl)); fail_if_success intros) (hc : Evs S c cs := by (repeat (first | exact Evs.nil | apply Evs.cons rfl rfl)); fail_if_success intros) : Swift E S ⟨dst, .makeFunc fn f.toArray c.toArray, ty, pos, af, gd⟩ (.clo fn fs cs) := q_makeFunc hf hc
theorem w_index_arr {t m e sz i n off : Nat} {x y : Operand} {k : IntKind} {p : Int} [ht : TArray E.P t m e sz] (hx : S.ev x = some (.ptr n off) := by exact rfl) (hy : S.ev y = some (.d (.int k p)) := by exact rfl) (hox : okOp x = true := by exact rfl) (hoy : okOp y = true := by exact rfl) (hi : p = (i : Nat) := by first | with_reducible exact nat_lit_eq | exact rfl | exact (Int.toNat_of_nonneg (by omega)).symm) (hm : i < m := by first | omega | (simp only [List.length_cons, List.length_nil, List.length_append, List.length_map, List.length_take, List.length_drop]; omega)) : Swift E S ⟨dst, .indexAddr t x y, ty, pos, af, gd⟩ (.ptr n (off + i * sz)) := q_index_arr hx hy hox hoy hi hm
theorem w_index {t e sz i : Nat} {x y : Operand} {xs cs : List D} {z : D} {k : IntKind} {n : Int} [ht : TSlice E.P t e sz] (hx : S.ev x = some (.d (.list sz xs)) := by exact rfl) (hy : S.ev y = some (.d (.int k n)) := by exact rfl) (hox : okOp x = true := by exact rfl) (hoy : okOp y = true := by exact rfl) (hi : n = (i : Nat) := by first | with_reducible exact nat_lit_eq | exact rfl | exact (Int.toNat_of_nonneg (by omega)).symm) (hz : xs[i]? = some z := by first | assumption | exact get_map (by first | omega | (simp only [List.length_cons, List.length_nil, List.length_append, List.length_map, List.length_take, List.length_drop]; omega)) | exact get_list (by first | omega | (simp only [List.length_cons, List.length_nil, List.length_append, List.length_map, List.length_take, List.length_drop]; omega)) | rfl) (hc : CellsD z cs := by first | exact CellsD.agg _ | constructor) : Swift E S ⟨dst, .indexAddr t x y, ty, pos, af, gd⟩ (.d (.ref cs 0)) := q_index hx hy hox hoy hi hz hc
theorem w_index_own {t e sz i n k' e' : Nat} {sh : Bool} {x y : Operand} {xs : List D} {k : IntKind} {m : Int} [ht : TSlice E.P t e sz] (hx : S.ev x = some (.own n k') := by exact rfl) (hl : look n S.H = some (.row e' sz sh xs k') := by exact rfl) (hy : S.ev y = some (.d (.int k m)) := by exact rfl) (hox : okOp x = true := by exact rfl) (hoy : okOp y = true := by exact rfl) (hi : m = (i : Nat) := by first | with_reducible exact nat_lit_eq | exact rfl | exact (Int.toNat_of_nonneg (by omega)).symm) (hz : i < xs.length := by first | omega | (simp only [List.length_cons, List.length_nil, List.length_append, List.length_map, List.length_take, List.length_drop]; omega)) : Swift E S ⟨dst, .indexAddr t x y, ty, pos, af, gd⟩ (.el n k' i 0) := q_index_own hx hl hy hox hoy hi hz
theorem w_index_suf {t e sz i n k' e' p : Nat} {sh : Bool} {x y : Operand} {xs : List D} {k : IntKind} {m : Int} [ht : TSlice E.P t e sz] (hx : S.ev x = some (.suf n k' p) := by exact rfl) (hl : look n S.H = some (.row e' sz sh xs k') := by exact rfl) (hy : S.ev y = some (.d (.int k m)) := by exact rfl) (hox : okOp x = true := by exact rfl) (hoy : okOp y = true := by exact rfl) (hi : m = (i : Nat) := by first | with_reducible exact nat_lit_eq | exact rfl | exact (Int.toNat_of_nonneg (by omega)).symm) (hz : p + i < xs.length := by first | omega | (simp only [List.length_cons, List.length_nil, List.length_append, List.length_map, List.length_take, List.length_drop]; omega)) : Swift E S ⟨dst, .indexAddr t x y, ty, pos, af, gd⟩ (.el n k' (p + i) 0) := q_index_suf hx hl hy hox hoy hi hz
theorem w_index_sl {t e i n off l c : Nat} {x y : Operand} {k : IntKind} {p : Int} [ht : TSlice E.P t e 1] (hx : S.ev x = some (.sl n off l c) := by exact rfl) (hy : S.ev y = some (.d (.int k p)) := by exact rfl) (hox : okOp x = true := by exact rfl) (hoy : okOp y = true := by exact rfl) (hi : p = (i : Nat) := by first | with_reducible exact nat_lit_eq | exact rfl | exact (Int.toNat_of_nonneg (by omega)).symm) (hm : i < l := by first | omega | (simp only [List.length_cons, List.length_nil, List.length_append, List.length_map, List.length_take, List.length_drop]; omega)) : Swift E S ⟨dst, .indexAddr t x y, ty, pos, af, gd⟩ (.ptr n (off + i)) := q_index_sl hx hy hox hoy hi hm
theorem w_index_str {t i : Nat} {x y : Operand} {s : ByteArray} {k : IntKind} {n : Int} {c : UInt8} [ht : TStr E.P t] (hx : S.ev x = some (.d (.str s)) := by exact rfl) (hy : S.ev y = some (.d (.int k n)) := by exact rfl) (hox : okOp x = true := by exact rfl) (hoy : okOp y = true := by exact rfl) (hi : n = (i : Nat) := by first | with_reducible exact nat_lit_eq | exact rfl | exact (Int.toNat_of_nonneg (by omega)).symm) (hc : s.data.toList[i]? = some c := by first | assumption | exact get_map (by first | omega | (simp only [List.length_cons, List.length_nil, List.length_append, List.length_map, List.length_take, List.length_drop]; omega)) | exact get_list (by first | omega | (simp only [List.length_cons, List.length_nil, List.length_append, List.length_map, List.length_take, List.length_drop]; omega)) | rfl) : Swift E S ⟨dst, .index t x y, ty, pos, af, gd⟩ (.d (.int .u8 c.toNat)) := q_index_str hx hy hox hoy hi hc
theorem w_slice {t e sz l m : Nat} {x : Operand} {lo hi : Option Operand} {xs : List D} {li hi' : Int} [ht : TSlice E.P t e sz] (hx : S.ev x = some (.d (.list sz xs)) := by exact rfl) (hox : okOp x = true := by exact rfl) (hl : bnd S lo 0 = some li := by exact rfl) (hh : bnd S hi (xs.length : Nat) = some hi' := by exact rfl) (el : li = (l : Nat) := by first | with_reducible exact nat_lit_eq | exact rfl | exact (Int.toNat_of_nonneg (by omega)).symm) (eh : hi' = (m : Nat) := by first | with_reducible exact nat_lit_eq | exact rfl | exact (Int.toNat_of_nonneg (by omega)).symm) (hlm : l ≤ m := by first | omega | (simp only [List.length_cons, List.length_nil, List.length_append, List.length_map, List.length_take, List.length_drop]; omega)) (hm : m ≤ xs.length := by first | omega | (simp only [List.length_cons, List.length_nil, List.length_append, List.length_map, List.length_take, List.length_drop]; omega)) : Swift E S ⟨dst, .slice t x lo hi none, ty, pos, af, gd⟩ (.d (.list sz ((xs.drop l).take (m - l)))) := q_slice hx hox hl hh el eh hlm hm
theorem w_slice_suf {t e sz n k p l e' : Nat} {sh : Bool} {xs : List D} {x lo : Operand} {li : IntKind} {lv : Int} [ht : TSlice E.P t e sz] (hx : S.ev x = some (.suf n k p) := by exact rfl) (hox : okOp x = true := by exact rfl) (hl : look n S.H = some (.row e' sz sh xs k) := by exact rfl) (hlo : S.ev lo = some (.d (.int li lv)) := by exact rfl) (hol : okOp lo = true := by exact rfl) (el : lv = (l : Nat) := by first | with_reducible exact nat_lit_eq | exact rfl | exact (Int.toNat_of_nonneg (by omega)).symm) (hlm : p + l ≤ xs.length := by first | omega | (simp only [List.length_cons, List.length_nil, List.length_append, List.length_map, List.length_take, List.length_drop]; omega)) : Swift E S ⟨dst, .slice t x (some lo) none none, ty, pos, af, gd⟩ (.suf n k (p + l)) := q_slice_suf hx hox hl hlo hol el hlm
theorem w_len_str {t : TypeId} {x : Operand} {s : ByteArray} [ht : TStr E.P t] (hx : S.ev x = some (.d (.str s)) := by exact rfl) (hox : okOp x = true := by exact rfl) : Swift E S ⟨dst, .call { callee := .builtin .len, args := #[x], argTypes := #[t] }, ty, pos, af, gd⟩ (.d (.int .i64 (s.size : Nat))) := q_len_str hx hox
theorem w_len {t : TypeId} {e sz : Nat} {x : Operand} {sz' n : Nat} {xs : List D} [ht : TSlice E.P t e sz] (hx : S.ev x = some (.d (.list sz' xs)) := by exact rfl) (hox : okOp x = true := by exact rfl) (hn : xs.length = n := by first | exact List.length_map .. | rfl) : Swift E S ⟨dst, .call { callee := .builtin .len, args := #[x], argTypes := #[t] }, ty, pos, af, gd⟩ (.d (.int .i64 (n : Nat))) := q_len hx hox hn
theorem w_len_own {t : TypeId} {e sz : Nat} {x : Operand} {n k e' sz' m : Nat} {sh : Bool} {xs : List D} [ht : TSlice E.P t e sz] (hx : S.ev x = some (.own n k) := by exact rfl) (hox : okOp x = true := by exact rfl) (hl : look n S.H = some (.row e' sz' sh xs k) := by exact rfl) (hm : xs.length = m := by first | exact List.length_map .. | rfl) : Swift E S ⟨dst, .call { callee := .builtin .len, args := #[x], argTypes := #[t] }, ty, pos, af, gd⟩ (.d (.int .i64 (m : Nat))) := q_len_own hx hox hl hm
theorem w_len_nils {t : TypeId} {e sz : Nat} {x : Operand} {sz' : Nat} [ht : TSlice E.P t e sz] (hx : S.ev x = some (.nils sz') := by exact rfl) (hox : okOp x = true := by exact rfl) : Swift E S ⟨dst, .call { callee := .builtin .len, args := #[x], argTypes := #[t] }, ty, pos, af, gd⟩ (.d (.int .i64 (0 : Nat))) := q_len_nils hx hox
theorem w_len_suf {t e sz n k p e' sz' m : Nat} {sh : Bool} {xs : List D} {x : Operand} [ht : TSlice E.P t e sz] (hx : S.ev x = some (.suf n k p) := by exact rfl) (hox : okOp x = true := by exact rfl) (hl : look n S.H = some (.row e' sz' sh xs k) := by exact rfl) (hm : xs.length - p = m := by first | exact List.length_map .. | rfl) : Swift E S ⟨dst, .call { callee := .builtin .len, args := #[x], argTypes := #[t] }, ty, pos, af, gd⟩ (.d (.int .i64 (m : Nat))) := q_len_suf hx hox hl hm
theorem w_len_sl {t e sz n off l c : Nat} {x : Operand} [ht : TSlice E.P t e sz] (hx : S.ev x = some (.sl n off l c) := by exact rfl) (hox : okOp x = true := by exact rfl) : Swift E S ⟨dst, .call { callee := .builtin .len, args := #[x], argTypes := #[t] }, ty, pos, af, gd⟩ (.d (.int .i64 (l : Nat))) := q_len_sl hx hox
theorem w_min {x y : Operand} {k k' : IntKind} {p q : Int} {ats : Array TypeId} (hx : S.ev x = some (.d (.int k p)) := by exact rfl) (hy : S.ev y = some (.d (.int k' q)) := by exact rfl) (hox : okOp x = true := by exact rfl) (hoy : okOp y = true := by exact rfl) : Swift E S ⟨dst, .call { callee := .builtin .min, args := #[x, y], argTypes := ats }, ty, pos, af, gd⟩ (.d (.int k (if q < p then q else p))) := q_min hx hy hox hoy
theorem w_max {x y : Operand} {k k' : IntKind} {p q : Int} {ats : Array TypeId} (hx : S.ev x = some (.d (.int k p)) := by exact rfl) (hy : S.ev y = some (.d (.int k' q)) := by exact rfl) (hox : okOp x = true := by exact rfl) (hoy : okOp y = true := by exact rfl) : Swift E S ⟨dst, .call { callee := .builtin .max, args := #[x, y], argTypes := ats }, ty, pos, af, gd⟩ (.d (.int k (if p < q then q else p))) := q_max hx hy hox hoy
theorem z_alloc {t : Nat} {vs : List V} [ht : TZero E.P t vs] (n : Nat) (h : TR E draw ops Q rest ⟨(d, .ptr n 0) :: env, (n, .box vs) :: H, gl⟩) (hn : Sd.fresh ⟨env, H, gl⟩ n = true := by exact rfl) (hs : saysL n vs = false := by rfl) (hd : d < E.C.nt := by exact ltd rfl) (hg : Sd.gd ⟨env, H, gl⟩ ops ⟨some d, .alloc t, ty, pos, af, gd⟩ = some true := by exact rfl) (hw : way.loud = true := by exact rfl) : TR E draw ops Q (.step ⟨some d, .alloc t, ty, pos, af, gd⟩ way rest) ⟨env, H, gl⟩ := s_alloc n hn hs hd hg hw h
theorem z_box {t : Nat} {x : Operand} {v : V} {vs : List V} (n : Nat) (h : TR E draw ops Q rest ⟨(d, .ptr n 0) :: env, (n, .box vs) :: H, gl⟩) (hx : Sd.ev ⟨env, H, gl⟩ x = some v := by exact rfl) (hox : okOp x = true := by exact rfl) (hown : ownOk ⟨env, H, gl⟩ v = true := by first | exact rfl | exact ownOk_row rfl) (hc : CellsV v vs := by first | (refine CellsV.d (by first | exact CellsD.agg _ | constructor) (by (repeat (first | exact MapD.nil | apply MapD.nils | apply MapD.cons)); fail_if_success intros)) | constructor) (hn : Sd.fresh ⟨env, H, gl⟩ n = true := by exact rfl) (hs : saysL n vs = false := by rfl) (hd : d < E.C.nt := by exact ltd rfl) (hg : Sd.gd ⟨env, H, gl⟩ ops ⟨some d, .box t x, ty, pos, af, gd⟩ = some true := by exact rfl) (hw : way.loud = true := by exact rfl) : TR E draw ops Q (.step ⟨some d, .box t x, ty, pos, af, gd⟩ way rest) ⟨env, H, gl⟩ := s_box n hx hox hown hc hn hs hd hg hw h
theorem z_lit {t e sz len : Nat} {ps : List (Nat × Operand)} {xs : List D} [ht : TSlice E.P t e sz] (n : Nat) (h : TR E draw ops Q rest ⟨(d, .own n 0) :: env, (n, .row e sz true xs 0) :: H, gl⟩) (hp : Elems ⟨env, H, gl⟩ sz 0 ps xs := by (repeat (first | exact Elems.nil _ | apply Elems.cons rfl rfl (by first | exact ToD.d _ | exact ToD.nils _ | exact ToD.own rfl) (by first | exact CellsD.agg _ | constructor) (by rfl))); fail_if_success intros) (hlen : xs.length = len := by rfl) (hsmall : len * sz ≤ 16777216 := by decide) (hn : Sd.fresh ⟨env, H, gl⟩ n = true := by exact rfl) (hd : d < E.C.nt := by exact ltd rfl) (hg : Sd.gd ⟨env, H, gl⟩ ops ⟨some d, .buildSlice t len ps.toArray, ty, pos, af, gd⟩ = some true := by exact rfl) (hw : way.loud = true := by exact rfl) : TR E draw ops Q (.step ⟨some d, .buildSlice t len ps.toArray, ty, pos, af, gd⟩ way rest) ⟨env, H, gl⟩ := s_lit n hp hlen hsmall hn hd hg hw h
theorem z_store {t n off m : Nat} {x y : Operand} {v : V} {vs cs cs' : List V} [ht : TSize E.P t m] (h : TR E draw ops Q rest ⟨env, (n, .box cs') :: H, gl⟩) (hx : Sd.ev ⟨env, H, gl⟩ x = some (.ptr n off) := by exact rfl) (hox : okOp x = true := by exact rfl) (hy : Sd.ev ⟨env, H, gl⟩ y = some v := by exact rfl) (hoy : okOp y = true := by exact rfl) (hown : ownOk ⟨env, H, gl⟩ v = true := by first | exact rfl | exact ownOk_row rfl) (hl : look n H = some (.box cs) := by exact rfl) (hc : CellsV v vs := by first | (refine CellsV.d (by first | exact CellsD.agg _ | constructor) (by (repeat (first | exact MapD.nil | apply MapD.nils | apply MapD.cons)); fail_if_success intros)) | constructor) (hm : vs.length = m := by rfl) (hr : Repl cs off vs cs' := by (repeat (first | exact Repl.done _ | apply Repl.here | apply Repl.there)); fail_if_success intros) (hg : Sd.gd ⟨env, H, gl⟩ ops ⟨none, .store t x y, ty, pos, af, gd⟩ = some true := by exact rfl) (hw : isBar draw way = true := by exact rfl) : TR E draw ops Q (.step ⟨none, .store t x y, ty, pos, af, gd⟩ way rest) ⟨env, H, gl⟩ := s_store hx hox hy hoy hown hl hc hm hr hg hw h
theorem z_store_el {t n k i e sz : Nat} {x y : Operand} {v : V} {z : D} {xs zs : List D} [ht : TSize E.P t sz] (h : TR E draw ops Q rest ⟨env, (n, .row e sz false (xs.set i z) k) :: H, gl⟩) (hx : Sd.ev ⟨env, H, gl⟩ x = some (.el n k i 0) := by exact rfl) (hox : okOp x = true := by exact rfl) (hl : look n H = some (.row e sz false xs k) := by exact rfl) (hy : Sd.ev ⟨env, H, gl⟩ y = some v := by exact rfl) (hoy : okOp y = true := by exact rfl) (hz : ToD H v z := by first | exact ToD.d _ | exact ToD.nils _ | exact ToD.own rfl) (hc : CellsD z zs := by first | exact CellsD.agg _ | constructor) (hm : zs.length = sz := by exact rfl) (hi : i < xs.length := by first | omega | (simp only [List.length_cons, List.length_nil, List.length_append, List.length_map, List.length_take, List.length_drop]; omega)) (hg : Sd.gd ⟨env, H, gl⟩ ops ⟨none, .store t x y, ty, pos, af, gd⟩ = some true := by exact rfl) (hw : isBar draw way = true := by exact rfl) : TR E draw ops Q (.step ⟨none, .store t x y, ty, pos, af, gd⟩ way rest) ⟨env, H, gl⟩ := s_store_el hx hox hl hy hoy hz hc hm hi hg hw h
theorem z_store1 {t n off : Nat} {x y : Operand} {v : V} {cs : List V} [ht : TSize E.P t 1] (h : TR E draw ops Q rest ⟨env, (n, .box (cs.set off v)) :: H, gl⟩) (hx : Sd.ev ⟨env, H, gl⟩ x = some (.ptr n off) := by exact rfl) (hox : okOp x = true := by exact rfl) (hy : Sd.ev ⟨env, H, gl⟩ y = some v := by exact rfl) (hoy : okOp y = true := by exact rfl) (hown : ownOk ⟨env, H, gl⟩ v = true := by first | exact rfl | exact ownOk_row rfl) (hl : look n H = some (.box cs) := by exact rfl) (hc : CellsV v [v] := by first | (refine CellsV.d (by first | exact CellsD.agg _ | constructor) (by (repeat (first | exact MapD.nil | apply MapD.nils | apply MapD.cons)); fail_if_success intros)) | constructor) (hoff : off < cs.length := by first | omega | (simp only [List.length_cons, List.length_nil, List.length_append, List.length_map, List.length_take, List.length_drop]; omega)) (hg : Sd.gd ⟨env, H, gl⟩ ops ⟨none, .store t x y, ty, pos, af, gd⟩ = some true := by exact rfl) (hw : isBar draw way = true := by exact rfl) : TR E draw ops Q (.step ⟨none, .store t x y, ty, pos, af, gd⟩ way rest) ⟨env, H, gl⟩ := s_store1 hx hox hy hoy hown hl hc hoff hg hw h
theorem z_append0 {t e sz sz' : Nat} {s x : Operand} {v : V} {ys : List D} [ht : TSlice E.P t e sz] (n : Nat) (h : TR E draw ops Q rest ⟨(d, .own n 0) :: env, (n, .row e sz true ys 0) :: H, gl⟩) (hs : Sd.ev ⟨env, H, gl⟩ s = some (.nils sz') := by exact rfl) (hos : okOp s = true := by exact rfl) (hx : Sd.ev ⟨env, H, gl⟩ x = some v := by exact rfl) (hox : okOp x = true := by exact rfl) (hy : ToD H v (.list sz ys) := by first | exact ToD.d _ | exact ToD.nils _ | exact ToD.own rfl) (hlen : ys.length ≤ 1000000000000 := by first | omega | (simp only [List.length_cons, List.length_nil, List.length_append, List.length_map, List.length_take, List.length_drop]; omega)) (hn : Sd.fresh ⟨env, H, gl⟩ n = true := by exact rfl) (hd : d < E.C.nt := by exact ltd rfl) (hg : Sd.gd ⟨env, H, gl⟩ ops ⟨some d, .call { callee := .builtin .append, args := #[s, x], argTypes := #[t, t] }, ty, pos, af, gd⟩ = some true := by exact rfl) (hw : way.loud = true := by exact rfl) : TR E draw ops Q (.step ⟨some d, .call { callee := .builtin .append, args := #[s, x], argTypes := #[t, t] }, ty, pos, af, gd⟩ way rest) ⟨env, H, gl⟩ := s_append0 n hs hos hx hox hy hlen hn hd hg hw h
theorem z_append {t e sz n k : Nat} {s x : Operand} {v : V} {xs ys : List D} [ht : TSlice E.P t e sz] (h : ∀ k', TR E draw ops Q rest ⟨(d, .own n k') :: env, (n, .row e sz true (xs ++ ys) k') :: H, gl⟩) (hs : Sd.ev ⟨env, H, gl⟩ s = some (.own n k) := by exact rfl) (hos : okOp s = true := by exact rfl) (hl : look n H = some (.row e sz true xs k) := by exact rfl) (hx : Sd.ev ⟨env, H, gl⟩ x = some v := by exact rfl) (hox : okOp x = true := by exact rfl) (hy : ToD H v (.list sz ys) := by first | exact ToD.d _ | exact ToD.nils _ | exact ToD.own rfl) (hlen : xs.length + ys.length ≤ 1000000000000 := by first | omega | (simp only [List.length_cons, List.length_nil, List.length_append, List.length_map, List.length_take, List.length_drop]; omega)) (hN : E.C.N.contains n = false := by exact rfl) (hd : d < E.C.nt := by exact ltd rfl) (hg : Sd.gd ⟨env, H, gl⟩ ops ⟨some d, .call { callee := .builtin .append, args := #[s, x], argTypes := #[t, t] }, ty, pos, af, gd⟩ = some true := by exact rfl) (hw : isBar draw way = true := by exact rfl) : TR E draw ops Q (.step ⟨some d, .call { callee := .builtin .append, args := #[s, x], argTypes := #[t, t] }, ty, pos, af, gd⟩ way rest) ⟨env, H, gl⟩ := s_append hs hos hl hx hox hy hlen hN hd hg hw h
theorem z_append_suf {t e sz n k p : Nat} {s x : Operand} {v : V} {xs ys : List D} [ht : TSlice E.P t e sz] (h : ∀ xs' p' k', xs'.drop p' = xs.drop p ++ ys → p' ≤ xs'.length → xs'.length ≤ xs.length + ys.length → TR E draw ops Q rest ⟨(d, .suf n k' p') :: env, (n, .row e sz true xs' k') :: H, gl⟩) (hs : Sd.ev ⟨env, H, gl⟩ s = some (.suf n k p) := by exact rfl) (hos : okOp s = true := by exact rfl) (hl : look n H = some (.row e sz true xs k) := by exact rfl) (hx : Sd.ev ⟨env, H, gl⟩ x = some v := by exact rfl) (hox : okOp x = true := by exact rfl) (hy : ToD H v (.list sz ys) := by first | exact ToD.d _ | exact ToD.nils _ | exact ToD.own rfl) (hpos : 0 < ys.length := by first | omega | (simp only [List.length_cons, List.length_nil, List.length_append, List.length_map, List.length_take, List.length_drop]; omega)) (hlen : xs.length + ys.length ≤ 1000000000000 := by first | omega | (simp only [List.length_cons, List.length_nil, List.length_append, List.length_map, List.length_take, List.length_drop]; omega)) (hN : E.C.N.contains n = false := by exact rfl) (hd : d < E.C.nt := by exact ltd rfl) (hg : Sd.gd ⟨env, H, gl⟩ ops ⟨some d, .call { callee := .builtin .append, args := #[s, x], argTypes := #[t, t] }, ty, pos, af, gd⟩ = some true := by exact rfl) (hw : isBar draw way = true := by exact rfl) : TR E draw ops Q (.step ⟨some d, .call { callee := .builtin .append, args := #[s, x], argTypes := #[t, t] }, ty, pos, af, gd⟩ way rest) ⟨env, H, gl⟩ := s_append_suf hs hos hl hx hox hy hpos hlen hN hd hg hw h
theorem z_pass {o : Oper} (h : TR E draw ops Q rest ⟨(d, .tup []) :: env, H, gl⟩) (hdst : o.dst = some d := by exact rfl) (hd : d < E.C.nt := by exact ltd rfl) (hg : Sd.gd ⟨env, H, gl⟩ ops o = some false := by exact rfl) : TR E draw ops Q (.step o way rest) ⟨env, H, gl⟩ := s_pass hdst hd hg h
theorem z_pass0 (h : TR E draw ops Q rest S) (hdst : o.dst = none := by exact rfl) (hg : S.gd ops o = some false := by exact rfl) : TR E draw ops Q (.step o way rest) S := tr_pass0 hdst hg h
theorem z_makeMap {t : Nat} (n : Nat) (h : TR E draw ops Q rest ⟨(d, .map n) :: env, (n, .map [] []) :: H, gl⟩) (hn : Sd.fresh ⟨env, H, gl⟩ n = true := by exact rfl) (hd : d < E.C.nt := by exact ltd rfl) (hg : Sd.gd ⟨env, H, gl⟩ ops ⟨some d, .makeMap t none, ty, pos, af, gd⟩ = some true := by exact rfl) (hw : way.loud = true := by exact rfl) : TR E draw ops Q (.step ⟨some d, .makeMap t none, ty, pos, af, gd⟩ way rest) ⟨env, H, gl⟩ := s_makeMap n hn hd hg hw h
theorem z_make {t e sz m : Nat} {k : IntKind} {p : Int} {x : Operand} {z : D} [ht : TSlice E.P t e sz] [hz : TZeroD E.P e z] (n : Nat) (h : TR E draw ops Q rest ⟨(d, .own n 0) :: env, (n, .row e sz false (List.replicate m z) 0) :: H, gl⟩) (hx : Sd.ev ⟨env, H, gl⟩ x = some (.d (.int k p)) := by exact rfl) (hox : okOp x = true := by exact rfl) (hp : p = (m : Nat) := by first | with_reducible exact nat_lit_eq | exact rfl | exact (Int.toNat_of_nonneg (by omega)).symm) (hm : m ≤ 1000000000 := by first | omega | (simp only [List.length_cons, List.length_nil, List.length_append, List.length_map, List.length_take, List.length_drop]; omega)) (hn : Sd.fresh ⟨env, H, gl⟩ n = true := by exact rfl) (hd : d < E.C.nt := by exact ltd rfl) (hg : Sd.gd ⟨env, H, gl⟩ ops ⟨some d, .makeSlice t x x, ty, pos, af, gd⟩ = some true := by exact rfl) (hw : way.loud = true := by exact rfl) : TR E draw ops Q (.step ⟨some d, .makeSlice t x x, ty, pos, af, gd⟩ way rest) ⟨env, H, gl⟩ := s_make n hx hox hp hm hn hd hg hw h
theorem z_makeBox {t e : Nat} {k : IntKind} {x : Operand} {v : V} [ht : TSlice E.P t e 1] [hz : TZero E.P e [v]] (n m : Nat) (h : TR E draw ops Q rest ⟨(d, .sl n 0 m m) :: env, (n, .box (List.replicate m v)) :: H, gl⟩) (hx : Sd.ev ⟨env, H, gl⟩ x = some (.d (.int k (m : Nat))) := by exact rfl) (hox : okOp x = true := by exact rfl) (hm : m ≤ 1000000000 := by decide) (hn : Sd.fresh ⟨env, H, gl⟩ n = true := by exact rfl) (hs : saysL n (List.replicate m v) = false := by exact rfl) (hd : d < E.C.nt := by exact ltd rfl) (hg : Sd.gd ⟨env, H, gl⟩ ops ⟨some d, .makeSlice t x x, ty, pos, af, gd⟩ = some true := by exact rfl) (hw : way.loud = true := by exact rfl) : TR E draw ops Q (.step ⟨some d, .makeSlice t x x, ty, pos, af, gd⟩ way rest) ⟨env, H, gl⟩ := s_makeBox n m hx hox hm hn hs hd hg hw h
theorem z_str_eq {xt yt : TypeId} {x y : Operand} {s t : ByteArray} (h1 : s = t → TR E draw ops Q rest ⟨(d, .d (.bool true)) :: env, H, gl⟩) (h2 : ¬ s = t → TR E draw ops Q rest ⟨(d, .d (.bool false)) :: env, H, gl⟩) (hx : Sd.ev ⟨env, H, gl⟩ x = some (.d (.str s)) := by exact rfl) (hy : Sd.ev ⟨env, H, gl⟩ y = some (.d (.str t)) := by exact rfl) (hox : okOp x = true := by exact rfl) (hoy : okOp y = true := by exact rfl) (hd : d < E.C.nt := by exact ltd rfl) (hg : Sd.gd ⟨env, H, gl⟩ ops ⟨some d, .binOp .eql xt x y yt, ty, pos, af, gd⟩ = some true := by exact rfl) : TR E draw ops Q (.step ⟨some d, .binOp .eql xt x y yt, ty, pos, af, gd⟩ way rest) ⟨env, H, gl⟩ := s_str_eq hx hy hox hoy hd hg h1 h2
theorem z_str_ne {xt yt : TypeId} {x y : Operand} {s t : ByteArray} (h1 : s = t → TR E draw ops Q rest ⟨(d, .d (.bool false)) :: env, H, gl⟩) (h2 : ¬ s = t → TR E draw ops Q rest ⟨(d, .d (.bool true)) :: env, H, gl⟩) (hx : Sd.ev ⟨env, H, gl⟩ x = some (.d (.str s)) := by exact rfl) (hy : Sd.ev ⟨env, H, gl⟩ y = some (.d (.str t)) := by exact rfl) (hox : okOp x = true := by exact rfl) (hoy : okOp y = true := by exact rfl) (hd : d < E.C.nt := by exact ltd rfl) (hg : Sd.gd ⟨env, H, gl⟩ ops ⟨some d, .binOp .neq xt x y yt, ty, pos, af, gd⟩ = some true := by exact rfl) : TR E draw ops Q (.step ⟨some d, .binOp .neq xt x y yt, ty, pos, af, gd⟩ way rest) ⟨env, H, gl⟩ := s_str_ne hx hy hox hoy hd hg h1 h2
theorem z_agg_eq {t : Nat} {yt : TypeId} {x y : Operand} {ls : List Nat} {ds es : List D} {p : Prop} [ht : TEq E.P t ls] [hs : TAgg E.P t ls.length] (h1 : p → TR E draw ops Q rest ⟨(d, .d (.bool true)) :: env, H, gl⟩) (h2 : ¬ p → TR E draw ops Q rest ⟨(d, .d (.bool false)) :: env, H, gl⟩) (hx : Sd.ev ⟨env, H, gl⟩ x = some (.d (.agg ds)) := by exact rfl) (hy : Sd.ev ⟨env, H, gl⟩ y = some (.d (.agg es)) := by exact rfl) (hox : okOp x = true := by exact rfl) (hoy : okOp y = true := by exact rfl) (hE : EqC ls ds es p := by (repeat (first | exact EqC.nil | apply EqC.int | apply EqC.bool | apply EqC.str)); fail_if_success intros) (hd : d < E.C.nt := by exact ltd rfl) (hg : Sd.gd ⟨env, H, gl⟩ ops ⟨some d, .binOp .eql t x y yt, ty, pos, af, gd⟩ = some true := by exact rfl) : TR E draw ops Q (.step ⟨some d, .binOp .eql t x y yt, ty, pos, af, gd⟩ way rest) ⟨env, H, gl⟩ := s_agg_eq hx hy hox hoy hE hd hg h1 h2
theorem z_agg_ne {t : Nat} {yt : TypeId} {x y : Operand} {ls : List Nat} {ds es : List D} {p : Prop} [ht : TEq E.P t ls] [hs : TAgg E.P t ls.length] (h1 : p → TR E draw ops Q rest ⟨(d, .d (.bool false)) :: env, H, gl⟩) (h2 : ¬ p → TR E draw ops Q rest ⟨(d, .d (.bool true)) :: env, H, gl⟩) (hx : Sd.ev ⟨env, H, gl⟩ x = some (.d (.agg ds)) := by exact rfl) (hy : Sd.ev ⟨env, H, gl⟩ y = some (.d (.agg es)) := by exact rfl) (hox : okOp x = true := by exact rfl) (hoy : okOp y = true := by exact rfl) (hE : EqC ls ds es p := by (repeat (first | exact EqC.nil | apply EqC.int | apply EqC.bool | apply EqC.str)); fail_if_success intros) (hd : d < E.C.nt := by exact ltd rfl) (hg : Sd.gd ⟨env, H, gl⟩ ops ⟨some d, .binOp .neq t x y yt, ty, pos, af, gd⟩ = some true := by exact rfl) : TR E draw ops Q (.step ⟨some d, .binOp .neq t x y yt, ty, pos, af, gd⟩ way rest) ⟨env, H, gl⟩ := s_agg_ne hx hy hox hoy hE hd hg h1 h2
theorem z_cmp {op : BinOp} {xt yt : TypeId} {x y : Operand} {k : IntKind} {p q : Int} (h1 : cmp op p q → TR E draw ops Q rest ⟨(d, .d (.bool true)) :: env, H, gl⟩) (h2 : ¬ cmp op p q → TR E draw ops Q rest ⟨(d, .d (.bool false)) :: env, H, gl⟩) (hop : isCmp op = true := by exact rfl) (hx : Sd.ev ⟨env, H, gl⟩ x = some (.d (.int k p)) := by exact rfl) (hy : Sd.ev ⟨env, H, gl⟩ y = some (.d (.int k q)) := by exact rfl) (hox : okOp x = true := by exact rfl) (hoy : okOp y = true := by exact rfl) (hd : d < E.C.nt := by exact ltd rfl) (hg : Sd.gd ⟨env, H, gl⟩ ops ⟨some d, .binOp op xt x y yt, ty, pos, af, gd⟩ = some true := by exact rfl) : TR E draw ops Q (.step ⟨some d, .binOp op xt x y yt, ty, pos, af, gd⟩ way rest) ⟨env, H, gl⟩ := s_cmp hop hx hy hox hoy hd hg h1 h2
theorem z_call {f : Nat} {xs : List Operand} {ats : Array TypeId} {vs vs' : List V} {R : V → Prop} [hf : TFun E.P f] (h : ∀ v, R v → TR E draw ops Q rest ⟨(d, v) :: env, H, gl⟩) (hx : Evs ⟨env, H, gl⟩ xs vs := by (repeat (first | exact Evs.nil | apply Evs.cons rfl rfl)); fail_if_success intros) (ha : Args H vs vs' := by (repeat (first | exact Args.nil | apply Args.cons (Arg.d _) | apply Args.cons (Arg.own rfl) | apply Args.cons (Arg.nils _) | apply Args.cons (Arg.clo0 _))); fail_if_success intros) (hc : FnD E.P gl f vs' R) (hd : d < E.C.nt := by exact ltd rfl) (hg : Sd.gd ⟨env, H, gl⟩ ops ⟨some d, .call { callee := .value (.func f), args := xs.toArray, argTypes := ats }, ty, pos, af, gd⟩ = some true := by exact rfl) (hw : way.loud = true := by exact rfl) : TR E draw ops Q (.step ⟨some d, .call { callee := .value (.func f), args := xs.toArray, argTypes := ats }, ty, pos, af, gd⟩ way rest) ⟨env, H, gl⟩ := s_call hx ha hc hd hg hw h
theorem z_callE {f : Nat} {fx : Operand} {xs : List Operand} {ats : Array TypeId} {fs gs vs args : List V} {H0 : List (Nat × Ob)} {R : V → List (Nat × Ob) → Prop} [hf : TFun E.P f] (h : ∀ v H1, R v H1 → freshNew ⟨env, H, gl⟩ H0 H1 = true ∧ TR E draw ops Q rest ⟨(d, v) :: env, H1 ++ H, gl⟩) (hfx : Sd.ev ⟨env, H, gl⟩ fx = some (.clo (.func f) fs gs) := by exact rfl) (hof : okOp fx = true := by exact rfl) (hx : Evs ⟨env, H, gl⟩ xs vs := by (repeat (first | exact Evs.nil | apply Evs.cons rfl rfl)); fail_if_success intros) (ha : ArgsE H (fs ++ vs ++ gs) args := by (repeat (first | exact ArgsE.nil | apply ArgsE.cons (ArgE.own rfl) | apply ArgsE.cons (ArgE.nils _) | apply ArgsE.cons (ArgE.same _))); fail_if_success intros) (hc : FnE E.P gl f args H0 R) (hs : SubH H H0 := by (repeat (first | exact SubH.nil | apply SubH.cons rfl)); fail_if_success intros) (hwm : wholeMut H0 = true := by exact rfl) (hd : d < E.C.nt := by exact ltd rfl) (hg : Sd.gd ⟨env, H, gl⟩ ops ⟨some d, .call { callee := .value fx, args := xs.toArray, argTypes := ats }, ty, pos, af, gd⟩ = some true := by exact rfl) (hw : isBar draw way = true := by exact rfl) : TR E draw ops Q (.step ⟨some d, .call { callee := .value fx, args := xs.toArray, argTypes := ats }, ty, pos, af, gd⟩ way rest) ⟨env, H, gl⟩ := s_callE hfx hof hx ha hc hs hwm hd hg hw h
def memN (t : Nat) : List Nat → Bool
  | [] => false
  | s :: r => bif Nat.beq s t then true else memN t r
def delN (t : Nat) : List Nat → List Nat
  | [] => []
  | s :: r => bif Nat.beq s t then r else s :: delN t r
theorem memN_iff {t : Nat} : ∀ {l : List Nat}, memN t l = true ↔ t ∈ l
  | [] => by simp [memN]
  | s :: r => by
    show (bif Nat.beq s t then true else memN t r) = true ↔ _
    cases h : Nat.beq s t with
    | true => have := Nat.eq_of_beq_eq_true h; simp [this]
    | false => have := beq_false.1 h; simp only [cond_false, List.mem_cons, memN_iff]; exact ⟨.inr, fun h => h.resolve_left (fun e => this e.symm)⟩
theorem delN_sub {t x : Nat} : ∀ {l : List Nat}, x ∈ delN t l → x ∈ l
  | [], h => h
  | s :: r, h => by
    have h' : x ∈ (bif Nat.beq s t then r else s :: delN t r) := h
    cases hb : Nat.beq s t with
    | true => rw [hb] at h'; exact List.mem_cons_of_mem _ h'
    | false =>
      rw [hb] at h'
      rcases List.mem_cons.1 h' with rfl | h'
      · exact List.mem_cons_self
      · exact List.mem_cons_of_mem _ (delN_sub h')
theorem delN_nd {t : Nat} : ∀ {l : List Nat}, l.Nodup → (delN t l).Nodup ∧ t ∉ delN t l
  | [], h => ⟨h, fun h => by cases h⟩
  | s :: r, h => by
    obtain ⟨h1, h2⟩ := List.nodup_cons.1 h
    have e : delN t (s :: r) = (bif Nat.beq s t then r else s :: delN t r) := rfl
    rw [e]
    cases hb : Nat.beq s t with
    | true => have := Nat.eq_of_beq_eq_true hb; subst this; exact ⟨h2, h1⟩
    | false =>
      obtain ⟨q1, q2⟩ := delN_nd (t := t) h2
      refine ⟨List.nodup_cons.2 ⟨fun h => h1 (delN_sub h), q1⟩, fun h => ?_⟩
      rcases List.mem_cons.1 h with rfl | h
      · exact beq_false.1 hb rfl
      · exact q2 h
inductive Keep : List Nat → List (Nat × V) → List (Nat × V) → Prop
  | nil (ts : List Nat) : Keep ts [] []
  | take {ts : List Nat} {t : Nat} {v : V} {l r : List (Nat × V)} (h : memN t ts = true) (k : Keep (delN t ts) l r) : Keep ts ((t, v) :: l) ((t, v) :: r)
  | ghost {ts : List Nat} {t : Nat} {v : V} {l r : List (Nat × V)} (h : Nat.ble 100000 t = true) (k : Keep ts l r) : Keep ts ((t, v) :: l) ((t, v) :: r)
  | drop {ts : List Nat} {t : Nat} {v : V} {l r : List (Nat × V)} (h : Nat.ble 100000 t = false) (h' : memN t ts = false) (k : Keep ts l r) : Keep ts ((t, v) :: l) r
theorem Keep.from {ts : List Nat} {l r : List (Nat × V)} (h : Keep ts l r) {t : Nat} {v : V} (hl : look t r = some v) : t ∈ ts ∨ 100000 ≤ t := by
  induction h with
  | nil => cases hl
  | @take ts s u l r h k ih =>
    rw [look_cons] at hl
    split at hl
    · rename_i e; subst e; exact .inl (memN_iff.1 h)
    · exact (ih hl).imp delN_sub id
  | @ghost ts s u l r h k ih =>
    rw [look_cons] at hl
    split at hl
    · rename_i e; subst e; exact .inr (Nat.le_of_ble_eq_true h)
    · exact ih hl
  | drop _ _ _ ih => exact ih hl
theorem Keep.look {ts : List Nat} {l r : List (Nat × V)} (h : Keep ts l r) (hnd : ts.Nodup) : ∀ {t : Nat} {v : V}, Go.Proofs.YtcblefmjacofgaaGreatDoor.look t r = some v → Go.Proofs.YtcblefmjacofgaaGreatDoor.look t l = some v := by
  induction h with
  | nil => intro t v h; exact h
  | @take ts s u l r h k ih =>
    intro t v hl
    rw [look_cons] at hl ⊢
    split at hl
    · rename_i e; rw [if_pos e]; exact hl
    · rename_i e; rw [if_neg e]; exact ih (delN_nd hnd).1 hl
  | @ghost ts s u l r h k ih =>
    intro t v hl
    rw [look_cons] at hl ⊢
    split at hl
    · rename_i e; rw [if_pos e]; exact hl
    · rename_i e; rw [if_neg e]; exact ih hnd hl
  | @drop ts s u l r h h' k ih =>
    intro t v hl
    rw [look_cons]
    split
    · rename_i e
      subst e
      rcases k.from hl with q | q
      · rw [memN_iff.2 q] at h'; cases h'
      · have := Nat.ble_eq_true_of_le q; rw [this] at h; cases h
    · exact ih hnd hl
inductive KeepH : List Nat → List (Nat × Ob) → List (Nat × Ob) → Prop
  | nil (ts : List Nat) : KeepH ts [] []
  | take {ts : List Nat} {n : Nat} {ob : Ob} {l r : List (Nat × Ob)} (h : memN n ts = false) (k : KeepH (n :: ts) l r) : KeepH ts ((n, ob) :: l) ((n, ob) :: r)
  | drop {ts : List Nat} {n : Nat} {ob : Ob} {l r : List (Nat × Ob)} (h : memN n ts = true) (k : KeepH ts l r) : KeepH ts ((n, ob) :: l) r
theorem KeepH.look {ts : List Nat} {l r : List (Nat × Ob)} (h : KeepH ts l r) : ∀ {n : Nat}, n ∉ ts → Go.Proofs.YtcblefmjacofgaaGreatDoor.look n r = Go.Proofs.YtcblefmjacofgaaGreatDoor.look n l := by
  induction h with
  | nil => intro n _; rfl
  | @take ts m ob l r h k ih =>
    intro n hn
    rw [look_cons, look_cons]
    split
    · rfl
    · rename_i e
      exact ih (by rw [List.mem_cons, not_or]; exact ⟨fun e' => e e'.symm, hn⟩)
  | @drop ts m ob l r h k ih =>
    intro n hn
    rw [look_cons]
    split
    · rename_i e; subst e; exact absurd (memN_iff.1 h) hn
    · exact ih hn
def nodupN : List Nat → Bool
  | [] => true
  | t :: r => !memN t r && nodupN r
theorem nodupN_iff : ∀ {l : List Nat}, nodupN l = true → l.Nodup
  | [], _ => List.nodup_nil
  | t :: r, h => by
    simp only [nodupN, Bool.and_eq_true, Bool.not_eq_true'] at h
    exact List.nodup_cons.2 ⟨fun hm => (by rw [memN_iff.2 hm] at h; cases h.1), nodupN_iff h.2⟩
theorem z_nil (ts : List Nat) {env' : List (Nat × V)} {H' : List (Nat × Ob)} (h : Q .normal ⟨env', H', gl⟩) (hts : nodupN ts = true := by exact rfl) (hk : Keep ts env env' := by (repeat (first | exact Keep.nil _ | apply Keep.drop rfl rfl | apply Keep.take rfl | apply Keep.ghost rfl)); fail_if_success intros) (hh : KeepH [] H H' := by (repeat (first | exact KeepH.nil _ | apply KeepH.take rfl | apply KeepH.drop rfl)); fail_if_success intros) : TR E draw ops Q .nil ⟨env, H, gl⟩ := fun a w hS => by
  have wk1 : ∀ a w, St E.C ⟨env, H, gl⟩ a w → St E.C ⟨env', H', gl⟩ a w := fun a w ⟨β, hB⟩ => ⟨β, hB.weak (fun t v hl => hk.look (nodupN_iff hts) hl) (fun n ob hl => by
    have := hh.look (n := n) (by simp)
    dsimp only at hl ⊢
    rw [← this]; exact hl) (fun _ _ h => h) (fun n hn => by
    have := hh.look (n := n) (by simp)
    dsimp only
    rw [this]; exact hB.has n hn)⟩
  cases draw with
  | true => exact fun n => ⟨_, wk1 _ _ (hS.later n.grows), h⟩
  | false => exact wpListIn_nil ⟨_, wk1 _ _ hS, h⟩
end
end Go.Proofs.YtcblefmjacofgaaGreatDoor
namespace Go.Proofs.YtcblefmjacofgaaGreatDoor
open Go.RowKit
def isBoolC (b : Bool) : Operand → Bool
  | .const (.bool c) => match b, c with
    | true, true => true
    | false, false => true
    | _, _ => false
  | _ => false
def isSlot (t : Nat) : Operand → Bool
  | .tmp s => Nat.beq s t
  | _ => false
theorem isBoolC_iff {b : Bool} {x : Operand} (h : isBoolC b x = true) : x = .const (.bool b) := by
  unfold isBoolC at h
  split at h
  · split at h
    · rfl
    · rfl
    · cases h
  · cases h
theorem isSlot_iff {t : Nat} {x : Operand} (h : isSlot t x = true) : x = .tmp t := by
  unfold isSlot at h
  split at h
  · rw [Nat.eq_of_beq_eq_true h]
  · cases h
def noKey (d : Nat) : List (Nat × V) → Bool
  | [] => true
  | (s, _) :: r => bif Nat.beq s d then false else noKey d r
theorem noKey_iff {d : Nat} : ∀ {l : List (Nat × V)}, noKey d l = true → ∀ v, look d l ≠ some v
  | [], _, _, h => by cases h
  | (s, u) :: r, h, v, h' => by
    rw [look_cons] at h'
    simp only [noKey] at h
    cases hb : Nat.beq s d with
    | true => rw [hb] at h; cases h
    | false =>
      rw [hb] at h
      rw [if_neg (beq_false.1 hb)] at h'
      exact noKey_iff h v h'
def chainT (b : Bool) (ops : Array Oper) (n : Nat) (env : List (Nat × V)) (t t' : Nat) : Todo → Bool
  | .nil => Nat.beq t t'
  | .step o _ rest => match o.dst with
    | none => false
    | some d => noKey d env && Nat.blt d n && Nat.blt d 100000 && (match o.guard with
      | none => (match o.op with
        | .move x => isSlot t x
        | .pick c x y => isSlot t c && (match b with
          | true => isBoolC true x
          | false => isBoolC false y)
        | _ => false) && chainT b ops n env d t' rest
      | some (j, want) => (match (nth ops.toList j).bind (·.dst) with
        | some g => Nat.beq g t
        | none => false) && (match b, want with
          | true, false => true
          | false, true => true
          | _, _ => false) && (bif Nat.beq d t then false else true) && chainT b ops n env t t' rest)
  | .two .. => false
  | .mid .. => false
  | .or .. => false
  | .tail _ => false
section
variable {E : Set} {Q : Exit → Sd → Prop} {ops : Array Oper} {draw : Bool} {H : List (Nat × Ob)} {gl : List (Nat × List D)}
theorem chain_aux (b : Bool) (env : List (Nat × V)) (t' : Nat) (h : TR E draw ops Q .nil ⟨(t', .d (.bool b)) :: env, H, gl⟩) : ∀ (l : Todo) (t : Nat) (env' : List (Nat × V)), chainT b ops E.C.nt env t t' l = true → Nat.blt t 100000 = true → look t env' = some (.d (.bool b)) →
    (∀ s v, look s env = some v → look s env' = some v) → TR E draw ops Q l ⟨env', H, gl⟩
  | .nil, t, env', hc, _, hl, ha => fun a w hS => by
    obtain rfl : t = t' := Nat.eq_of_beq_eq_true hc
    obtain ⟨β, hB⟩ := hS
    refine h a w ⟨β, hB.weak (fun s v hs => ?_) (fun _ _ h => h) (fun _ _ h => h) (fun n hn => hB.has n hn)⟩
    dsimp only at hs
    rw [look_cons] at hs
    split at hs
    · rename_i e; subst e; cases hs; exact hl
    · exact ha s v hs
  | .step ⟨dst, op, ty, pos, af, gd⟩ way rest, t, env', hc, ht, hl, ha => by
    have hev : Sd.ev ⟨env', H, gl⟩ (.tmp t) = some (.d (.bool b)) := by simp only [Sd.ev, ht, cond_true]; exact hl
    cases dst with
    | none => simp [chainT] at hc
    | some d =>
      simp only [chainT, Bool.and_eq_true] at hc
      obtain ⟨⟨⟨hk, hn⟩, hm⟩, hc⟩ := hc
      have hadd : ∀ u, ∀ s v, look s env = some v → look s ((d, u) :: env') = some v := fun u s v hs => by
        rw [look_cons, if_neg (fun e => by subst e; exact noKey_iff hk v hs)]
        exact ha s v hs
      cases gd with
      | none =>
        simp only [Bool.and_eq_true] at hc
        obtain ⟨hop, hc⟩ := hc
        have fin : Swift E ⟨env', H, gl⟩ ⟨some d, op, ty, pos, af, none⟩ (.d (.bool b)) ∧ isDefer ⟨some d, op, ty, pos, af, none⟩ = false := by
          split at hop
          · rw [isSlot_iff hop]
            exact ⟨q_move hev rfl, rfl⟩
          · simp only [Bool.and_eq_true] at hop
            rw [isSlot_iff hop.1]
            cases b with
            | true => rw [isBoolC_iff hop.2]; exact ⟨q_pick_t hev rfl rfl rfl, rfl⟩
            | false => rw [isBoolC_iff hop.2]; exact ⟨q_pick_f hev rfl rfl rfl, rfl⟩
          · cases hop
        refine tr_still fin.1 rfl (ltd hn) rfl fin.2 ?_
        exact chain_aux b env t' h rest d _ hc hm (by rw [look_cons, if_pos rfl]) (hadd _)
      | some g =>
        obtain ⟨j, want⟩ := g
        simp only [Bool.and_eq_true] at hc
        obtain ⟨⟨⟨hg, hw⟩, hd⟩, hc⟩ := hc
        have hdt : d ≠ t := fun e => by subst e; simp at hd
        refine tr_pass rfl (ltd hn) ?_ ?_
        · simp only [Sd.gd]
          cases hj : (nth ops.toList j).bind (·.dst) with
          | none => rw [hj] at hg; cases hg
          | some g =>
            rw [hj] at hg
            rw [Nat.eq_of_beq_eq_true hg]
            simp only [hev]
            cases b <;> cases want <;> simp at hw ⊢
        · exact chain_aux b env t' h rest t _ hc ht (by rw [look_cons, if_neg hdt]; exact hl) (hadd _)
  | .two .., _, _, hc, _, _, _ => by simp [chainT] at hc
  | .mid .., _, _, hc, _, _, _ => by simp [chainT] at hc
  | .or .., _, _, hc, _, _, _ => by simp [chainT] at hc
  | .tail _, _, _, hc, _, _, _ => by simp [chainT] at hc
theorem z_short (b : Bool) (t t' : Nat) {l : Todo} {env : List (Nat × V)} (h : TR E draw ops Q .nil ⟨(t', .d (.bool b)) :: env, H, gl⟩) (hl : look t env = some (.d (.bool b)) := by exact rfl) (hc : chainT b ops E.C.nt env t t' l = true := by kernel_rfl) (ht : Nat.blt t 100000 = true := by exact rfl) : TR E draw ops Q l ⟨env, H, gl⟩ :=
  chain_aux b env t' h l t env hc ht hl fun _ _ h => h
end
end Go.Proofs.YtcblefmjacofgaaGreatDoor
namespace Go.Proofs.YtcblefmjacofgaaGreatDoor
open Go.RowKit
section
variable {E : Set} {Q : Exit → Sd → Prop} {S : Sd} {ops : Array Oper} {ty : TypeId} {pos : String} {af : Array Edge} {gd : Option (Nat × Bool)} {dst : Option Tmp} {o : Oper} {v : V} {F : List Nat} {rest : List (Oper × TW)}
variable {env : List (Nat × V)} {H : List (Nat × Ob)} {gl : List (Nat × List D)} {d : Nat}
theorem load_boxs_at {t n off m : Nat} {x : Operand} {cs vs' : List V} {ds : List D} [ht : TAgg E.P t m] (hx : S.ev x = some (.ptr n off)) (hl : look n S.H = some (.box cs)) (hc : Cut cs off m vs') (hd : ToDs S.H vs' ds)
    (hn : ds.all D.scalar = true) {β : Nat → Value} {a : Act} {w : World} (h : StB E.C β S a w) : ∃ (b : Nat) (ob : Obj) (u : Value), hb (β n) = some b ∧ w.heap[b]? = some ob ∧ (∀ w', w'.heap[b]? = some ob → (execOp a.eval ⟨dst, .load t x, ty, pos, af, gd⟩).run E.P w' = .ok (.value u) w') ∧ RepV w (Mut E.C.M0 β S.H) β S.H (.d (.agg ds)) u := by
  obtain ⟨b, vs, t', h1, h2, h3, h4⟩ := h.boxAt hx hl
  obtain ⟨h5, h6⟩ := hc.eq
  have hlen := h4.length
  have hrep : ∀ (k : Nat) (vs' : List V) (ds : List D), ToDs S.H vs' ds → (ds.all D.scalar = true) → (∀ i v, vs'[i]? = some v → cs[k + i]? = some v) → RepA w (Mut E.C.M0 β S.H) ds ((vs.drop k).take vs'.length) := by
    intro k vs' ds hd
    induction hd generalizing k with
    | nil => intro _ _; simp [RepA]
    | @cons v x vs1 xs1 h7 h8 ih =>
      intro hn hcs
      simp only [List.all_cons, Bool.and_eq_true] at hn
      obtain ⟨u, h9, h10⟩ := h4.get (hcs 0 v rfl)
      have h11 := h7.rep h h10
      have h12 := ih (k + 1) hn.2 (fun i v hv => by rw [show k + 1 + i = k + (i + 1) by omega]; exact hcs (i + 1) v (by simpa using hv))
      have hk : k < vs.length := (List.getElem?_eq_some_iff.1 (by simpa using h9)).1
      refine ⟨u, (vs.drop (k + 1)).take vs1.length, ?_, ?_, h11, h12⟩
      · rw [List.drop_eq_getElem_cons hk, List.length_cons, List.take_succ_cons]
        simp only [Nat.add_zero, List.getElem?_eq_getElem hk, Option.some.injEq] at h9
        rw [h9]
      · exact h11.oneOf hn.1
  have h7 := hrep off vs' ds hd hn (fun i v hv => by
    rw [h5, List.getElem?_take, List.getElem?_drop] at hv
    split at hv
    · exact hv
    · cases hv)
  have hle : off + m ≤ vs.length ∨ m = 0 := by
    rw [h5] at h6
    simp at h6
    omega
  refine ⟨b, _, .agg ((vs.drop off).take vs'.length).toArray, by rw [h1]; rfl, h3, fun w' g => ?_, ⟨_, rfl, h7⟩⟩
  have := loadAt_agg (vs := (vs.drop off).take vs'.length) (w := w') (b := b) (o := off) ht (by simp; omega) (fun j v hv => box_cell g (by
    rw [List.getElem?_take, List.getElem?_drop] at hv
    split at hv
    · exact hv
    · cases hv))
  simp [execOp, h2, this]
def TJ (E : Set) (ops : Array Oper) (Q : Exit → Sd → Prop) (F : List Nat) (l : List (Oper × TW)) (S : Sd) : Prop :=
  ∀ (β : Nat → Value) (a : Act) (w : World) (J : World → Prop), StB E.C β S a w → (∀ w', (∀ n ∈ F, ∀ b o, hb (β n) = some b → w.heap[b]? = some o → w'.heap[b]? = some o) → J w') → wpTail E.P ops (Qof E.C Q) J l a w
theorem tr_tail {l : List (Oper × TW)} (h : TJ E ops Q [] l S) : TR E true ops Q (.tail l) S := fun a w ⟨β, hB⟩ => h β a w _ hB (fun _ _ => trivial)
theorem tj_nil (h : TR E true ops Q .nil S) : TJ E ops Q F [] S := fun β a w _ hB _ => h a w ⟨β, hB⟩
theorem tj_pure (hq : Swift E ⟨env, H, gl⟩ o v) (h : TJ E ops Q F rest ⟨(d, v) :: env, H, gl⟩) (hdst : o.dst = some d := by exact rfl) (hd : d < E.C.nt := by exact ltd rfl) (hg : o.guard = none := by exact rfl) : TJ E ops Q F ((o, .pure) :: rest) ⟨env, H, gl⟩ := fun β a w J hB hJ => by
  obtain ⟨x, h1, h2⟩ := hq.out β a w hB
  simp only [wpTail]
  rw [if_pos (wanted_none hg _)]
  refine ⟨x, fun w' => h1 w' trivial, ?_⟩
  rw [hdst]
  exact h β _ w J (hB.put hd h2) hJ
theorem tj_load {t n off m : Nat} {x : Operand} {cs vs' : List V} {ds : List D} [ht : TAgg E.P t m] (h : TJ E ops Q (n :: F) rest ⟨(d, .d (.agg ds)) :: env, H, gl⟩) (hx : Sd.ev ⟨env, H, gl⟩ x = some (.ptr n off) := by exact rfl) (hl : look n H = some (.box cs) := by exact rfl) (hc : Cut cs off m vs' := by (repeat (first | exact Cut.done _ | apply Cut.take | apply Cut.skip)); fail_if_success intros) (hd' : ToDs H vs' ds := by (repeat (first | exact ToDs.nil | apply ToDs.cons (ToD.d _) | apply ToDs.cons (ToD.nils _) | apply ToDs.cons (ToD.own rfl))); fail_if_success intros)
    (hn : ds.all D.scalar = true := by exact rfl) (hd : d < E.C.nt := by exact ltd rfl) : TJ E ops Q F ((⟨some d, .load t x, ty, pos, af, none⟩, .firm) :: rest) ⟨env, H, gl⟩ := fun β a w J hB hJ => by
  obtain ⟨b, o, u, h1, h2, h3, h4⟩ := load_boxs_at (t := t) (x := x) (S := ⟨env, H, gl⟩) (dst := some d) (ty := ty) (pos := pos) (af := af) (gd := none) hx hl hc hd' hn hB
  simp only [wpTail]
  rw [if_pos (wanted_none rfl _)]
  exact ⟨u, fun w' => w'.heap[b]? = some o, fun w1 w2 g e => grows_heap g e, h2, h3, h β _ w _ (hB.put hd h4) fun w' hw' => ⟨hJ w' fun n' hn' => hw' n' (List.mem_cons_of_mem _ hn'), hw' n List.mem_cons_self b o h1 h2⟩⟩
theorem tj_entry {F : List Nat} {t k e n : Nat} {kk : KeyK} {x y x3 z : Operand} {key u z0 : D} {v : V} {ks vs : List D} {d1 d2 : Nat} {ty1 ty2 ty3 : TypeId} {p1 p2 p3 : String} {af1 af2 af3 : Array Edge} [ht : TMap E.P t k e] [hkk : TKey E.P k kk] [hz0 : TZeroD E.P e z0]
    (hx : Sd.ev ⟨env, H, gl⟩ x = some (.map n)) (hox : okOp x = true) (hl : look n H = some (.map ks vs)) (hy : Sd.ev ⟨env, H, gl⟩ y = some (.d key)) (hoy : okOp y = true) (hx3 : Sd.ev ((⟨env, H, gl⟩ : Sd).put d1 unk |>.put d2 unk) x3 = some (.map n)) (hox3 : okOp x3 = true)
    (hz : Sd.ev ((⟨env, H, gl⟩ : Sd).put d1 unk |>.put d2 unk) z = some v) (hoz : okOp z = true) (hu : ToD H v u) (hc : Comp kk key key) (hd1 : d1 < E.C.nt) (hd2 : d2 < E.C.nt) (hb1 : Nat.blt d1 100000 = true) (hb2 : Nat.blt d2 100000 = true) (hunk : look 999999999 H = none)
    (hk : ∀ y ∈ ks, Comp kk key y) (hn : key ∉ ks)
    (hF : F.all (fun m => !(Nat.beq m n) && (look m H).isSome) = true)
    (h : TJ E ops Q F rest ⟨(d2, unk) :: (d1, unk) :: env, (n, .map (ks ++ [key]) (vs ++ [u])) :: H, gl⟩) :
    TJ E ops Q F ((⟨some d1, .mapEntry t x y, ty1, p1, af1, none⟩, .keep) :: (⟨some d2, .extract (.tmp d1) 1, ty2, p2, af2, none⟩, .pure) :: (⟨none, .entryStore t x3 (.tmp d2) z, ty3, p3, af3, none⟩, .keep) :: rest) ⟨env, H, gl⟩ := fun β a w J hB0 hJ0 => by
  simp only [wpTail]
  intro n1
  rw [if_pos (wanted_none rfl _)]
  have hB := hB0.later n1.grows
  obtain ⟨r, h1, h2⟩ := hB.ev hx hox
  obtain ⟨r', es, c, h3, h4, h5, h6, hbn⟩ := hB.obs n _ hl
  rw [h1] at h3
  cases h3
  have hkr := hB.ev hy hoy
  have hkey : a.eval y = keyV key := hc.rep.1 _ hkr
  obtain ⟨q, h7, h8⟩ := findKey_run (P := E.P) (t := k) (x := key) n1.w es.toList (keys_comp h5 hk)
  have := found_miss h5 hk hn h8
  subst this
  obtain ⟨i0, z1, hi0, hz1, hzr⟩ := zeroD_one hz0
  let o1 : Obj := .map (es.push { key := keyV key, val := z1, born := c }) (c + 1)
  have hr1 : (execOp a.eval ⟨some d1, .mapEntry t x y, ty1, p1, af1, none⟩).run E.P n1.w = .ok (.value (.tuple #[z1, goInt c])) (n1.w.putObj r o1) := by
    simp only [execOp, h2, hkey, Instr.mapEntry, Sem.run_bind, run_underlying (map_parts ht), Result.andThen_ok, run_getMap h4, hc.check, h7, run_setMap _ h4, Sem.run_pure, run_zeroValue' hi0 hz1]
    rfl
  have hoff : ∀ m ∈ F, ∀ b, hb (β m) = some b → b ≠ r := fun m hm b hb' e => by
    have := List.all_eq_true.1 hF m hm
    simp only [Bool.and_eq_true, Bool.not_eq_true'] at this
    obtain ⟨ob, hob⟩ := Option.isSome_iff_exists.1 this.2
    refine hB.apart m n b ob _ (beq_false.1 this.1) hob hl hb' ?_
    rw [h1, e]; rfl
  have hJ1 : ∀ w', (∀ m ∈ F, ∀ b o, hb (β m) = some b → n1.w.heap[b]? = some o → w'.heap[b]? = some o) → J w' := fun w' hw' => hJ0 w' fun m hm b o h1 h2 => hw' m hm b o h1 (grows_heap n1.grows h2)
  have hput : ∀ m ∈ F, ∀ b o, hb (β m) = some b → n1.w.heap[b]? = some o → (n1.w.putObj r o1).heap[b]? = some o := fun m hm b o h1 h2 => by
    rw [World.putObj_heap_other (hoff m hm b h1)]; exact h2
  refine wp_value hr1 ⟨hJ1 _ hput, ?_⟩
  have hlt := (Array.getElem?_eq_some_iff.1 h4).1
  have hB1 : StB E.C β ⟨env, (n, .map (ks ++ [key]) (vs ++ [z0])) :: H, gl⟩ a (n1.w.putObj r o1) := hB.setMap hl rfl (fun _ => trivial) (fun _ _ _ _ _ h => by cases h) h1 h4 (.inr fun kp => ⟨r, _, c + 1, h1, World.putObj_heap_same hlt, by
      rw [Array.toList_push, List.map_append]
      exact (RepB.keep kp _ _ h5).append ⟨_, [], rfl, RepD.keep kp _ _ (hkey ▸ hkr), rfl⟩, by
      rw [Array.toList_push, List.map_append]
      exact (RepB.keep kp _ _ h6).append ⟨_, [], rfl, hzr, rfl⟩, fun en' hen' => by
      rw [Array.toList_push] at hen'
      rcases List.mem_append.1 hen' with hen' | hen'
      · have := hbn _ hen'; omega
      · rw [List.mem_singleton] at hen'; subst hen'; exact Nat.lt_succ_self c⟩)
  have hunk1 : look 999999999 ((n, Ob.map (ks ++ [key]) (vs ++ [z0])) :: H) = none := by
    rw [look_cons]
    split
    · rename_i e; subst e; rw [hl] at hunk; cases hunk
    · exact hunk
  have hB2 := hB1.put hd1 (x := .tuple #[z1, goInt c]) (unk_rep hunk1 _)
  dsimp only
  rw [if_pos (wanted_none rfl _)]
  have hev1 : (a.put (some d1) (.tuple #[z1, goInt c])).eval (.tmp d1) = .tuple #[z1, goInt c] := by
    have := put_get a d1 (.tuple #[z1, goInt c]) (by rw [hB.size]; exact hd1) d1
    simp [Act.eval, Array.getD_eq_getD_getElem?, this]
  refine ⟨goInt c, fun w' => by simp [execOp, Instr.extract, hev1], ?_⟩
  intro n3
  rw [if_pos (wanted_none rfl _)]
  have hB3 := (hB2.put hd2 (x := goInt c) (unk_rep hunk1 _)).later n3.grows
  have h9 : n3.w.heap[r]? = some o1 := (n3.grows.block r (by rw [World.putObj_size]; exact hlt)).trans (World.putObj_heap_same hlt)
  have hev2 : ((a.put (some d1) (.tuple #[z1, goInt c])).put (some d2) (goInt c)).eval (.tmp d2) = goInt c := by
    have := put_get (a.put (some d1) (.tuple #[z1, goInt c])) d2 (goInt c) (by rw [hB2.size]; exact hd2) d2
    simp [Act.eval, Array.getD_eq_getD_getElem?, this]
  obtain ⟨r3, g1, g2⟩ := hB3.ev (x := x3) (v := .map n) hx3 hox3
  rw [h1] at g1
  cases g1
  have hzv := hB3.ev (x := z) hz hoz
  have hu3 : ToD ((n, Ob.map (ks ++ [key]) (vs ++ [z0])) :: H) v u := by
    cases hu with
    | d => exact .d _
    | @own m q e' sz' xs' hlm =>
      refine .own (e := e') ?_
      rw [look_cons]
      split
      · rename_i e9; subst e9; rw [hl] at hlm; cases hlm
      · exact hlm
    | nils => exact .nils _
  have hval := hu3.rep hB3 hzv
  have hfi : (es.push { key := keyV key, val := z1, born := c }).findIdx? (fun e => (e.born : Int) == (c : Int)) = some es.size := by
    have hnone : es.findIdx? (fun e => (e.born : Int) == (c : Int)) = none := by
      rw [Array.findIdx?_eq_none_iff]
      intro e he
      have := hbn e (by simpa using he)
      simp
      omega
    rw [Array.findIdx?_push, hnone]
    simp
  let o3 : Obj := .map ((es.push { key := keyV key, val := z1, born := c }).modify es.size fun e => { e with val := ((a.put (some d1) (.tuple #[z1, goInt c])).put (some d2) (goInt c)).eval z }) (c + 1)
  have hr3 : (execOp ((a.put (some d1) (.tuple #[z1, goInt c])).put (some d2) (goInt c)).eval ⟨none, .entryStore t x3 (.tmp d2) z, ty3, p3, af3, none⟩).run E.P n3.w = .ok .skip (n3.w.putObj r o3) := by
    have := run_entryStore (P := E.P) t h9 (c : Int) (((a.put (some d1) (.tuple #[z1, goInt c])).put (some d2) (goInt c)).eval z) hfi
    simp only [execOp, g2, hev2, Sem.run_bind]
    rw [show goInt (c : Int) = .int .i64 (c : Int) from rfl] at this ⊢
    rw [this]
    rfl
  have hput3 : ∀ m ∈ F, ∀ b o, hb (β m) = some b → n1.w.heap[b]? = some o → (n3.w.putObj r o3).heap[b]? = some o := fun m hm b o h1 h2 => by
    rw [World.putObj_heap_other (hoff m hm b h1)]; exact grows_heap n3.grows (hput m hm b o h1 h2)
  refine wp_skip' hr3 ⟨hJ1 _ hput3, ?_⟩
  have hpush : ((es.push { key := keyV key, val := z1, born := c }).modify es.size fun e => { e with val := ((a.put (some d1) (.tuple #[z1, goInt c])).put (some d2) (goInt c)).eval z }).toList = es.toList ++ [{ key := keyV key, val := ((a.put (some d1) (.tuple #[z1, goInt c])).put (some d2) (goInt c)).eval z, born := c }] := by
    rw [Array.toList_modify, Array.toList_push]
    have : es.size = es.toList.length := by simp
    rw [this, mod_last]
  have hB4 : StB E.C β ⟨(d2, unk) :: (d1, unk) :: env, (n, .map (ks ++ [key]) (vs ++ [u])) :: (n, .map (ks ++ [key]) (vs ++ [z0])) :: H, gl⟩ ((a.put (some d1) (.tuple #[z1, goInt c])).put (some d2) (goInt c)) (n3.w.putObj r o3) := by
    obtain ⟨r4, es4, c4, f1, f2, f3, f4, _⟩ := hB3.obs n (.map (ks ++ [key]) (vs ++ [z0])) (by show look n ((n, _) :: H) = _; rw [look_cons, if_pos rfl])
    rw [h1] at f1
    cases f1
    rw [h9] at f2
    simp only [o1, Option.some.injEq, Obj.map.injEq] at f2
    obtain ⟨rfl, rfl⟩ := f2
    rw [Array.toList_push, List.map_append] at f3 f4
    refine hB3.setMap (by show look n ((n, _) :: H) = _; rw [look_cons, if_pos rfl]) rfl (ob := .map (ks ++ [key]) (vs ++ [z0])) (fun _ => trivial) (fun _ _ _ _ _ h => by cases h) h1 h9 (.inr fun kp => ⟨r, _, c + 1, h1, World.putObj_heap_same (Array.getElem?_eq_some_iff.1 h9).1, ?_, ?_, ?_⟩)
    · rw [hpush, List.map_append]
      exact RepB.keep kp _ _ f3
    · rw [hpush, List.map_append]
      obtain ⟨u1, u2, e1, e2, e3⟩ := RepB.split (RepB.keep kp _ _ f4)
      have l3 := e3.length
      have : u1 = es.toList.map (·.val) := by
        refine (List.append_inj' e1.symm ?_).1
        simp [l3]
      rw [this] at e2
      exact e2.append ⟨_, [], rfl, RepD.keep kp _ _ hval, rfl⟩
    · intro en' hen'
      rw [hpush] at hen'
      rcases List.mem_append.1 hen' with hen' | hen'
      · have := hbn _ hen'; omega
      · rw [List.mem_singleton] at hen'; subst hen'; exact Nat.lt_succ_self c
  refine h β _ _ J (hB4.weak (fun t v h => h) (fun m ob hm => ?_) (fun _ _ h => h) (fun m hm => ?_)) (fun w' hw' => hJ1 w' fun m hm b o h1 h2 => hw' m hm b o h1 (hput3 m hm b o h1 h2))
  · dsimp only at hm ⊢
    rw [look_cons] at hm ⊢
    split
    · rename_i e9; rw [if_pos e9] at hm; exact hm
    · rename_i e9; rw [if_neg e9] at hm; rw [look_cons, if_neg e9]; exact hm
  · have := hB.has m hm
    dsimp only at this ⊢
    rw [look_cons]
    split
    · rfl
    · exact this
end
end Go.Proofs.YtcblefmjacofgaaGreatDoor
namespace Go.Proofs.YtcblefmjacofgaaGreatDoor
open Go.RowKit
theorem Wk.refl (C : Ctx) (S : Sd) : Wk C S S := fun _ _ h => h
theorem tc_mid {E : Set} {Q : Exit → Sd → Prop} {S S' : Sd} {x y : Code} (h1 : TC E x (Exit.thenD (fun S1 => Wk E.C S1 S') Q) S) (h2 : TC E y Q S') : TC E (.seq x y) Q S :=
  tc_seq fun K hK => tc_mono h1 fun e S1 h => match e, h with
    | .normal, h => hK _ (tc_weak h h2)
    | .ret, h => h
    | .exit _, h => h
    | .panic _, h => h
    | .goto _, h => h
    | .outgrown, h => h
theorem tc_keep {E : Set} {Q : Exit → Sd → Prop} {c : Code} {env : List (Nat × V)} {H : List (Nat × Ob)} {gl : List (Nat × List D)} (ts : List Nat) {env' : List (Nat × V)} {H' : List (Nat × Ob)} (h : TC E c Q ⟨env', H', gl⟩) (hts : nodupN ts = true := by exact rfl) (hk : Keep ts env env' := by (repeat (first | exact Keep.nil _ | apply Keep.drop rfl rfl | apply Keep.take rfl | apply Keep.ghost rfl)); fail_if_success intros) (hh : KeepH [] H H' := by (repeat (first | exact KeepH.nil _ | apply KeepH.take rfl | apply KeepH.drop rfl)); fail_if_success intros) : TC E c Q ⟨env, H, gl⟩ :=
  tc_weak (S' := ⟨env', H', gl⟩) (fun a w ⟨β, hB⟩ => ⟨β, hB.weak (fun t v hl => hk.look (nodupN_iff hts) hl) (fun n ob hl => by
    have := hh.look (n := n) (by simp)
    dsimp only at hl ⊢
    rw [← this]; exact hl) (fun _ _ h => h) (fun n hn => by
    have := hh.look (n := n) (by simp)
    dsimp only
    rw [this]; exact hB.has n hn)⟩) h
section
variable {E : Set} {S : Sd} {dst : Option Tmp} {ty : TypeId} {pos : String} {af : Array Edge} {gd : Option (Nat × Bool)}
theorem w_build0 {t n e sz : Nat} {vs : List V} {zs : List D} [ht : TArray E.P t n e sz] [hz : TZero E.P t vs] (hzd : ZeroD vs zs := by (repeat (first | exact ZeroD.nil | apply ZeroD.d | apply ZeroD.nils)); fail_if_success intros) : Swift E S ⟨dst, .build t #[], ty, pos, af, gd⟩ (.d (.agg zs)) := Swift.mk fun β a w h => by
  obtain ⟨ie, hu, hie, hs, hpos⟩ := array_parts ht
  obtain ⟨i, z, hi, hiz, h1, _⟩ := zero_parts hz
  refine ⟨.agg z.cells.toList.toArray, fun w' _ => ?_, _, rfl, zeroD_rep (w := w) (M := Mut E.C.M0 β S.H) hzd h1⟩
  simp only [execOp, Sem.run_bind, Instr.build, zeroValue, typeInfo, hi, hiz, run_underlying hu, Sem.run_pure, Result.andThen_ok, program, Sem.run, run_size hie, Array.toArray_toList]
  simp [Instr.fill]
end
end Go.Proofs.YtcblefmjacofgaaGreatDoor
namespace Go.Proofs.YtcblefmjacofgaaGreatDoor
open Go.RowKit
section
variable {E : Set} {Q : Exit → Sd → Prop} {ops : Array Oper} {draw : Bool} {rest : Todo} {way : Way3} {ty : TypeId} {pos : String} {af : Array Edge} {gd : Option (Nat × Bool)} {dst : Option Tmp}
variable {env : List (Nat × V)} {H : List (Nat × Ob)} {gl : List (Nat × List D)} {d : Nat}
theorem RepL.replicate_nils {w : World} {M : Nat → Nat → Prop} {β : Nat → Value} {H : List (Nat × Ob)} (sz : Nat) : ∀ m, RepL w M β H (List.replicate m (.nils sz)) (List.replicate m (.slice none 0 0))
  | 0 => rfl
  | m + 1 => ⟨_, _, rfl, rfl, RepL.replicate_nils sz m⟩
theorem tc_imap {c : Code} (n m sz : Nat) (hn : look n H = some (.map [] [])) (h : TC E c Q ⟨env, (n, .imap (List.replicate m (.nils sz))) :: H, gl⟩) : TC E c Q ⟨env, H, gl⟩ := fun a w ⟨β, hB⟩ => by
  refine h a w ⟨β, ?_⟩
  have hH : ∀ q e' sz' sh' xs' k', look q ((n, Ob.imap (List.replicate m (.nils sz))) :: H) = some (.row e' sz' sh' xs' k') → ∃ sh' xs', look q H = some (.row e' sz' sh' xs' k') := fun q e' sz' sh' xs' k' hm => by
    rw [look_set] at hm
    split at hm
    · cases hm
    · exact ⟨sh', xs', hm⟩
  refine hB.turn hn (fun _ _ => rfl) rfl rfl rfl (Nat.le_refl _) (fun _ _ _ => rfl) (fun b h => .inl h) (fun _ _ _ _ _ h => h) (fun _ _ _ _ _ => trivial)
    (fun k t x v _ => RepV.keep k (fun _ => rfl) hH x v) (fun _ => rfl) (fun k m cs vs _ _ => RepL.keep k (fun _ => rfl) hH cs vs) (fun k => ?_)
  obtain ⟨r, es, clock, h1, h2, h3, _, h4⟩ := hB.obs n _ hn
  have he : es.toList = [] := by
    simp only [RepB] at h3
    exact List.map_eq_nil_iff.1 h3
  refine ⟨r, es, clock, _, h1, h2, RepL.replicate_nils sz m, ?_⟩
  rw [he]
  refine ⟨(fun e h => by cases h), fun i x hx hne => ?_, .nil, (fun e h => by cases h)⟩
  have := List.mem_of_getElem? hx
  rw [List.mem_replicate] at this
  exact absurd this.2 hne
def iKeys (es : List MapEntry) : List D := es.map fun e => match e.key with | .int k n => .int k n | _ => .int .i64 0
theorem IMap.keys {es : List MapEntry} {c : Nat} {vs : List Value} (h : IMap es c vs) (w : World) (M : Nat → Nat → Prop) : RepB w M (iKeys es) (es.map (·.key)) ∧ (∀ y ∈ iKeys es, ∃ i : Nat, y = .int .i64 i) := by
  have key : ∀ l : List MapEntry, (∀ e ∈ l, ∃ i : Nat, e.key = .int .i64 i) → RepB w M (iKeys l) (l.map (·.key)) ∧ (∀ y ∈ iKeys l, ∃ i : Nat, y = .int .i64 i) := by
    intro l
    induction l with
    | nil => intro _; exact ⟨rfl, fun y h => by cases h⟩
    | cons e l ih =>
      intro hl
      obtain ⟨i, hi⟩ := hl e List.mem_cons_self
      obtain ⟨h1, h2⟩ := ih (fun e' h' => hl e' (List.mem_cons_of_mem _ h'))
      have e1 : iKeys (e :: l) = .int .i64 i :: iKeys l := by simp only [iKeys, List.map_cons, hi]
      rw [e1]
      refine ⟨⟨_, _, by rw [List.map_cons, hi], rfl, h1⟩, fun y hy => ?_⟩
      rcases List.mem_cons.1 hy with rfl | hy
      · exact ⟨i, rfl⟩
      · exact h2 y hy
  exact key es fun e he => by obtain ⟨i, h1, _⟩ := h.here e he; exact ⟨i, h1⟩
theorem iKeys_at {es : List MapEntry} {c : Nat} {vs : List Value} (h : IMap es c vs) {j : Nat} {i : Nat} (hj : (iKeys es)[j]? = some (.int .i64 i)) : ∃ e, es[j]? = some e ∧ e.key = .int .i64 i ∧ vs[i]? = some e.val := by
  unfold iKeys at hj
  rw [List.getElem?_map] at hj
  obtain ⟨e, he, h1⟩ := Option.map_eq_some_iff.1 hj
  obtain ⟨i', h2, h3⟩ := h.here e (List.mem_of_getElem? he)
  rw [h2] at h1
  simp only [D.int.injEq, true_and] at h1
  have : i' = i := by omega
  subst this
  exact ⟨e, he, h2, h3⟩
theorem iKeys_not {es : List MapEntry} {c : Nat} {vs : List Value} (h : IMap es c vs) {i : Nat} {x : Value} (hn : D.int .i64 i ∉ iKeys es) (hx : vs[i]? = some x) : x = .slice none 0 0 := by
  refine Classical.byContradiction fun hne => ?_
  obtain ⟨e, h1, h2⟩ := h.all i x hx hne
  exact hn (List.mem_map.2 ⟨e, h1, by rw [h2]⟩)
theorem q_ilookup {S : Sd} {t k e n i : Nat} {x y : Operand} {cs : List V} {v : V} {p : Int} {sz : Nat} [ht : TMap E.P t k e] [hkk : TKey E.P k (.int .i64)] [hz : TZeroV E.P e (.nils sz)] (hx : S.ev x = some (.map n)) (hox : okOp x = true) (hl : look n S.H = some (.imap cs)) (hy : S.ev y = some (.d (.int .i64 p))) (hoy : okOp y = true) (hp : p = (i : Nat)) (hv : cs[i]? = some v) :
    Quiet E S ⟨dst, .lookup t x y false, ty, pos, af, gd⟩ v := Quiet.mk fun β a w h => by
  subst hp
  obtain ⟨r, h1, h2⟩ := h.ev hx hox
  obtain ⟨r', es, c, vs, h3, h4, h5, h6⟩ := h.obs n _ hl
  rw [h1] at h3
  cases h3
  obtain ⟨u, hu1, hu2⟩ := h5.get hv
  have hkey : a.eval y = keyV (.int .i64 i) := h.ev hy hoy
  obtain ⟨hk1, hk2⟩ := h6.keys w (Mut E.C.M0 β S.H)
  have hk : ∀ y ∈ iKeys es.toList, Comp (.int .i64) (.int .i64 i) y := fun y hy => by obtain ⟨j, rfl⟩ := hk2 y hy; exact .int _ _ _
  refine ⟨u, fun w' g => ?_, hu2⟩
  obtain ⟨q, q1, q2⟩ := findKey_run (P := E.P) (t := k) (x := .int .i64 i) w' es.toList (keys_comp hk1 hk)
  have hc : Comp (.int .i64) (.int .i64 i) (.int .i64 i) := .int _ _ _
  by_cases hm : D.int .i64 i ∈ iKeys es.toList
  · obtain ⟨j, hj, hf⟩ := first_at hm
    obtain ⟨en, e1, e2, rfl⟩ := found_hit hk1 hk hj hf q2
    obtain ⟨en', e3, _, e4⟩ := iKeys_at h6 hj
    rw [e1] at e3
    cases e3
    rw [hu1] at e4
    cases e4
    simp only [execOp, h2, hkey, Instr.lookup, Sem.run_bind, run_underlying (map_parts ht), Result.andThen_ok, run_getMap (grows_heap g h4), Sem.run_pure, hc.check, q1]
    rfl
  · have := found_miss hk1 hk hm q2
    subst this
    obtain ⟨ie, z, hi, hzi, hzr⟩ := zeroV_rep hz
    have hz0 : z = .slice none 0 0 := hzr (w := w) (M := Mut E.C.M0 β S.H) (β := β) (H := S.H)
    have hu0 := iKeys_not h6 hm hu1
    subst hz0 hu0
    simp only [execOp, h2, hkey, Instr.lookup, Sem.run_bind, run_underlying (map_parts ht), Result.andThen_ok, run_getMap (grows_heap g h4), Sem.run_pure, hc.check, q1, run_zeroValue' hi hzi]
    rfl
theorem IMap.hit {es : List MapEntry} {c : Nat} {vs : List Value} (h : IMap es c vs) {j i : Nat} {e : MapEntry} (he : es[j]? = some e) (hk : e.key = .int .i64 i) (hi : i < vs.length) (u : Value) : IMap (es.modify j fun x => { x with key := e.key, val := u }) c (vs.set i u) := by
  have hj := (List.getElem?_eq_some_iff.1 he).1
  have uniq : ∀ (j' : Nat) e', es[j']? = some e' → e'.key = e.key → j' = j := fun j' e' h1 h2 => by
    obtain ⟨hj', rfl⟩ := List.getElem?_eq_some_iff.1 h1
    obtain ⟨_, rfl⟩ := List.getElem?_eq_some_iff.1 he
    rcases Nat.lt_trichotomy j' j with hlt | hlt | hlt
    · exact absurd h2 (List.pairwise_iff_getElem.1 h.one j' j hj' hj hlt)
    · exact hlt
    · exact absurd h2.symm (List.pairwise_iff_getElem.1 h.one j j' hj hj' hlt)
  refine ⟨fun e' he' => ?_, fun i' x hx hne => ?_, ?_, fun e' he' => ?_⟩
  · obtain ⟨j', hj'⟩ := List.mem_iff_getElem?.1 he'
    rw [List.getElem?_modify] at hj'
    split at hj'
    · rename_i hjj
      subst hjj
      rw [he] at hj'
      simp only [Option.map_eq_map, Option.map_some, Option.some.injEq] at hj'
      subst hj'
      exact ⟨i, hk, by rw [List.getElem?_set_self hi]⟩
    · rename_i hjj
      simp only [Option.map_eq_map, Option.map_id_fun', id_eq] at hj'
      obtain ⟨i', h1, h2⟩ := h.here e' (List.mem_of_getElem? hj')
      refine ⟨i', h1, ?_⟩
      rw [List.getElem?_set_ne, h2]
      rintro rfl
      exact hjj (uniq j' e' hj' (h1.trans hk.symm)).symm
  · by_cases hii : i' = i
    · subst hii
      exact ⟨{ key := e.key, val := u, born := e.born }, List.mem_of_getElem? (i := j) (by rw [List.getElem?_modify, he]; simp), hk⟩
    · rw [List.getElem?_set_ne (Ne.symm hii)] at hx
      obtain ⟨e', h1, h2⟩ := h.all i' x hx hne
      obtain ⟨j', hj'⟩ := List.mem_iff_getElem?.1 h1
      have hjj : j ≠ j' := by
        rintro rfl
        rw [he] at hj'
        cases hj'
        rw [hk] at h2
        simp only [Value.int.injEq, true_and] at h2
        omega
      refine ⟨e', List.mem_of_getElem? (i := j') ?_, h2⟩
      rw [List.getElem?_modify, hj']
      simp [hjj]
  · have := (map_set he (u := u)).1
    rw [← List.pairwise_map (f := fun x : MapEntry => x.key) (R := fun a b => a ≠ b), this, List.pairwise_map]
    exact h.one
  · obtain ⟨j', hj'⟩ := List.mem_iff_getElem?.1 he'
    rw [List.getElem?_modify] at hj'
    split at hj'
    · rename_i hjj
      subst hjj
      rw [he] at hj'
      simp only [Option.map_eq_map, Option.map_some, Option.some.injEq] at hj'
      subst hj'
      exact h.born e (List.mem_of_getElem? he)
    · simp only [Option.map_eq_map, Option.map_id_fun', id_eq] at hj'
      exact h.born e' (List.mem_of_getElem? hj')
theorem IMap.more {es : List MapEntry} {c : Nat} {vs : List Value} (h : IMap es c vs) {i : Nat} (hn : D.int .i64 i ∉ iKeys es) (hi : i < vs.length) (u : Value) : IMap (es ++ [{ key := .int .i64 i, val := u, born := c }]) (c + 1) (vs.set i u) := by
  have hno : ∀ e ∈ es, e.key ≠ .int .i64 i := fun e he hk => hn (List.mem_map.2 ⟨e, he, by rw [hk]⟩)
  refine ⟨fun e' he' => ?_, fun i' x hx hne => ?_, ?_, fun e' he' => ?_⟩
  · rcases List.mem_append.1 he' with he' | he'
    · obtain ⟨i', h1, h2⟩ := h.here e' he'
      refine ⟨i', h1, ?_⟩
      rw [List.getElem?_set_ne, h2]
      rintro rfl
      exact hno e' he' h1
    · rw [List.mem_singleton] at he'
      subst he'
      exact ⟨i, rfl, by rw [List.getElem?_set_self hi]⟩
  · by_cases hii : i' = i
    · subst hii
      exact ⟨_, List.mem_append_right _ List.mem_cons_self, rfl⟩
    · rw [List.getElem?_set_ne (Ne.symm hii)] at hx
      obtain ⟨e', h1, h2⟩ := h.all i' x hx hne
      exact ⟨e', List.mem_append_left _ h1, h2⟩
  · rw [List.pairwise_append]
    exact ⟨h.one, List.pairwise_singleton .., fun a ha b hb => by rw [List.mem_singleton] at hb; subst hb; exact hno a ha⟩
  · rcases List.mem_append.1 he' with he' | he'
    · have := h.born e' he'; omega
    · rw [List.mem_singleton] at he'; subst he'; exact Nat.lt_succ_self c
theorem t_iupdate {S : Sd} {t k e n i : Nat} {x y z : Operand} {cs : List V} {v : V} {p : Int} [ht : TMap E.P t k e] [hkk : TKey E.P k (.int .i64)] (hx : S.ev x = some (.map n)) (hox : okOp x = true) (hl : look n S.H = some (.imap cs)) (hy : S.ev y = some (.d (.int .i64 p))) (hoy : okOp y = true) (hz : S.ev z = some v) (hoz : okOp z = true)
    (hown : ownOk S v = true) (hp : p = (i : Nat)) (hi : i < cs.length) : Turn E S ⟨none, .mapUpdate t x y z, ty, pos, af, gd⟩ { S with H := (n, .imap (cs.set i v)) :: S.H } := Turn.mk fun β a w h => by
  subst hp
  obtain ⟨r, h1, h2⟩ := h.ev hx hox
  obtain ⟨r', es, c, vs, h3, h4, h5, h6⟩ := h.obs n _ hl
  rw [h1] at h3
  cases h3
  have hkey : a.eval y = keyV (.int .i64 i) := h.ev hy hoy
  have hval := h.ev hz hoz
  obtain ⟨hk1, hk2⟩ := h6.keys w (Mut E.C.M0 β S.H)
  have hk : ∀ y ∈ iKeys es.toList, Comp (.int .i64) (.int .i64 i) y := fun y hy => by obtain ⟨j, rfl⟩ := hk2 y hy; exact .int _ _ _
  have hc : Comp (.int .i64) (.int .i64 i) (.int .i64 i) := .int _ _ _
  have hH : ∀ m e' sz' sh' xs' k', look m ((n, Ob.imap (cs.set i v)) :: S.H) = some (.row e' sz' sh' xs' k') → ∃ sh' xs', look m S.H = some (.row e' sz' sh' xs' k') := fun m e' sz' sh' xs' k' hm => by
    rw [look_set] at hm
    split at hm
    · cases hm
    · exact ⟨sh', xs', hm⟩
  have hlv : i < vs.length := by rw [h5.length]; exact hi
  obtain ⟨q, q1, q2⟩ := findKey_run (P := E.P) (t := k) (x := .int .i64 i) w es.toList (keys_comp hk1 hk)
  by_cases hm : D.int .i64 i ∈ iKeys es.toList
  · obtain ⟨j, hj, hf⟩ := first_at hm
    obtain ⟨en, e1, e2, rfl⟩ := found_hit hk1 hk hj hf q2
    have hge : es[j]? = some en := by simpa using e1
    refine ⟨w.putObj r (.map (es.modify j fun x => { x with key := keyV (.int .i64 i), val := a.eval z }) c), ?_, β, h.setMap hl rfl (fun _ => trivial) (fun _ _ _ _ _ h => by cases h) h1 h4 (.inr fun kp => ⟨r, _, c, vs.set i (a.eval z), h1, World.putObj_heap_same (Array.getElem?_eq_some_iff.1 h4).1, ?_, ?_⟩)⟩
    · simp only [execOp, h2, hkey, Instr.mapUpdate, Sem.run_bind, run_underlying (map_parts ht), Result.andThen_ok, run_getMap h4, hc.check, q1, hge, Option.map_some, Option.getD_some, e2, hc.stays, run_setMap _ h4, Sem.run_pure]
    · exact (RepL.keep kp (fun _ => rfl) hH _ _ h5).set i (RepV.keep kp (fun _ => rfl) hH _ _ hval)
    · have := h6.hit e1 e2 hlv (a.eval z)
      rw [e2] at this
      rw [Array.toList_modify]
      exact this
  · have := found_miss hk1 hk hm q2
    subst this
    refine ⟨w.putObj r (.map (es.push { key := keyV (.int .i64 i), val := a.eval z, born := c }) (c + 1)), ?_, β, h.setMap hl rfl (fun _ => trivial) (fun _ _ _ _ _ h => by cases h) h1 h4 (.inr fun kp => ⟨r, _, c + 1, vs.set i (a.eval z), h1, World.putObj_heap_same (Array.getElem?_eq_some_iff.1 h4).1, ?_, ?_⟩)⟩
    · simp only [execOp, h2, hkey, Instr.mapUpdate, Sem.run_bind, run_underlying (map_parts ht), Result.andThen_ok, run_getMap h4, hc.check, q1, run_setMap _ h4, Sem.run_pure]
    · exact (RepL.keep kp (fun _ => rfl) hH _ _ h5).set i (RepV.keep kp (fun _ => rfl) hH _ _ hval)
    · rw [Array.toList_push]
      exact h6.more hm hlv (a.eval z)
theorem tc_nilbox {c : Code} (n m j : Nat) {e sz sz' : Nat} {cs : List V} (hl : look n H = some (.box cs)) (hj : cs[j]? = some (.nils sz')) (hn : Sd.fresh ⟨env, H, gl⟩ m = true) (h : TC E c Q ⟨env, (n, .box (cs.set j (.own m 0))) :: (m, .row e sz true [] 0) :: H, gl⟩) : TC E c Q ⟨env, H, gl⟩ := fun a w ⟨β, hB⟩ => by
  have hnm : m ≠ n := by
    rintro rfl
    have := Sd.fresh_none hn
    dsimp only at this
    rw [hl] at this
    cases this
  have h1 := hB.nilRow (e := e) (sz := sz) hn
  have hl2 : look n ((m, Ob.row e sz true [] 0) :: H) = some (.box cs) := by rw [look_cons, if_neg hnm]; exact hl
  have hH : ∀ q e' sz' sh' xs' k', look q ((n, Ob.box (cs.set j (.own m 0))) :: (m, Ob.row e sz true [] 0) :: H) = some (.row e' sz' sh' xs' k') → ∃ sh' xs', look q ((m, Ob.row e sz true [] 0) :: H) = some (.row e' sz' sh' xs' k') := fun q e' sz' sh' xs' k' hm => by
    rw [look_set] at hm
    split at hm
    · cases hm
    · exact ⟨sh', xs', hm⟩
  refine h a w ⟨_, h1.turn hl2 (fun _ _ => rfl) rfl rfl rfl (Nat.le_refl _) (fun _ _ _ => rfl) (fun b h => .inl h) (fun _ _ _ _ _ h => h) (fun _ _ _ _ _ => trivial)
    (fun k t x v _ => RepV.keep k (fun _ => rfl) hH x v) (fun _ => rfl) (fun k m cs vs _ _ => RepL.keep k (fun _ => rfl) hH cs vs) (fun k => ?_)⟩
  obtain ⟨b, vs, t, e1, e2, hL⟩ := h1.obs n _ hl2
  have hr := RepL.keep k (fun _ => rfl) hH _ _ hL
  obtain ⟨u, hu1, hu2⟩ := hr.get hj
  have hu : u = .slice none 0 0 := hu2
  subst hu
  have hs := hr.set j (x := .own m 0) (v := .slice none 0 0) (fun e' sz'' sh xs hl' => by rw [upd_same])
  rw [show vs.set j (.slice none 0 0) = vs from by
    obtain ⟨h3, h4⟩ := List.getElem?_eq_some_iff.1 hu1
    rw [← h4]; exact List.set_getElem_self h3] at hs
  exact ⟨b, vs, t, e1, e2, hs⟩
theorem tc_nilmap {c : Code} (n m j : Nat) {e sz sz' : Nat} {cs : List V} (hl : look n H = some (.imap cs)) (hj : cs[j]? = some (.nils sz')) (hn : Sd.fresh ⟨env, H, gl⟩ m = true) (h : TC E c Q ⟨env, (n, .imap (cs.set j (.own m 0))) :: (m, .row e sz true [] 0) :: H, gl⟩) : TC E c Q ⟨env, H, gl⟩ := fun a w ⟨β, hB⟩ => by
  have hnm : m ≠ n := by
    rintro rfl
    have := Sd.fresh_none hn
    dsimp only at this
    rw [hl] at this
    cases this
  have h1 := hB.nilRow (e := e) (sz := sz) hn
  have hl2 : look n ((m, Ob.row e sz true [] 0) :: H) = some (.imap cs) := by rw [look_cons, if_neg hnm]; exact hl
  have hH : ∀ q e' sz' sh' xs' k', look q ((n, Ob.imap (cs.set j (.own m 0))) :: (m, Ob.row e sz true [] 0) :: H) = some (.row e' sz' sh' xs' k') → ∃ sh' xs', look q ((m, Ob.row e sz true [] 0) :: H) = some (.row e' sz' sh' xs' k') := fun q e' sz' sh' xs' k' hm => by
    rw [look_set] at hm
    split at hm
    · cases hm
    · exact ⟨sh', xs', hm⟩
  refine h a w ⟨_, h1.turn hl2 (fun _ _ => rfl) rfl rfl rfl (Nat.le_refl _) (fun _ _ _ => rfl) (fun b h => .inl h) (fun _ _ _ _ _ h => h) (fun _ _ _ _ _ => trivial)
    (fun k t x v _ => RepV.keep k (fun _ => rfl) hH x v) (fun _ => rfl) (fun k m cs vs _ _ => RepL.keep k (fun _ => rfl) hH cs vs) (fun k => ?_)⟩
  obtain ⟨r, es, cl, vs, e1, e2, hL, e3⟩ := h1.obs n _ hl2
  have hr := RepL.keep k (fun _ => rfl) hH _ _ hL
  obtain ⟨u, hu1, hu2⟩ := hr.get hj
  have hu : u = .slice none 0 0 := hu2
  subst hu
  have hs := hr.set j (x := .own m 0) (v := .slice none 0 0) (fun e' sz'' sh xs hl' => by rw [upd_same])
  rw [show vs.set j (.slice none 0 0) = vs from by
    obtain ⟨h3, h4⟩ := List.getElem?_eq_some_iff.1 hu1
    rw [← h4]; exact List.set_getElem_self h3] at hs
  exact ⟨r, es, cl, vs, e1, e2, hs, e3⟩
end
end Go.Proofs.YtcblefmjacofgaaGreatDoor
namespace Go.Proofs.YtcblefmjacofgaaGreatDoor
open Go.RowKit
section
variable {E : Set} {Q : Exit → Sd → Prop} {ops : Array Oper} {draw : Bool} {rest : Todo}
variable {env : List (Nat × V)} {H : List (Nat × Ob)} {gl : List (Nat × List D)}
theorem keep_wk {C : Ctx} (ts : List Nat) {env' : List (Nat × V)} {H' : List (Nat × Ob)} (hts : nodupN ts = true) (hk : Keep ts env env') (hh : KeepH [] H H') : Wk C ⟨env, H, gl⟩ ⟨env', H', gl⟩ := fun a w ⟨β, hB⟩ => ⟨β, hB.weak (fun t v hl => hk.look (nodupN_iff hts) hl) (fun n ob hl => by
    have := hh.look (n := n) (by simp)
    dsimp only at hl ⊢
    rw [← this]; exact hl) (fun _ _ h => h) (fun n hn => by
    have := hh.look (n := n) (by simp)
    dsimp only
    rw [this]; exact hB.has n hn)⟩
theorem tr_keep (ts : List Nat) {env' : List (Nat × V)} {H' : List (Nat × Ob)} (h : TR E draw ops Q rest ⟨env', H', gl⟩) (hts : nodupN ts = true := by exact rfl) (hk : Keep ts env env' := by (repeat (first | exact Keep.nil _ | apply Keep.drop rfl rfl | apply Keep.take rfl | apply Keep.ghost rfl)); fail_if_success intros) (hh : KeepH [] H H' := by (repeat (first | exact KeepH.nil _ | apply KeepH.take rfl | apply KeepH.drop rfl)); fail_if_success intros) : TR E draw ops Q rest ⟨env, H, gl⟩ :=
  fun a w hS => h a w (keep_wk ts hts hk hh a w hS)
theorem tr_weak {S S' : Sd} (hw : Wk E.C S S') (h : TR E draw ops Q rest S') : TR E draw ops Q rest S := fun a w hS => h a w (hw a w hS)
inductive Drop {α : Type} (ts : List Nat) : List (Nat × α) → List (Nat × α) → Prop
  | nil : Drop ts [] []
  | take {t : Nat} {v : α} {l r : List (Nat × α)} (h : memN t ts = false) (k : Drop ts l r) : Drop ts ((t, v) :: l) ((t, v) :: r)
  | drop {t : Nat} {v : α} {l r : List (Nat × α)} (h : memN t ts = true) (k : Drop ts l r) : Drop ts ((t, v) :: l) r
theorem tc_famx {c : Code} {ι : Type} (ts ns : List Nat) (ch : ι → List (Nat × V)) (oh : ι → List (Nat × Ob)) (P : ι → Prop) (m : ι → Nat) (i0 : ι) {env' : List (Nat × V)} {H' : List (Nat × Ob)} (hp : P i0) (_hd : Drop ts env env') (_hn : Drop ns H H')
    (h0 : Wk E.C ⟨env, H, gl⟩ ⟨ch i0 ++ env', oh i0 ++ H', gl⟩) (round : ∀ i, P i → TC E c (Exit.thenD (fun S' => ∃ j, P j ∧ m j < m i ∧ Wk E.C S' ⟨ch j ++ env', oh j ++ H', gl⟩) Q) ⟨ch i ++ env', oh i ++ H', gl⟩) : TC E (.loop c) Q ⟨env, H, gl⟩ :=
  tc_fam (fun i => ⟨ch i ++ env', oh i ++ H', gl⟩) P m i0 hp h0 round
end
inductive Pures : List V → Prop
  | nil : Pures []
  | cons {v : V} {vs : List V} (h : Pure v) (t : Pures vs) : Pures (v :: vs)
theorem Pures.all {vs : List V} (h : Pures vs) : ∀ v ∈ vs, Pure v := by
  induction h with
  | nil => intro v hv; cases hv
  | cons h _ ih =>
    intro v hv
    rcases List.mem_cons.1 hv with rfl | hv
    · exact h
    · exact ih v hv
theorem Drop.look {α : Type} {ts : List Nat} {l r : List (Nat × α)} (h : Drop ts l r) : ∀ {n : Nat} {v : α}, Go.Proofs.YtcblefmjacofgaaGreatDoor.look n r = some v → Go.Proofs.YtcblefmjacofgaaGreatDoor.look n l = some v := by
  have key : ∀ {n : Nat} {v : α}, Go.Proofs.YtcblefmjacofgaaGreatDoor.look n r = some v → memN n ts = false ∧ Go.Proofs.YtcblefmjacofgaaGreatDoor.look n l = some v := by
    induction h with
    | nil => intro n v h; cases h
    | @take t u l r h k ih =>
      intro n v hl
      rw [look_cons] at hl ⊢
      split at hl
      · rename_i e; subst e; exact ⟨h, by rw [if_pos rfl]; exact hl⟩
      · rename_i e; rw [if_neg e]; exact ih hl
    | @drop t u l r h k ih =>
      intro n v hl
      obtain ⟨h1, h2⟩ := ih hl
      refine ⟨h1, ?_⟩
      rw [look_cons, if_neg]
      · exact h2
      · rintro rfl; rw [h] at h1; cases h1
  intro n v hl
  exact (key hl).2
theorem tr_drop {E : Set} {Q : Exit → Sd → Prop} {ops : Array Oper} {draw : Bool} {rest : Todo} {env : List (Nat × V)} {H : List (Nat × Ob)} {gl : List (Nat × List D)} (ns : List Nat) {H' : List (Nat × Ob)} (hd : Drop ns H H') (hN : (E.C.N.all fun n => (look n H').isSome) = true) (h : TR E draw ops Q rest ⟨env, H', gl⟩) : TR E draw ops Q rest ⟨env, H, gl⟩ :=
  fun a w ⟨β, hB⟩ => h a w ⟨β, hB.weak (fun _ _ h => h) (fun n ob hl => hd.look hl) (fun _ _ h => h) (fun n hn => List.all_eq_true.1 hN n hn)⟩
theorem tr_drope {E : Set} {Q : Exit → Sd → Prop} {ops : Array Oper} {draw : Bool} {rest : Todo} {env : List (Nat × V)} {H : List (Nat × Ob)} {gl : List (Nat × List D)} (ts : List Nat) {env' : List (Nat × V)} (hd : Drop ts env env') (h : TR E draw ops Q rest ⟨env', H, gl⟩) : TR E draw ops Q rest ⟨env, H, gl⟩ :=
  fun a w ⟨β, hB⟩ => h a w ⟨β, hB.weak (fun n v hl => hd.look hl) (fun _ _ h => h) (fun _ _ h => h) hB.has⟩
section
variable {E : Set} {Q : Exit → Sd → Prop} {ops : Array Oper} {draw : Bool} {rest : Todo} {way : Way3} {ty : TypeId} {pos : String} {af : Array Edge} {gd : Option (Nat × Bool)}
variable {env : List (Nat × V)} {H : List (Nat × Ob)} {gl : List (Nat × List D)} {d : Nat}
theorem s_callG {f : Nat} {fx : Operand} {xs : List Operand} {ats : Array TypeId} {fs gs vs args : List V} {R : V → List (Nat × Ob) → Prop} [hf : TFun E.P f] (hfx : Sd.ev ⟨env, H, gl⟩ fx = some (.clo (.func f) fs gs)) (hof : okOp fx = true) (hx : Evs ⟨env, H, gl⟩ xs vs) (ha : ArgsE H (fs ++ vs ++ gs) args)
    (hc : FnE E.P gl f args [] R) (hp : Pures args) (hd : d < E.C.nt) (hg : Sd.gd ⟨env, H, gl⟩ ops ⟨some d, .call { callee := .value fx, args := xs.toArray, argTypes := ats }, ty, pos, af, gd⟩ = some true) (hw : way.loud = true)
    (h : ∀ v H1, R v H1 → freshNew ⟨env, H, gl⟩ [] H1 = true ∧ TR E draw ops Q rest ⟨(d, v) :: env, H1 ++ H, gl⟩) : TR E draw ops Q (.step ⟨some d, .call { callee := .value fx, args := xs.toArray, argTypes := ats }, ty, pos, af, gd⟩ way rest) ⟨env, H, gl⟩ := fun a w hS => by
  have hS0 := hS
  have key : ∀ w1, Grows w w1 → ∀ K : Act → World → Prop, (∀ v H1 a2 w2, R v H1 → Grows w1 w2 → St E.C ⟨(d, v) :: env, H1 ++ H, gl⟩ a2 w2 → K a2 w2) → (⟨some d, .call { callee := .value fx, args := xs.toArray, argTypes := ats }, ty, pos, af, gd⟩ : Oper).wp E.P a w1 K (Qof E.C Q) := fun w1 g K hK => by
    obtain ⟨β, hB⟩ := hS.later g
    obtain ⟨fs', gs', h1, h2, h3⟩ := hB.ev hfx hof
    unfold Oper.wp
    rw [run_callV hf a h1 xs ats (some d) w1, Oper.upon_enter]
    let M : Nat → Nat → Prop := fun b o => E.C.M0 b o ∨ ∃ m ob, look m H = some ob ∧ look m ([] : List (Nat × Ob)) = none ∧ hb (β m) = some b ∧ ob.mut o
    have hMut : Mut M β [] = Mut E.C.M0 β H := by
      funext b o
      apply propext
      constructor
      · rintro ((hm | ⟨m, ob, q1, _, q2, q3⟩) | ⟨n, ob, q1, q2, q3⟩)
        · exact .inl hm
        · exact .inr ⟨m, ob, q1, q2, q3⟩
        · cases q1
      · rintro (hm | ⟨n, ob, q1, q2, q3⟩)
        · exact .inl (.inl hm)
        · exact .inl (.inr ⟨n, ob, q1, rfl, q2, q3⟩)
    have hargs := ha.rep hB (RepL.app (RepL.app h2 (hx.rep hB)) h3)
    refine (hc w1 M β _ ?_ ?_ ⟨(fun n ob hl => by cases hl), (fun n m b ob ob' hne q1 q2 => by cases q1), (fun n ob b o hl hb' hm => by cases hl)⟩ ?_).mono ?_
    · rintro b o (hm | ⟨m, ob, q1, _, q2, _⟩)
      · have := hB.low b o hm
        have := hB.frame.size
        omega
      · exact hB.old q1 q2
    · rw [hMut]
      exact RepL.pure (fun v hv u hu => (hp.all v hv).keep (Keeps.refl _ _) u hu) hargs
    · rw [hMut]
      exact hB.glob
    · rintro e w' ⟨v, x, H1, β1, hR, hok, rfl, hfr, hβ, hnew, ho, hv⟩
      obtain ⟨hf', _⟩ := h v H1 hR
      obtain ⟨β', hB', hv'⟩ := hB.called (H0 := []) (fun n ob hl => by cases hl) rfl rfl hok hfr hβ hnew ho hf' hv
      refine hK v H1 _ _ hR ?_ ⟨β', hB'.put hd hv'⟩
      have e0 : blks β [] = [] := rfl
      rw [e0] at hfr
      exact hfr.below
  cases draw with
  | true =>
    dsimp only
    cases way with
    | pure => cases hw
    | quiet => cases hw
    | grow =>
      simp only [wpMix3]
      intro n
      rw [Sd.gd_sound hS0 hg, if_pos rfl]
      exact key n.w n.grows _ fun v H1 a2 w2 hr g2 hs2 => ⟨g2, (h v H1 hr).2 _ _ hs2⟩
    | bar =>
      simp only [wpMix3]
      intro n
      rw [Sd.gd_sound hS0 hg, if_pos rfl]
      exact key n.w n.grows _ fun v H1 a2 w2 hr g2 hs2 => (h v H1 hr).2 _ _ hs2
  | false => exact listIn_of_wp hS0 hg rfl fun K hK => key w (Grows.refl w) K fun v H1 a2 w2 hr _ hs2 => hK _ _ ((h v H1 hr).2 _ _ hs2)
theorem z_iupdate (i : Nat) {t k e n : Nat} {x y z : Operand} {cs : List V} {v : V} {p : Int} [ht : TMap E.P t k e] [hkk : TKey E.P k (.int .i64)] (h : TR E draw ops Q rest ⟨env, (n, .imap (cs.set i v)) :: H, gl⟩) (hx : Sd.ev ⟨env, H, gl⟩ x = some (.map n) := by exact rfl) (hox : okOp x = true := by exact rfl) (hl : look n H = some (.imap cs) := by exact rfl)
    (hy : Sd.ev ⟨env, H, gl⟩ y = some (.d (.int .i64 p)) := by exact rfl) (hoy : okOp y = true := by exact rfl) (hz : Sd.ev ⟨env, H, gl⟩ z = some v := by exact rfl) (hoz : okOp z = true := by exact rfl) (hown : ownOk ⟨env, H, gl⟩ v = true := by first | exact rfl | exact ownOk_row rfl) (hp : p = (i : Nat) := by first | exact rfl | omega) (hi : i < cs.length := by first | decide | omega)
    (hg : Sd.gd ⟨env, H, gl⟩ ops ⟨none, .mapUpdate t x y z, ty, pos, af, gd⟩ = some true := by exact rfl) (hw : isBar draw way = true := by exact rfl) : TR E draw ops Q (.step ⟨none, .mapUpdate t x y z, ty, pos, af, gd⟩ way rest) ⟨env, H, gl⟩ :=
  tr_turn (t_iupdate hx hox hl hy hoy hz hoz hown hp hi) rfl hg rfl hw h
theorem z_ilookup (i : Nat) {t k e n sz : Nat} {x y : Operand} {cs : List V} {v : V} {p : Int} [ht : TMap E.P t k e] [hkk : TKey E.P k (.int .i64)] [hz : TZeroV E.P e (.nils sz)] (h : TR E draw ops Q rest ⟨(d, v) :: env, H, gl⟩) (hx : Sd.ev ⟨env, H, gl⟩ x = some (.map n) := by exact rfl) (hox : okOp x = true := by exact rfl) (hl : look n H = some (.imap cs) := by exact rfl)
    (hy : Sd.ev ⟨env, H, gl⟩ y = some (.d (.int .i64 p)) := by exact rfl) (hoy : okOp y = true := by exact rfl) (hp : p = (i : Nat) := by first | exact rfl | omega) (hv : cs[i]? = some v := by exact rfl) (hd : d < E.C.nt := by exact ltd rfl)
    (hg : Sd.gd ⟨env, H, gl⟩ ops ⟨some d, .lookup t x y false, ty, pos, af, gd⟩ = some true := by exact rfl) (hw : way.known = false := by exact rfl) : TR E draw ops Q (.step ⟨some d, .lookup t x y false, ty, pos, af, gd⟩ way rest) ⟨env, H, gl⟩ :=
  tr_quiet (q_ilookup hx hox hl hy hoy hp hv) rfl hd hg rfl hw h
end
end Go.Proofs.YtcblefmjacofgaaGreatDoor
namespace Go.Proofs.YtcblefmjacofgaaGreatDoor
open Go.RowKit
class TMixed (P : Program) : Prop where
  h : P.follows .mixedOrders = true
def wayN : Nat → Way3
  | 0 => .pure
  | 1 => .quiet
  | 2 => .grow
  | _ => .bar
def linT : List Nat → Plan → Plan
  | [], p => p
  | n :: r, p => .step (n / 4) (wayN (n % 4)) (linT r p)
def lin (l : List Nat) : Plan := linT l .nil
structure Halt (p : Prop) : Prop where
  go : p
theorem halt {p : Prop} (h : Halt p) : p := h.go
theorem unhalt {p : Prop} (h : p) : Halt p := ⟨h⟩
structure Step (A G : Prop) : Prop where
  go : A → G
structure Step2 (A B G : Prop) : Prop where
  go : A → B → G
inductive Unk : Bool → Prop
  | t : Unk true
  | f : Unk false
  | u (b : Bool) : Unk b
section
variable {E : Set} {Q : Exit → Sd → Prop} {S : Sd} {ops : Array Oper} {draw : Bool} {rest : Todo} {way : Way3} {o : Oper} {v : V} {ty : TypeId} {pos : String} {af : Array Edge} {gd : Option (Nat × Bool)} {dst : Option Tmp}
variable {env : List (Nat × V)} {H : List (Nat × Ob)} {gl : List (Nat × List D)} {d : Nat} {k : IntKind} {p q r : Int} {xt yt : TypeId} {x y : Operand}
theorem tr_at (d : Nat) {op : Op} (h : TR E draw ops Q (.step ⟨some d, op, ty, pos, af, gd⟩ way rest) S) : TR E draw ops Q (.step ⟨some d, op, ty, pos, af, gd⟩ way rest) S := h
theorem at_append {xs : Array Operand} {ats : Array TypeId} (h : TR E draw ops Q (.step ⟨dst, .call { callee := .builtin .append, args := xs, argTypes := ats }, ty, pos, af, gd⟩ way rest) S) : TR E draw ops Q (.step ⟨dst, .call { callee := .builtin .append, args := xs, argTypes := ats }, ty, pos, af, gd⟩ way rest) S := h
theorem at_call (f : Nat) {xs : Array Operand} {ats : Array TypeId} (h : TR E draw ops Q (.step ⟨dst, .call { callee := .value (.func f), args := xs, argTypes := ats }, ty, pos, af, gd⟩ way rest) S) : TR E draw ops Q (.step ⟨dst, .call { callee := .value (.func f), args := xs, argTypes := ats }, ty, pos, af, gd⟩ way rest) S := h
theorem at_nil (h : TR E draw ops Q .nil S) : TR E draw ops Q .nil S := h
theorem at_lookup {t : TypeId} {x y : Operand} {b : Bool} (h : TR E draw ops Q (.step ⟨dst, .lookup t x y b, ty, pos, af, gd⟩ way rest) S) : TR E draw ops Q (.step ⟨dst, .lookup t x y b, ty, pos, af, gd⟩ way rest) S := h
theorem tr_ix (i : Nat) (h : TR E draw ops Q (.step o way rest) S) (hi : nth ops.toList i = some o := by exact rfl) : TR E draw ops Q (.step o way rest) S := h
theorem tc_at (id : Nat) {dr : Bool} (h : TC E (.region id ops dr) Q S) : TC E (.region id ops dr) Q S := h
theorem s_bu {b : Bool} (h1 : b = true → TR E draw ops Q rest ⟨(d, .d (.bool true)) :: env, H, gl⟩) (h2 : b = false → TR E draw ops Q rest ⟨(d, .d (.bool false)) :: env, H, gl⟩) (hu : Unk b := by (fail_if_success exact Unk.t); (fail_if_success exact Unk.f); exact Unk.u _) : TR E draw ops Q rest ⟨(d, .d (.bool b)) :: env, H, gl⟩ := s_bv h1 h2
theorem st_p (hdst : o.dst = some d) (hg : Sd.gd ⟨env, H, gl⟩ ops o = some true) (hq : Swift E ⟨env, H, gl⟩ o v) (hd : d < E.C.nt) (hdf : isDefer o = false) : Step (TR E draw ops Q rest ⟨(d, v) :: env, H, gl⟩) (TR E draw ops Q (.step o way rest) ⟨env, H, gl⟩) := Step.mk fun h => s_p hq hdst hd hg hdf h
theorem st_q (hdst : o.dst = some d) (hg : Sd.gd ⟨env, H, gl⟩ ops o = some true) (hq : Quiet E ⟨env, H, gl⟩ o v) (hd : d < E.C.nt) (hdf : isDefer o = false) (hw : way.known = false) : Step (TR E draw ops Q rest ⟨(d, v) :: env, H, gl⟩) (TR E draw ops Q (.step o way rest) ⟨env, H, gl⟩) := Step.mk fun h => s_q hq hdst hd hg hdf hw h
theorem st_pass {o : Oper} (hdst : o.dst = some d) (hd : d < E.C.nt) (hg : Sd.gd ⟨env, H, gl⟩ ops o = some false) : Step (TR E draw ops Q rest ⟨(d, .tup []) :: env, H, gl⟩) (TR E draw ops Q (.step o way rest) ⟨env, H, gl⟩) := Step.mk fun h => z_pass h (hdst := hdst) (hd := hd) (hg := hg)
theorem st_pass0 (hdst : o.dst = none) (hg : S.gd ops o = some false) : Step (TR E draw ops Q rest S) (TR E draw ops Q (.step o way rest) S) := Step.mk fun h => z_pass0 h (hdst := hdst) (hg := hg)
theorem st_store {t n off m : Nat} {x y : Operand} {v : V} {vs cs cs' : List V} [ht : TSize E.P t m] (hx : Sd.ev ⟨env, H, gl⟩ x = some (.ptr n off)) (hox : okOp x = true) (hy : Sd.ev ⟨env, H, gl⟩ y = some v) (hoy : okOp y = true) (hown : ownOk ⟨env, H, gl⟩ v = true) (hl : look n H = some (.box cs)) (hc : CellsV v vs) (hm : vs.length = m) (hr : Repl cs off vs cs') (hg : Sd.gd ⟨env, H, gl⟩ ops ⟨none, .store t x y, ty, pos, af, gd⟩ = some true) (hw : isBar draw way = true) : Step (TR E draw ops Q rest ⟨env, (n, .box cs') :: H, gl⟩) (TR E draw ops Q (.step ⟨none, .store t x y, ty, pos, af, gd⟩ way rest) ⟨env, H, gl⟩) := Step.mk fun h => z_store h (hx := hx) (hox := hox) (hy := hy) (hoy := hoy) (hown := hown) (hl := hl) (hc := hc) (hm := hm) (hr := hr) (hg := hg) (hw := hw)
theorem st_store_el {t n k i e sz : Nat} {x y : Operand} {v : V} {z : D} {xs zs : List D} [ht : TSize E.P t sz] (hx : Sd.ev ⟨env, H, gl⟩ x = some (.el n k i 0)) (hox : okOp x = true) (hl : look n H = some (.row e sz false xs k)) (hy : Sd.ev ⟨env, H, gl⟩ y = some v) (hoy : okOp y = true) (hz : ToD H v z) (hc : CellsD z zs) (hm : zs.length = sz) (hi : i < xs.length) (hg : Sd.gd ⟨env, H, gl⟩ ops ⟨none, .store t x y, ty, pos, af, gd⟩ = some true) (hw : isBar draw way = true) : Step (TR E draw ops Q rest ⟨env, (n, .row e sz false (xs.set i z) k) :: H, gl⟩) (TR E draw ops Q (.step ⟨none, .store t x y, ty, pos, af, gd⟩ way rest) ⟨env, H, gl⟩) := Step.mk fun h => z_store_el h (hx := hx) (hox := hox) (hl := hl) (hy := hy) (hoy := hoy) (hz := hz) (hc := hc) (hm := hm) (hi := hi) (hg := hg) (hw := hw)
theorem st_store1 {t n off : Nat} {x y : Operand} {v : V} {cs : List V} [ht : TSize E.P t 1] (hx : Sd.ev ⟨env, H, gl⟩ x = some (.ptr n off)) (hox : okOp x = true) (hy : Sd.ev ⟨env, H, gl⟩ y = some v) (hoy : okOp y = true) (hown : ownOk ⟨env, H, gl⟩ v = true) (hl : look n H = some (.box cs)) (hc : CellsV v [v]) (hoff : off < cs.length) (hg : Sd.gd ⟨env, H, gl⟩ ops ⟨none, .store t x y, ty, pos, af, gd⟩ = some true) (hw : isBar draw way = true) : Step (TR E draw ops Q rest ⟨env, (n, .box (cs.set off v)) :: H, gl⟩) (TR E draw ops Q (.step ⟨none, .store t x y, ty, pos, af, gd⟩ way rest) ⟨env, H, gl⟩) := Step.mk fun h => z_store1 h (hx := hx) (hox := hox) (hy := hy) (hoy := hoy) (hown := hown) (hl := hl) (hc := hc) (hoff := hoff) (hg := hg) (hw := hw)
theorem t2_cmp {op : BinOp} {xt yt : TypeId} {x y : Operand} {k : IntKind} {p q : Int} (hop : isCmp op = true) (hx : Sd.ev ⟨env, H, gl⟩ x = some (.d (.int k p))) (hy : Sd.ev ⟨env, H, gl⟩ y = some (.d (.int k q))) (hox : okOp x = true) (hoy : okOp y = true) (hd : d < E.C.nt) (hg : Sd.gd ⟨env, H, gl⟩ ops ⟨some d, .binOp op xt x y yt, ty, pos, af, gd⟩ = some true) : Step2 (cmp op p q → TR E draw ops Q rest ⟨(d, .d (.bool true)) :: env, H, gl⟩) (¬ cmp op p q → TR E draw ops Q rest ⟨(d, .d (.bool false)) :: env, H, gl⟩) (TR E draw ops Q (.step ⟨some d, .binOp op xt x y yt, ty, pos, af, gd⟩ way rest) ⟨env, H, gl⟩) := Step2.mk fun h1 h2 => z_cmp h1 h2 (hop := hop) (hx := hx) (hy := hy) (hox := hox) (hoy := hoy) (hd := hd) (hg := hg)
theorem t2_str_eq {xt yt : TypeId} {x y : Operand} {s t : ByteArray} (hx : Sd.ev ⟨env, H, gl⟩ x = some (.d (.str s))) (hy : Sd.ev ⟨env, H, gl⟩ y = some (.d (.str t))) (hox : okOp x = true) (hoy : okOp y = true) (hd : d < E.C.nt) (hg : Sd.gd ⟨env, H, gl⟩ ops ⟨some d, .binOp .eql xt x y yt, ty, pos, af, gd⟩ = some true) : Step2 (s = t → TR E draw ops Q rest ⟨(d, .d (.bool true)) :: env, H, gl⟩) (¬ s = t → TR E draw ops Q rest ⟨(d, .d (.bool false)) :: env, H, gl⟩) (TR E draw ops Q (.step ⟨some d, .binOp .eql xt x y yt, ty, pos, af, gd⟩ way rest) ⟨env, H, gl⟩) := Step2.mk fun h1 h2 => z_str_eq h1 h2 (hx := hx) (hy := hy) (hox := hox) (hoy := hoy) (hd := hd) (hg := hg)
theorem t2_str_ne {xt yt : TypeId} {x y : Operand} {s t : ByteArray} (hx : Sd.ev ⟨env, H, gl⟩ x = some (.d (.str s))) (hy : Sd.ev ⟨env, H, gl⟩ y = some (.d (.str t))) (hox : okOp x = true) (hoy : okOp y = true) (hd : d < E.C.nt) (hg : Sd.gd ⟨env, H, gl⟩ ops ⟨some d, .binOp .neq xt x y yt, ty, pos, af, gd⟩ = some true) : Step2 (s = t → TR E draw ops Q rest ⟨(d, .d (.bool false)) :: env, H, gl⟩) (¬ s = t → TR E draw ops Q rest ⟨(d, .d (.bool true)) :: env, H, gl⟩) (TR E draw ops Q (.step ⟨some d, .binOp .neq xt x y yt, ty, pos, af, gd⟩ way rest) ⟨env, H, gl⟩) := Step2.mk fun h1 h2 => z_str_ne h1 h2 (hx := hx) (hy := hy) (hox := hox) (hoy := hoy) (hd := hd) (hg := hg)
theorem t2_agg_eq {t : Nat} {yt : TypeId} {x y : Operand} {ls : List Nat} {ds es : List D} {p : Prop} [ht : TEq E.P t ls] [hs : TAgg E.P t ls.length] (hx : Sd.ev ⟨env, H, gl⟩ x = some (.d (.agg ds))) (hy : Sd.ev ⟨env, H, gl⟩ y = some (.d (.agg es))) (hox : okOp x = true) (hoy : okOp y = true) (hE : EqC ls ds es p) (hd : d < E.C.nt) (hg : Sd.gd ⟨env, H, gl⟩ ops ⟨some d, .binOp .eql t x y yt, ty, pos, af, gd⟩ = some true) : Step2 (p → TR E draw ops Q rest ⟨(d, .d (.bool true)) :: env, H, gl⟩) (¬ p → TR E draw ops Q rest ⟨(d, .d (.bool false)) :: env, H, gl⟩) (TR E draw ops Q (.step ⟨some d, .binOp .eql t x y yt, ty, pos, af, gd⟩ way rest) ⟨env, H, gl⟩) := Step2.mk fun h1 h2 => z_agg_eq h1 h2 (hx := hx) (hy := hy) (hox := hox) (hoy := hoy) (hE := hE) (hd := hd) (hg := hg)
theorem t2_agg_ne {t : Nat} {yt : TypeId} {x y : Operand} {ls : List Nat} {ds es : List D} {p : Prop} [ht : TEq E.P t ls] [hs : TAgg E.P t ls.length] (hx : Sd.ev ⟨env, H, gl⟩ x = some (.d (.agg ds))) (hy : Sd.ev ⟨env, H, gl⟩ y = some (.d (.agg es))) (hox : okOp x = true) (hoy : okOp y = true) (hE : EqC ls ds es p) (hd : d < E.C.nt) (hg : Sd.gd ⟨env, H, gl⟩ ops ⟨some d, .binOp .neq t x y yt, ty, pos, af, gd⟩ = some true) : Step2 (p → TR E draw ops Q rest ⟨(d, .d (.bool false)) :: env, H, gl⟩) (¬ p → TR E draw ops Q rest ⟨(d, .d (.bool true)) :: env, H, gl⟩) (TR E draw ops Q (.step ⟨some d, .binOp .neq t x y yt, ty, pos, af, gd⟩ way rest) ⟨env, H, gl⟩) := Step2.mk fun h1 h2 => z_agg_ne h1 h2 (hx := hx) (hy := hy) (hox := hox) (hoy := hoy) (hE := hE) (hd := hd) (hg := hg)
theorem st_block {id : Nat} {c : Code} : Step (TC E c (Exit.inBlockD id Q) S) (TC E (.block id c) Q S) := Step.mk tc_block
theorem st_cond_t {c : Operand} {x y : Code} (hc : S.ev c = some (.d (.bool true))) (ho : okOp c = true) : Step (TC E x Q S) (TC E (.cond c x y) Q S) := Step.mk (tc_cond_t hc ho)
theorem st_cond_f {c : Operand} {x y : Code} (hc : S.ev c = some (.d (.bool false))) (ho : okOp c = true) : Step (TC E y Q S) (TC E (.cond c x y) Q S) := Step.mk (tc_cond_f hc ho)
theorem st_exit {id : Nat} : Step (Q (.exit id) S) (TC E (.exit id) Q S) := Step.mk tc_exit
theorem st_skip : Step (Q .normal S) (TC E .skip Q S) := Step.mk tc_skip
theorem st_label {l : Nat} : Step (Q .normal S) (TC E (.label l) Q S) := Step.mk tc_label
theorem st_region {id : Nat} {l : List Oper} : Step (TR E false l.toArray Q (todo l) S) (TC E (.region id l.toArray false) Q S) := Step.mk tc_region
theorem yyp {A G : Prop} (h : A) (hs : Step A G := by first | (apply st_p; exact rfl; exact rfl; (first | (apply q_m_int) | (apply q_m_bool) | (apply q_m_str) | (apply q_move; exact rfl; exact rfl) | (apply q_cmp_t; exact rfl; exact rfl; exact rfl; exact rfl; exact rfl; (focus (first | (simp only [cmp] <;> omega) | (simp only [cmp]; exact not_not_intro trivial)))) | (apply q_cmp_f; exact rfl; exact rfl; exact rfl; exact rfl; exact rfl; (focus (first | (simp only [cmp] <;> omega) | (simp only [cmp]; exact not_not_intro trivial)))) | (apply q_c_int) | (apply q_c_bool) | (apply q_nil) | (apply q_c_str) | (apply q_assign; exact rfl; exact rfl) | (apply q_len; exact rfl; exact rfl; (focus (first | exact List.length_map .. | rfl))) | (apply q_len_own; exact rfl; exact rfl; exact rfl; (focus (first | exact List.length_map .. | rfl))) | (apply q_len_nils; exact rfl; exact rfl) | (apply q_len_sl; exact rfl; exact rfl) | (apply q_len_suf; exact rfl; exact rfl; exact rfl; (focus (first | exact List.length_map .. | rfl))) | (apply q_len_str; exact rfl; exact rfl) | (apply q_extract; exact rfl; exact rfl; exact rfl) | (apply q_field_box; exact rfl) | (apply q_field_ref; exact rfl) | (apply q_field_el; exact rfl; exact rfl; exact rfl) | (apply q_add; exact rfl; exact rfl; exact rfl; exact rfl; (focus (simp only [inK]; omega))) | (apply q_add_w; exact rfl; exact rfl; exact rfl; exact rfl) | (apply q_sub; exact rfl; exact rfl; exact rfl; exact rfl; (focus (simp only [inK]; omega))) | (apply q_sub_w; exact rfl; exact rfl; exact rfl; exact rfl) | (apply q_index; exact rfl; exact rfl; exact rfl; exact rfl; (focus (first | with_reducible exact nat_lit_eq | exact rfl | exact (Int.toNat_of_nonneg (by omega)).symm)); (focus (first | assumption | exact get_map (by first | omega | (simp only [List.length_cons, List.length_nil, List.length_append, List.length_map, List.length_take, List.length_drop]; omega)) | exact get_list (by first | omega | (simp only [List.length_cons, List.length_nil, List.length_append, List.length_map, List.length_take, List.length_drop]; omega)) | rfl)); (focus (first | exact CellsD.agg _ | constructor))) | (apply q_index_own; exact rfl; exact rfl; exact rfl; exact rfl; exact rfl; (focus (first | with_reducible exact nat_lit_eq | exact rfl | exact (Int.toNat_of_nonneg (by omega)).symm)); (focus (first | omega | (simp only [List.length_cons, List.length_nil, List.length_append, List.length_map, List.length_take, List.length_drop]; omega)))) | (apply q_index_arr; exact rfl; exact rfl; exact rfl; exact rfl; (focus (first | with_reducible exact nat_lit_eq | exact rfl | exact (Int.toNat_of_nonneg (by omega)).symm)); (focus (first | omega | (simp only [List.length_cons, List.length_nil, List.length_append, List.length_map, List.length_take, List.length_drop]; omega)))) | (apply q_index_suf; exact rfl; exact rfl; exact rfl; exact rfl; exact rfl; (focus (first | with_reducible exact nat_lit_eq | exact rfl | exact (Int.toNat_of_nonneg (by omega)).symm)); (focus (first | omega | (simp only [List.length_cons, List.length_nil, List.length_append, List.length_map, List.length_take, List.length_drop]; omega)))) | (apply q_index_sl; exact rfl; exact rfl; exact rfl; exact rfl; (focus (first | with_reducible exact nat_lit_eq | exact rfl | exact (Int.toNat_of_nonneg (by omega)).symm)); (focus (first | omega | (simp only [List.length_cons, List.length_nil, List.length_append, List.length_map, List.length_take, List.length_drop]; omega)))) | (apply q_index_str; exact rfl; exact rfl; exact rfl; exact rfl; (focus (first | with_reducible exact nat_lit_eq | exact rfl | exact (Int.toNat_of_nonneg (by omega)).symm)); (focus (first | assumption | exact get_map (by first | omega | (simp only [List.length_cons, List.length_nil, List.length_append, List.length_map, List.length_take, List.length_drop]; omega)) | exact get_list (by first | omega | (simp only [List.length_cons, List.length_nil, List.length_append, List.length_map, List.length_take, List.length_drop]; omega)) | rfl))) | (apply q_p_t; exact rfl; exact rfl) | (apply q_p_f; exact rfl; exact rfl) | (apply q_pick_t; exact rfl; exact rfl; exact rfl; exact rfl) | (apply q_pick_f; exact rfl; exact rfl; exact rfl; exact rfl) | (apply q_not_t; exact rfl; exact rfl) | (apply q_not_f; exact rfl; exact rfl) | (apply q_not; exact rfl; exact rfl) | (apply q_field; exact rfl; exact rfl; exact rfl) | (apply q_fields; exact rfl; exact rfl; (focus ((repeat (first | exact Cut.done _ | apply Cut.take | apply Cut.skip)); fail_if_success intros))) | (apply q_conv; exact rfl; exact rfl; (focus (simp only [inK]; omega))) | (apply q_conv_w; exact rfl; exact rfl) | (apply q_slice; exact rfl; exact rfl; exact rfl; exact rfl; (focus (first | with_reducible exact nat_lit_eq | exact rfl | exact (Int.toNat_of_nonneg (by omega)).symm)); (focus (first | with_reducible exact nat_lit_eq | exact rfl | exact (Int.toNat_of_nonneg (by omega)).symm)); (focus (first | omega | (simp only [List.length_cons, List.length_nil, List.length_append, List.length_map, List.length_take, List.length_drop]; omega))); (focus (first | omega | (simp only [List.length_cons, List.length_nil, List.length_append, List.length_map, List.length_take, List.length_drop]; omega)))) | (apply q_nil_box; exact rfl) | (apply q_nil_ref; exact rfl) | (apply q_mul; exact rfl; exact rfl; exact rfl; exact rfl; (focus (simp only [inK]; omega))) | (apply q_mul_w; exact rfl; exact rfl; exact rfl; exact rfl) | (apply q_quo; exact rfl; exact rfl; exact rfl; exact rfl; omega; omega; (focus (simp only [inK]; omega))) | (apply q_quo_w; exact rfl; exact rfl; exact rfl; exact rfl; omega) | (apply q_rem; exact rfl; exact rfl; exact rfl; exact rfl; omega; omega) | (apply q_rem_w; exact rfl; exact rfl; exact rfl; exact rfl; omega) | (apply q_bits; exact rfl; exact rfl; exact rfl; exact rfl; exact rfl) | (apply q_shl; exact rfl; exact rfl; exact rfl; exact rfl; omega) | (apply q_shr; exact rfl; exact rfl; exact rfl; exact rfl; omega) | (apply q_bool_eql; kernel_rfl; exact rfl; exact rfl; exact rfl; exact rfl) | (apply q_str_add; exact rfl; exact rfl; exact rfl; exact rfl; omega) | (apply q_neg; exact rfl; exact rfl) | (apply q_build; (focus ((repeat (first | exact ZeroD.nil | apply ZeroD.d | apply ZeroD.nils)); fail_if_success intros)); (focus ((repeat (first | exact Build.nil _ | apply Build.cons rfl rfl (by first | exact ToD.d _ | exact ToD.nils _ | exact ToD.own rfl) (by first | exact CellsD.agg _ | constructor) (by rfl) (by (repeat (first | exact Repl.done _ | apply Repl.here | apply Repl.there)); fail_if_success intros))); fail_if_success intros))) | (apply w_build0; (focus ((repeat (first | exact ZeroD.nil | apply ZeroD.d | apply ZeroD.nils)); fail_if_success intros))) | (apply q_buildV; (focus ((repeat (first | exact BuildV.nil _ | apply BuildV.cons rfl rfl (by first | exact rfl | exact ownOk_row rfl) (by first | (refine CellsV.d (by first | exact CellsD.agg _ | constructor) (by (repeat (first | exact MapD.nil | apply MapD.nils | apply MapD.cons)); fail_if_success intros)) | constructor) (by rfl) (by (repeat (first | exact Repl.done _ | apply Repl.here | apply Repl.there)); fail_if_success intros))); fail_if_success intros))) | (apply q_makeFunc; (focus ((repeat (first | exact Evs.nil | apply Evs.cons rfl rfl)); fail_if_success intros)); (focus ((repeat (first | exact Evs.nil | apply Evs.cons rfl rfl)); fail_if_success intros))) | (apply q_min; exact rfl; exact rfl; exact rfl; exact rfl) | (apply q_max; exact rfl; exact rfl; exact rfl; exact rfl)); exact ltd rfl; exact rfl) | (apply st_q; exact rfl; exact rfl; (first | (apply q_load_boxs; exact rfl; exact rfl; (focus ((repeat (first | exact Cut.done _ | apply Cut.take | apply Cut.skip)); fail_if_success intros)); (focus ((repeat (first | exact ToDs.nil | apply ToDs.cons (ToD.d _) | apply ToDs.cons (ToD.nils _) | apply ToDs.cons (ToD.own rfl))); fail_if_success intros)); exact rfl) | (apply q_load_refs; exact rfl; (focus ((repeat (first | exact Cut.done _ | apply Cut.take | apply Cut.skip)); fail_if_success intros))) | (apply q_load_els; exact rfl; exact rfl; exact rfl; (focus (first | assumption | exact get_map (by first | omega | (simp only [List.length_cons, List.length_nil, List.length_append, List.length_map, List.length_take, List.length_drop]; omega)) | exact get_list (by first | omega | (simp only [List.length_cons, List.length_nil, List.length_append, List.length_map, List.length_take, List.length_drop]; omega)) | rfl)); (focus (first | exact CellsD.agg _ | constructor)); (focus ((repeat (first | exact Cut.done _ | apply Cut.take | apply Cut.skip)); fail_if_success intros))) | (apply q_load_box; exact rfl; exact rfl; exact rfl) | (apply q_load_ref; exact rfl; exact rfl) | (apply q_load_el; exact rfl; exact rfl; exact rfl; (focus (first | assumption | exact get_map (by first | omega | (simp only [List.length_cons, List.length_nil, List.length_append, List.length_map, List.length_take, List.length_drop]; omega)) | exact get_list (by first | omega | (simp only [List.length_cons, List.length_nil, List.length_append, List.length_map, List.length_take, List.length_drop]; omega)) | rfl)); (focus (first | exact CellsD.agg _ | constructor)); exact rfl) | (apply q_load_box; exact rfl; exact rfl; (focus (first | assumption | exact get_map (by first | omega | (simp only [List.length_cons, List.length_nil, List.length_append, List.length_map, List.length_take, List.length_drop]; omega)) | exact get_list (by first | omega | (simp only [List.length_cons, List.length_nil, List.length_append, List.length_map, List.length_take, List.length_drop]; omega)) | rfl))) | (apply q_conv_bytes; exact rfl; exact rfl; (focus (first | rfl | exact slice_lo .. | exact slice_all ..)))); exact ltd rfl; exact rfl; exact rfl)) : G := hs.go h
theorem yy {A G : Prop} (h : A) (hs : Step A G := by first | (apply st_pass; exact rfl; exact ltd rfl; exact rfl) | (apply st_pass0; exact rfl; exact rfl) | (apply st_block) | (apply st_cond_t; exact rfl; exact rfl) | (apply st_cond_f; exact rfl; exact rfl) | (apply st_exit) | (apply st_skip) | (apply st_label) | (apply st_region) | (apply st_store; exact rfl; exact rfl; exact rfl; exact rfl; (focus (first | exact rfl | exact ownOk_row rfl)); exact rfl; (focus (first | (refine CellsV.d (by first | exact CellsD.agg _ | constructor) (by (repeat (first | exact MapD.nil | apply MapD.nils | apply MapD.cons)); fail_if_success intros)) | constructor)); rfl; (focus ((repeat (first | exact Repl.done _ | apply Repl.here | apply Repl.there)); fail_if_success intros)); exact rfl; exact rfl) | (apply st_store_el; exact rfl; exact rfl; exact rfl; exact rfl; exact rfl; (focus (first | exact ToD.d _ | exact ToD.nils _ | exact ToD.own rfl)); (focus (first | exact CellsD.agg _ | constructor)); exact rfl; (focus (first | omega | (simp only [List.length_cons, List.length_nil, List.length_append, List.length_map, List.length_take, List.length_drop]; omega))); exact rfl; exact rfl) | (apply st_store1; exact rfl; exact rfl; exact rfl; exact rfl; (focus (first | exact rfl | exact ownOk_row rfl)); exact rfl; (focus (first | (refine CellsV.d (by first | exact CellsD.agg _ | constructor) (by (repeat (first | exact MapD.nil | apply MapD.nils | apply MapD.cons)); fail_if_success intros)) | constructor)); (focus (first | omega | (simp only [List.length_cons, List.length_nil, List.length_append, List.length_map, List.length_take, List.length_drop]; omega))); exact rfl; exact rfl)) : G := hs.go h
theorem yy2 {A B G : Prop} (h1 : A) (h2 : B) (hs : Step2 A B G := by first | (apply t2_cmp; exact rfl; exact rfl; exact rfl; exact rfl; exact rfl; exact ltd rfl; exact rfl) | (apply t2_str_eq; exact rfl; exact rfl; exact rfl; exact rfl; exact ltd rfl; exact rfl) | (apply t2_str_ne; exact rfl; exact rfl; exact rfl; exact rfl; exact ltd rfl; exact rfl) | (apply t2_agg_eq; exact rfl; exact rfl; exact rfl; exact rfl; (focus ((repeat (first | exact EqC.nil | apply EqC.int | apply EqC.bool | apply EqC.str)); fail_if_success intros)); exact ltd rfl; exact rfl) | (apply t2_agg_ne; exact rfl; exact rfl; exact rfl; exact rfl; (focus ((repeat (first | exact EqC.nil | apply EqC.int | apply EqC.bool | apply EqC.str)); fail_if_success intros)); exact ltd rfl; exact rfl)) : G := hs.go h1 h2
theorem y_call {r : V} {f : Nat} {xs : List Operand} {ats : Array TypeId} {vs vs' : List V} [hf : TFun E.P f] (h : TR E draw ops Q rest ⟨(d, r) :: env, H, gl⟩) (hx : Evs ⟨env, H, gl⟩ xs vs := by (repeat (first | exact Evs.nil | apply Evs.cons rfl rfl)); fail_if_success intros) (ha : Args H vs vs' := by (repeat (first | exact Args.nil | apply Args.cons (Arg.d _) | apply Args.cons (Arg.own rfl) | apply Args.cons (Arg.nils _) | apply Args.cons (Arg.clo0 _))); fail_if_success intros) (hc : FnD E.P gl f vs' (fun v => v = r)) (hd : d < E.C.nt := by exact ltd rfl) (hg : Sd.gd ⟨env, H, gl⟩ ops ⟨some d, .call { callee := .value (.func f), args := xs.toArray, argTypes := ats }, ty, pos, af, gd⟩ = some true := by exact rfl) (hw : way.loud = true := by exact rfl) : TR E draw ops Q (.step ⟨some d, .call { callee := .value (.func f), args := xs.toArray, argTypes := ats }, ty, pos, af, gd⟩ way rest) ⟨env, H, gl⟩ := z_call (fun _ e => by cases e; exact h) (hx := hx) (ha := ha) (hc := hc) (hd := hd) (hg := hg) (hw := hw)
theorem y_callE {r : V} {H1 : List (Nat × Ob)} {f : Nat} {fx : Operand} {xs : List Operand} {ats : Array TypeId} {fs gs vs args : List V} {H0 : List (Nat × Ob)} [hf : TFun E.P f] (h : TR E draw ops Q rest ⟨(d, r) :: env, H1 ++ H, gl⟩) (hfx : Sd.ev ⟨env, H, gl⟩ fx = some (.clo (.func f) fs gs) := by exact rfl) (hof : okOp fx = true := by exact rfl) (hx : Evs ⟨env, H, gl⟩ xs vs := by (repeat (first | exact Evs.nil | apply Evs.cons rfl rfl)); fail_if_success intros) (ha : ArgsE H (fs ++ vs ++ gs) args := by (repeat (first | exact ArgsE.nil | apply ArgsE.cons (ArgE.own rfl) | apply ArgsE.cons (ArgE.nils _) | apply ArgsE.cons (ArgE.same _))); fail_if_success intros) (hc : FnE E.P gl f args H0 (fun v H2 => v = r ∧ H2 = H1)) (hs : SubH H H0 := by (repeat (first | exact SubH.nil | apply SubH.cons rfl)); fail_if_success intros) (hwm : wholeMut H0 = true := by exact rfl) (hd : d < E.C.nt := by exact ltd rfl) (hg : Sd.gd ⟨env, H, gl⟩ ops ⟨some d, .call { callee := .value fx, args := xs.toArray, argTypes := ats }, ty, pos, af, gd⟩ = some true := by exact rfl) (hw : isBar draw way = true := by exact rfl) (hfr : freshNew ⟨env, H, gl⟩ H0 H1 = true := by exact rfl) : TR E draw ops Q (.step ⟨some d, .call { callee := .value fx, args := xs.toArray, argTypes := ats }, ty, pos, af, gd⟩ way rest) ⟨env, H, gl⟩ := z_callE (fun _ _ e => by obtain ⟨rfl, rfl⟩ := e; exact ⟨hfr, h⟩) (hfx := hfx) (hof := hof) (hx := hx) (ha := ha) (hc := hc) (hs := hs) (hwm := hwm) (hd := hd) (hg := hg) (hw := hw)
theorem z_draw {id : Nat} {ops : Array Oper} [hm : TMixed E.P] (bars : List Nat) (plan : Plan) (h : TR E true ops Q (planL ops.toList plan) S) (hs : Region.noSelect ops = true := by kernel_rfl) (hd : noDefer ops = true := by kernel_rfl) (hl : plan.len = ops.size := by rfl) (hnd : bars.Nodup := by decide) (hev : plan.even = true := by kernel_rfl)
    (hB : mixOk3 .any ops bars (Array.replicate ops.size false) plan = true := by kernel_rfl) (hQ : noPanic Q := by (repeat (first | exact noPanic_ends | exact noPanic_endsE | exact noPanic_endsI | exact noPanic_endsY | exact noPanic_endsA | (with_reducible apply noPanic_then) | (with_reducible apply noPanic_block))); fail_if_success intros) : TC E (.region id ops true) Q S := tc_draw bars plan hm.h hs hd hl hnd hev hB hQ h
theorem y_ret {P : Program} {rs : List ResultVar} {R : V → Prop} {vs : List V} (hr : R (oneOf vs)) (h : Res P S rs vs := by (repeat (first | exact Res.nil | apply Res.tmp rfl (by first | exact Arg.d _ | exact Arg.own rfl | exact Arg.nils _ | exact Arg.clo0 _) | apply Res.cells rfl rfl (by (repeat (first | exact Cut.done _ | apply Cut.take | apply Cut.skip)); fail_if_success intros) (by (repeat (first | exact ToDs.nil | apply ToDs.cons (ToD.d _) | apply ToDs.cons (ToD.nils _) | apply ToDs.cons (ToD.own rfl))); fail_if_success intros) (by rfl) | apply Res.cell rfl rfl rfl (by first | exact Arg.d _ | exact Arg.own rfl | exact Arg.nils _ | exact Arg.clo0 _))); fail_if_success intros) : Ends P rs R .ret S := end_ret h hr
theorem y_rete {P : Program} {rs : List ResultVar} {H0 H1 : List (Nat × Ob)} {R : V → List (Nat × Ob) → Prop} {vs : List V} (hr : R (oneOf vs) H1) (h : ResE P S rs vs := by (repeat (first | exact ResE.nil | apply ResE.tmp rfl (by first | exact ArgE.own rfl | exact ArgE.nils _ | exact ArgE.same _) | apply ResE.cells rfl rfl (by (repeat (first | exact Cut.done _ | apply Cut.take | apply Cut.skip)); fail_if_success intros) (by (repeat (first | exact ToDs.nil | apply ToDs.cons (ToD.d _) | apply ToDs.cons (ToD.nils _) | apply ToDs.cons (ToD.own rfl))); fail_if_success intros) (by rfl) | apply ResE.cell rfl rfl rfl (by first | exact ArgE.own rfl | exact ArgE.nils _ | exact ArgE.same _))); fail_if_success intros) (hsub : Sub S.H H1 := by (repeat (first | exact Sub.nil | apply Sub.cons rfl)); fail_if_success intros) (hok : endOk H0 H1 (oneOf vs) = true := by rfl) : EndsE P rs H0 R .ret S := EndsE.mk (.inl rfl) ⟨_, _, h, hsub, hok, hr⟩
theorem y_orete {P : Program} {rs : List ResultVar} {H0 H1 : List (Nat × Ob)} {R : V → List (Nat × Ob) → Prop} {vs : List V} (hr : R (oneOf vs) H1) (h : ResE P S rs vs := by (repeat (first | exact ResE.nil | apply ResE.tmp rfl (by exact ArgE.same _) | apply ResE.cells rfl rfl (by (repeat (first | exact Cut.done _ | apply Cut.take | apply Cut.skip)); fail_if_success intros) (by (repeat (first | exact ToDs.nil | apply ToDs.cons (ToD.d _) | apply ToDs.cons (ToD.nils _) | apply ToDs.cons (ToD.own rfl))); fail_if_success intros) (by rfl) | apply ResE.cell rfl rfl rfl (by exact ArgE.same _))); fail_if_success intros) (hsub : Sub S.H H1 := by (repeat (first | exact Sub.nil | apply Sub.cons rfl)); fail_if_success intros) (hok : endOk H0 H1 (oneOf vs) = true := by rfl) : EndsE P rs H0 R .ret S := EndsE.mk (.inl rfl) ⟨_, _, h, hsub, hok, hr⟩
theorem y_reti {P : Program} {rs : List ResultVar} {env0 : List (Nat × V)} {K : V → List (Nat × Ob) → Prop} {vs : List V} (hr : K (oneOf vs) H) (hsub : Sub env (shift env0) := by simp only [shift, List.map_cons, List.map_nil, Nat.reduceAdd]; (repeat (first | exact Sub.nil | apply Sub.cons rfl)); fail_if_success intros) (h : ResE P ⟨env, H, gl⟩ rs vs := by (repeat (first | exact ResE.nil | apply ResE.tmp rfl (by first | exact ArgE.own rfl | exact ArgE.nils _ | exact ArgE.same _) | apply ResE.cells rfl rfl (by (repeat (first | exact Cut.done _ | apply Cut.take | apply Cut.skip)); fail_if_success intros) (by (repeat (first | exact ToDs.nil | apply ToDs.cons (ToD.d _) | apply ToDs.cons (ToD.nils _) | apply ToDs.cons (ToD.own rfl))); fail_if_success intros) (by rfl) | apply ResE.cell rfl rfl rfl (by first | exact ArgE.own rfl | exact ArgE.nils _ | exact ArgE.same _))); fail_if_success intros) : EndsI P rs env0 gl K .ret ⟨env, H, gl⟩ := EndsI.mk (.inl rfl) rfl hsub ⟨_, h, hr⟩
theorem y_endi {P : Program} {rs : List ResultVar} {env0 : List (Nat × V)} {K : V → List (Nat × Ob) → Prop} {vs : List V} (hr : K (oneOf vs) H) (hsub : Sub env (shift env0) := by simp only [shift, List.map_cons, List.map_nil, Nat.reduceAdd]; (repeat (first | exact Sub.nil | apply Sub.cons rfl)); fail_if_success intros) (h : ResE P ⟨env, H, gl⟩ rs vs := by (repeat (first | exact ResE.nil | apply ResE.tmp rfl (by first | exact ArgE.own rfl | exact ArgE.nils _ | exact ArgE.same _) | apply ResE.cells rfl rfl (by (repeat (first | exact Cut.done _ | apply Cut.take | apply Cut.skip)); fail_if_success intros) (by (repeat (first | exact ToDs.nil | apply ToDs.cons (ToD.d _) | apply ToDs.cons (ToD.nils _) | apply ToDs.cons (ToD.own rfl))); fail_if_success intros) (by rfl) | apply ResE.cell rfl rfl rfl (by first | exact ArgE.own rfl | exact ArgE.nils _ | exact ArgE.same _))); fail_if_success intros) : EndsI P rs env0 gl K .normal ⟨env, H, gl⟩ := EndsI.mk (.inr rfl) rfl hsub ⟨_, h, hr⟩
theorem y_endy {env1 : List (Nat × V)} {K : List (Nat × Ob) → Prop} (hr : K H) (hsub : Sub env (shift env1) := by simp only [shift, List.map_cons, List.map_nil, Nat.reduceAdd]; (repeat (first | exact Sub.nil | apply Sub.cons rfl)); fail_if_success intros) : EndsY env1 gl K .normal ⟨env, H, gl⟩ := EndsY.mk rfl rfl hsub hr
theorem y_wk {C : Ctx} {env' : List (Nat × V)} {H' : List (Nat × Ob)} (h1 : Sub env env' := by (repeat (first | exact Sub.nil | apply Sub.cons rfl)); fail_if_success intros) (h2 : Sub H H' := by (repeat (first | exact Sub.nil | apply Sub.cons rfl)); fail_if_success intros) (h3 : (C.N.all fun n => (look n H').isSome) = true := by rfl) : Wk C ⟨env, H, gl⟩ ⟨env', H', gl⟩ := wk h1 h2 h3
theorem y_enter {P : Program} {gl : List (Nat × List D)} {f : FuncId} {fn : Func} {c : Code} {args : List V} {R : V → Prop} {nt : Nat} {rs : Array ResultVar} (hf : P.funcs[f]? = some fn) (hn : fn.ntmps = nt) (hr : fn.results = rs) (h : ∀ w M, TC ⟨P, Ctx.fn nt w M, none⟩ c (Ends P rs.toList R) ⟨slots args, [], gl⟩) (hb : fn.body = some c := by rfl) (hle : Nat.ble args.length nt = true := by rfl) (hs : Nat.ble nt 100000 = true := by rfl) : FnD P gl f args R :=
  fn_intro hf hb hn hr (Nat.le_of_ble_eq_true hle) (Nat.le_of_ble_eq_true hs) h
theorem y_entere {P : Program} {gl : List (Nat × List D)} {f : FuncId} {fn : Func} {c : Code} {args : List V} {H0 : List (Nat × Ob)} {R : V → List (Nat × Ob) → Prop} {nt : Nat} {rs : Array ResultVar} (hf : P.funcs[f]? = some fn) (hn : fn.ntmps = nt) (hr : fn.results = rs)
    (h : ∀ w M E b0, TC ⟨P, ⟨nt, E, w, M, H0.map (·.1), b0, fun _ => .nilFunc, []⟩, none⟩ c (EndsE P rs.toList H0 R) ⟨slots args, H0, gl⟩) (hb : fn.body = some c := by rfl) (hle : Nat.ble args.length nt = true := by rfl) (hs : Nat.ble nt 100000 = true := by rfl) : FnE P gl f args H0 R :=
  fnE_intro hf hb hn hr (Nat.le_of_ble_eq_true hle) (Nat.le_of_ble_eq_true hs) h
theorem y_famx {c : Code} {ι : Type} (ts ns : List Nat) (ch : ι → List (Nat × V)) (oh : ι → List (Nat × Ob)) (P : ι → Prop) (m : ι → Nat) (i0 : ι) {env' : List (Nat × V)} {H' : List (Nat × Ob)} (hp : P i0) (round : ∀ i, P i → TC E c (Exit.thenD (fun S' => ∃ j, P j ∧ m j < m i ∧ Wk E.C S' ⟨ch j ++ env', oh j ++ H', gl⟩) Q) ⟨ch i ++ env', oh i ++ H', gl⟩) (hd : Drop ts env env' := by (repeat (first | exact Drop.nil | apply Drop.drop rfl | apply Drop.take rfl)); fail_if_success intros) (hn : Drop ns H H' := by (repeat (first | exact Drop.nil | apply Drop.drop rfl | apply Drop.take rfl)); fail_if_success intros)
    (h0 : Wk E.C ⟨env, H, gl⟩ ⟨ch i0 ++ env', oh i0 ++ H', gl⟩ := by exact y_wk) : TC E (.loop c) Q ⟨env, H, gl⟩ := tc_famx ts ns ch oh P m i0 hp hd hn h0 round
theorem tc_small {c : Code} (t : Nat) {sz : Nat} {xs : List D} (hl : look t env = some (.d (.list sz xs))) (h : xs.length ≤ 9223372036854775807 → TC E c Q ⟨env, H, gl⟩) : TC E c Q ⟨env, H, gl⟩ := fun a w ⟨β, hB⟩ => by
  obtain ⟨x, _, h2⟩ := hB.env t _ hl
  obtain ⟨_, _, _, _, q1, q2, _⟩ := h2
  exact h (Nat.le_trans q1 q2) a w ⟨β, hB⟩
theorem y_inline {f nt1 : Nat} {fx : Operand} {xs : List Operand} {ats : Array TypeId} {fs gs vs : List V} {env0 : List (Nat × V)} {fn : Func} {c : Code} {rs : Array ResultVar} [hf : TFun E.P f] (hfn : E.P.funcs[f]? = some fn) (hn : fn.ntmps = nt1) (hr : fn.results = rs)
    (h : ∀ tm sy, TC ⟨E.P, E.C.inner nt1 tm sy, none⟩ c (EndsI E.P rs.toList env0 gl fun v H1 => TR E draw ops Q rest ⟨(d, v) :: env0, H1, gl⟩) ⟨slots (fs ++ vs ++ gs) ++ shift env0, H, gl⟩) (hfx : Sd.ev ⟨env, H, gl⟩ fx = some (.clo (.func f) fs gs) := by rfl) (hof : okOp fx = true := by rfl) (hx : Evs ⟨env, H, gl⟩ xs vs := by (repeat (first | exact Evs.nil | apply Evs.cons rfl rfl)); fail_if_success intros)
    (hbody : fn.body = some c := by rfl) (hle : Nat.ble (fs ++ vs ++ gs).length nt1 = true := by rfl) (hs : Nat.ble nt1 100000 = true := by rfl) (hnub : Nub [] env env0 := by (repeat (first | exact Nub.nil _ | apply Nub.skip rfl | apply Nub.keep rfl)); fail_if_success intros) (hd : d < E.C.nt := by exact ltd rfl) (hg : Sd.gd ⟨env, H, gl⟩ ops ⟨some d, .call { callee := .value fx, args := xs.toArray, argTypes := ats }, ty, pos, af, gd⟩ = some true := by rfl) (hw : isBar draw way = true := by rfl) :
    TR E draw ops Q (.step ⟨some d, .call { callee := .value fx, args := xs.toArray, argTypes := ats }, ty, pos, af, gd⟩ way rest) ⟨env, H, gl⟩ := s_inline hfx hof hx hfn hbody hn hr hle hs hnub hd hg hw h
theorem y_callG {r : V} {H1 : List (Nat × Ob)} {f : Nat} {fx : Operand} {xs : List Operand} {ats : Array TypeId} {fs gs vs args : List V} [hf : TFun E.P f] (h : TR E draw ops Q rest ⟨(d, r) :: env, H1 ++ H, gl⟩) (hfx : Sd.ev ⟨env, H, gl⟩ fx = some (.clo (.func f) fs gs) := by rfl) (hof : okOp fx = true := by rfl) (hx : Evs ⟨env, H, gl⟩ xs vs := by (repeat (first | exact Evs.nil | apply Evs.cons rfl rfl)); fail_if_success intros) (ha : ArgsE H (fs ++ vs ++ gs) args := by (repeat (first | exact ArgsE.nil | apply ArgsE.cons (ArgE.own rfl) | apply ArgsE.cons (ArgE.nils _) | apply ArgsE.cons (ArgE.same _))); fail_if_success intros) (hc : FnE E.P gl f args [] (fun v H2 => v = r ∧ H2 = H1))
    (hp : Pures args := by (repeat (first | exact Pures.nil | apply Pures.cons (Pure.d _) | apply Pures.cons (Pure.nils _))); fail_if_success intros) (hd : d < E.C.nt := by exact ltd rfl) (hg : Sd.gd ⟨env, H, gl⟩ ops ⟨some d, .call { callee := .value fx, args := xs.toArray, argTypes := ats }, ty, pos, af, gd⟩ = some true := by rfl) (hw : way.loud = true := by rfl) (hfr : freshNew ⟨env, H, gl⟩ [] H1 = true := by rfl) : TR E draw ops Q (.step ⟨some d, .call { callee := .value fx, args := xs.toArray, argTypes := ats }, ty, pos, af, gd⟩ way rest) ⟨env, H, gl⟩ :=
  s_callG hfx hof hx ha hc hp hd hg hw fun _ _ e => by obtain ⟨rfl, rfl⟩ := e; exact ⟨hfr, h⟩
end
end Go.Proofs.YtcblefmjacofgaaGreatDoor
