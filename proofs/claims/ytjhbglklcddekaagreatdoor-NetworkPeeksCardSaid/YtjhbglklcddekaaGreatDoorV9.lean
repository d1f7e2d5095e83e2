/- Parts: D19, D20, D21. -/
import Derived.Test.YtjhbglklcddekaaGreatDoorV8
set_option linter.all false
set_option maxRecDepth 100000
set_option maxHeartbeats 16000000
namespace Go.Proofs.YtjhbglklcddekaaGreatDoor
open Go.RowKit
section
def shift (l : List (Nat × V)) : List (Nat × V) := l.map fun p => (p.1 + 100000, p.2)
noncomputable def down (t : Nat) : Nat := Classical.choose (⟨t - 100000, rfl⟩ : ∃ m, m = t - 100000)
theorem down_eq (t : Nat) : down t = t - 100000 := Classical.choose_spec (⟨t - 100000, rfl⟩ : ∃ m, m = t - 100000)
noncomputable def ghostOf (C : Ctx) (tm : Array Value) (t : Nat) : Value := (slotV C { tmps := tm, defers := [] } (down t)).getD undef
noncomputable def Ctx.inner (C : Ctx) (nt1 : Nat) (tm : Array Value) (xs : List (Nat × Obj)) : Ctx := { C with nt := nt1, g := ghostOf C tm, sys := xs ++ C.sys }
inductive Nub : List Nat → List (Nat × V) → List (Nat × V) → Prop
  | nil (s : List Nat) : Nub s [] []
  | skip {s : List Nat} {t : Nat} {v : V} {l r : List (Nat × V)} (h : s.contains t = true) (k : Nub s l r) : Nub s ((t, v) :: l) r
  | keep {s : List Nat} {t : Nat} {v : V} {l r : List (Nat × V)} (h : s.contains t = false) (k : Nub (t :: s) l r) : Nub s ((t, v) :: l) ((t, v) :: r)
theorem Nub.not {s : List Nat} {l r : List (Nat × V)} (h : Nub s l r) {t : Nat} {v : V} (hl : look t r = some v) : t ∉ s := by
  induction h with
  | nil => cases hl
  | skip _ _ ih => exact ih hl
  | @keep s t' v' l r h _ ih =>
    rw [look_cons] at hl
    split at hl
    · rename_i e
      subst e
      simpa using h
    · have := ih hl
      simp only [List.mem_cons, not_or] at this
      exact this.2
theorem Nub.look {s : List Nat} {l r : List (Nat × V)} (h : Nub s l r) {t : Nat} {v : V} (hl : Go.Proofs.YtjhbglklcddekaaGreatDoor.look t r = some v) : Go.Proofs.YtjhbglklcddekaaGreatDoor.look t l = some v := by
  induction h with
  | nil => cases hl
  | @skip s t' v' l r h k ih =>
    rw [look_cons]
    split
    · rename_i e
      subst e
      exact absurd (by simpa using h) (k.not hl)
    · exact ih hl
  | @keep s t' v' l r h k ih =>
    rw [look_cons] at hl ⊢
    split at hl
    · rename_i e; rw [if_pos e]; exact hl
    · rename_i e; rw [if_neg e]; exact ih hl
theorem look_appE (t : Nat) (l : List (Nat × V)) (r : List (Nat × V)) : look t (l ++ r) = match look t l with | some v => some v | none => look t r := by
  induction l with
  | nil => rfl
  | cons p l ih =>
    rw [List.cons_append, show p = (p.1, p.2) from rfl, look_cons, look_cons, ih]
    split <;> rfl
theorem look_shift {t : Nat} {l : List (Nat × V)} {v : V} : look t (shift l) = some v ↔ 100000 ≤ t ∧ look (t - 100000) l = some v := by
  induction l with
  | nil => simp [shift, look]
  | cons p l ih =>
    have : shift (p :: l) = (p.1 + 100000, p.2) :: shift l := rfl
    rw [this, show p = (p.1, p.2) from rfl, look_cons, look_cons]
    by_cases h : p.1 + 100000 = t
    · rw [if_pos h, if_pos (by omega)]
      exact ⟨fun h' => ⟨by omega, h'⟩, fun h' => h'.2⟩
    · rw [if_neg h, ih]
      by_cases h' : 100000 ≤ t
      · rw [if_neg (by omega)]
      · constructor <;> intro h2 <;> exact absurd h2.1 h'
theorem slot_big {C : Ctx} {a : Act} {t : Nat} (h : 100000 ≤ t) : slotV C a t = some (C.g t) := by
  have : Nat.blt t 100000 = false := by
    cases hb : Nat.blt t 100000 with
    | false => rfl
    | true => have := Nat.le_of_ble_eq_true hb; omega
  simp [slotV, this]
theorem slot_small {C : Ctx} {a : Act} {t : Nat} (h : t < 100000) : slotV C a t = a.tmps[t]? := by
  have : Nat.blt t 100000 = true := Nat.ble_eq_true_of_le h
  simp [slotV, this]
theorem ghost_of {C : Ctx} {a : Act} {t : Nat} {x : Value} (h : slotV C a (t - 100000) = some x) : ghostOf C a.tmps t = x := by
  unfold ghostOf
  rw [down_eq, show slotV C { tmps := a.tmps, defers := [] } (t - 100000) = some x from h, Option.getD_some]
theorem inner_g {C : Ctx} {nt1 : Nat} {tm : Array Value} {xs : List (Nat × Obj)} (t : Nat) : (C.inner nt1 tm xs).g t = ghostOf C tm t := rfl
section
variable {C : Ctx} {β : Nat → Hd} {S : Sd} {a : Act} {w : World}
theorem StB.sysput (h : StB C β S a w) {l : Nat} {o o' : Obj} (ho : w.heap[l]? = some o) (hs : sysO o = true) (hs' : sysO o' = true) (h0 : C.w0.heap.size ≤ l) {sys' : List (Nat × Obj)} (hsys : ∀ p ∈ sys', p = (l, o') ∨ (p ∈ C.sys ∧ p.1 ≠ l))
    {a' : Act} (ha : a'.tmps = a.tmps) (hD : ∃ Ds : List Nat, a'.defers = Ds.map markOf ∧ Ds.Nodup ∧ ∀ D ∈ Ds, w.heap[D]? = some (.deferred (some [])) ∧ C.w0.heap.size ≤ D ∧ D ≠ l ∧ ∀ p ∈ sys', p.1 ≠ D) : StB { C with sys := sys' } β S a' (w.putObj l o') := by
  have hlt := (Array.getElem?_eq_some_iff.1 ho).1
  have hn : ∀ b x, w.heap[b]? = some x → sysO x = false → b ≠ l := fun b x hx hsx e => by
    subst e
    rw [ho] at hx
    cases hx
    rw [hs] at hsx
    cases hsx
  have kb : ∀ k, k ≠ l → (w.putObj l o').heap[k]? = w.heap[k]? := fun k hk => World.putObj_heap_other hk
  have kp : Keeps w (Mut C.M0 β S.H) (w.putObj l o') (Mut C.M0 β S.H) := ⟨fun b o2 y h1 h2 => ⟨h1, by
    have : b ≠ l := by
      rintro rfl
      cases o <;> simp [World.cell?, ho, sysO] at h2 hs
    rw [← h2]
    exact World.cell?_of_block (kb b this)⟩, fun b ob hs2 h1 h2 => ⟨h1, (kb b (hn b _ h2 hs2)).trans h2⟩⟩
  have hr : ∀ n e sz sh xs q, look n S.H = some (.row e sz sh xs q) → ∃ sh' xs', look n S.H = some (.row e sz sh' xs' q) := fun n e sz sh xs q h => ⟨sh, xs, h⟩
  obtain ⟨Ds, hd1, hd2, hd3⟩ := hD
  have hsl : ∀ t, slotV { C with sys := sys' } a' t = slotV C a t := fun t => by unfold slotV; rw [ha]
  refine ⟨by rw [ha]; exact h.size, h.small, ⟨Ds, hd1, hd2, fun D hD => ?_⟩, fun p hp => ?_, fun t v hl => ?_, fun n ob hl => ?_, h.apart, h.place, fun g cs hl => (h.glob g cs hl).keep kp, ?_, h.out, h.low, h.fix, h.has⟩
  · obtain ⟨q1, q2, q3, q4⟩ := hd3 D hD
    exact ⟨(kb D q3).trans q1, q2, q4⟩
  · rcases hsys p hp with rfl | ⟨h1, h2⟩
    · exact ⟨World.putObj_heap_same hlt, hs', h0⟩
    · exact ⟨(kb p.1 h2).trans (h.sys p h1).1, (h.sys p h1).2⟩
  · obtain ⟨x, h1, h2⟩ := h.env t v hl
    exact ⟨x, by rw [hsl]; exact h1, RepV.keep kp (fun _ => rfl) hr v x h2⟩
  · have h1 := h.obs n ob hl
    refine RepO.keep kp (fun b hb' => ?_) (fun vs h2 => RepL.keep kp (fun _ => rfl) hr _ _ h2) h1
    obtain ⟨x, h2, h3, _⟩ := h1.kind hb'
    exact kb b (hn b x h2 h3)
  · exact ⟨h.frame.os, h.frame.tape, h.frame.output, by rw [World.putObj_size]; exact h.frame.size, fun i hi he => (kb i (by have hi' : i < C.w0.heap.size := hi; omega)).trans (h.frame.block i hi he)⟩
theorem StB.enter (h : StB C β S a w) {args : List V} {us : List Value} (hargs : RepL w (Mut C.M0 β S.H) β S.H args us) {nt1 : Nat} (hle : args.length ≤ nt1) (hs : nt1 ≤ 100000) {env0 : List (Nat × V)} (hsub : ∀ t v, look t env0 = some v → look t S.env = some v)
    {xs : List (Nat × Obj)} (hx : ∀ p ∈ xs, w.heap[p.1]? = some p.2 ∧ sysO p.2 = true ∧ C.w0.heap.size ≤ p.1) : StB (C.inner nt1 a.tmps xs) β ⟨slots args ++ shift env0, S.H, S.gl⟩ { tmps := us.toArray ++ Array.replicate (nt1 - us.toArray.size) undef, defers := [] } w := by
  have hlen := hargs.length
  refine ⟨?_, hs, ⟨[], rfl, List.nodup_nil, (fun D h => by cases h)⟩, fun p hp => ?_, fun t v hl => ?_, h.obs, h.apart, h.place, h.glob, h.frame, h.out, h.low, h.fix, h.has⟩
  · simp [Ctx.inner]; omega
  · rcases List.mem_append.1 hp with hp | hp
    · exact hx p hp
    · exact h.sys p hp
  · dsimp only at hl
    rw [look_appE] at hl
    cases h1 : look t (slots args) with
    | some v1 =>
      rw [h1] at hl
      cases hl
      exact env_args hargs hle hs h1
    | none =>
      rw [h1] at hl
      obtain ⟨h2, h3⟩ := look_shift.1 hl
      obtain ⟨x, h4, h5⟩ := h.env _ v (hsub _ v h3)
      refine ⟨x, ?_, h5⟩
      rw [slot_big h2, inner_g, ghost_of h4]
theorem StB.leave (h : StB C β S a w) {nt1 : Nat} {xs : List (Nat × Obj)} {β1 : Nat → Hd} {S1 : Sd} {a1 : Act} {w1 : World} (h1 : StB (C.inner nt1 a.tmps xs) β1 S1 a1 w1) {env0 : List (Nat × V)} (hsub0 : ∀ t v, look t env0 = some v → look t S.env = some v)
    (hsub : ∀ t v, look t (shift env0) = some v → look t S1.env = some v) (hD : ∀ D, markOf D ∈ a.defers → (D, Obj.deferred (some [])) ∈ xs) : StB C β1 ⟨env0, S1.H, S1.gl⟩ a w1 := by
  obtain ⟨Ds, hd1, hd2, hd3⟩ := h.defers
  refine ⟨h.size, h.small, ⟨Ds, hd1, hd2, fun D hDm => ⟨?_, (hd3 D hDm).2⟩⟩, fun p hp => h1.sys p (List.mem_append_right _ hp), fun t v hl => ?_, h1.obs, h1.apart, h1.place, h1.glob, h1.frame, h1.out, h1.low, h1.fix, h1.has⟩
  · exact (h1.sys (D, .deferred (some [])) (List.mem_append_left _ (hD D (by rw [hd1]; exact List.mem_map_of_mem hDm)))).1
  · obtain ⟨x, h2, h3⟩ := h.env t v (hsub0 t v hl)
    have h4 := hsub (t + 100000) v (look_shift.2 ⟨by omega, by simpa using hl⟩)
    obtain ⟨y, h5, h6⟩ := h1.env _ v h4
    refine ⟨y, ?_, h6⟩
    rw [slot_big (by omega), inner_g, ghost_of (x := x) (by rw [Nat.add_sub_cancel]; exact h2)] at h5
    rw [h2]
    exact h5
end
structure EndsI (P : Program) (rs : List ResultVar) (env0 : List (Nat × V)) (gl : List (Nat × List D)) (K : V → List (Nat × Ob) → Prop) (e : Exit) (S : Sd) : Prop where
  how : e = .ret ∨ e = .normal
  gl : S.gl = gl
  sub : Sub S.env (shift env0)
  res : ∃ vs, ResE P S rs vs ∧ K (oneOf vs) S.H
theorem noPanic_endsI {P : Program} {rs : List ResultVar} {env0 : List (Nat × V)} {gl : List (Nat × List D)} {K : V → List (Nat × Ob) → Prop} : noPanic (EndsI P rs env0 gl K) := fun c S h => by rcases h.how with h | h <;> cases h
section
variable {E : Set} {Q : Exit → Sd → Prop} {ops : Array Oper} {draw : Bool} {rest : Todo} {way : Way3} {ty : TypeId} {pos : String} {af : Array Edge} {gd : Option (Nat × Bool)}
variable {env : List (Nat × V)} {H : List (Nat × Ob)} {gl : List (Nat × List D)} {d : Nat}
theorem markOf_mem {Ds : List Nat} {D : Nat} (h : markOf D ∈ Ds.map markOf) : D ∈ Ds := by
  obtain ⟨D', h1, h2⟩ := List.mem_map.1 h
  have : D' = D := by simpa [markOf] using h2
  exact this ▸ h1
theorem s_inline {f nt1 : Nat} {fx : Operand} {xs : List Operand} {ats : Array TypeId} {fs gs vs : List V} {env0 : List (Nat × V)} {fn : Func} {c : Code} {rs : Array ResultVar} [hf : TFun E.P f] (hfx : Sd.ev ⟨env, H, gl⟩ fx = some (.clo (.func f) fs gs)) (hof : okOp fx = true) (hx : Evs ⟨env, H, gl⟩ xs vs)
    (hfn : E.P.funcs[f]? = some fn) (hbody : fn.body = some c) (hn : fn.ntmps = nt1) (hr : fn.results = rs) (hle : Nat.ble (fs ++ vs ++ gs).length nt1 = true) (hs : Nat.ble nt1 100000 = true) (hnub : Nub [] env env0) (hd : d < E.C.nt) (hg : Sd.gd ⟨env, H, gl⟩ ops ⟨some d, .call { callee := .value fx, args := xs.toArray, argTypes := ats }, ty, pos, af, gd⟩ = some true) (hw : isBar draw way = true)
    (h : ∀ tm sy, TC ⟨E.P, E.C.inner nt1 tm sy, none⟩ c (EndsI E.P rs.toList env0 gl fun v H1 => TR E draw ops Q rest ⟨(d, v) :: env0, H1, gl⟩) ⟨slots (fs ++ vs ++ gs) ++ shift env0, H, gl⟩) :
    TR E draw ops Q (.step ⟨some d, .call { callee := .value fx, args := xs.toArray, argTypes := ats }, ty, pos, af, gd⟩ way rest) ⟨env, H, gl⟩ := by
  have hsub0 : ∀ t v, look t env0 = some v → look t env = some v := fun t v hl => hnub.look hl
  refine tr_calls rfl hd hg rfl hw fun β a w hB => ?_
  obtain ⟨fs', gs', h1, h2, h3⟩ := hB.ev hfx hof
  refine ⟨f, _, run_callV hf a h1 xs ats (some d) w, ?_⟩
  obtain ⟨Ds, hd1, hd2, hd3⟩ := hB.defers
  have hargs := RepL.app (RepL.app h2 (hx.rep hB)) h3
  have hst := hB.enter hargs (Nat.le_of_ble_eq_true hle) (Nat.le_of_ble_eq_true hs) (env0 := env0) hsub0 (xs := Ds.map fun D => (D, .deferred (some []))) (fun p hp => by
    obtain ⟨D, hD, rfl⟩ := List.mem_map.1 hp
    exact ⟨(hd3 D hD).1, rfl, (hd3 D hD).2.1⟩)
  refine calls_of_tc hfn hbody (h a.tmps _) ⟨β, by rw [hn]; exact hst⟩ fun e S1 β1 a1 w1 hB1 hq => ⟨hq.how, ?_⟩
  obtain ⟨vs', hres, hK⟩ := hq.res
  obtain ⟨us', h4, h5⟩ := resE_run hB1 hres
  have hBL := hB.leave hB1 (env0 := env0) hsub0 (fun t v hl => hq.sub.look hl) (fun D hD => by
    rw [hd1] at hD
    exact List.mem_map.2 ⟨D, markOf_mem hD, rfl⟩)
  rw [hq.gl] at hBL
  exact ⟨_, run_results hr h4, _, ⟨env0, S1.H, gl⟩, β1, oneOf vs', rfl, hBL, rep_oneOf h5, hK⟩
def recOf (st : LoopState) (fn0 : FuncId) (tm : Array Value) (ps : Array Tmp) (assign body : Code) (D : Nat) : Obj := .loop { state := st, pending := none, fn := fn0, tmps := tm, params := ps, assign := assign, body := body, defers := D }
noncomputable def Ctx.iter (C : Ctx) (nt1 : Nat) (st : LoopState) (fn0 : FuncId) (tm : Array Value) (ps : Array Tmp) (assign body : Code) (D : Nat) (sy : List (Nat × Obj)) : Ctx :=
  C.inner nt1 tm ((D + 1, recOf st fn0 tm ps assign body D) :: (D, .deferred (some [])) :: sy)
theorem tc_range {f nt1 : Nat} {g : Operand} {ps : Array Tmp} {assign body : Code} {fs gs : List V} {env0 : List (Nat × V)} {fn : Func} {c : Code} {rs : Array ResultVar} (hrd : E.rd = none) [hf : TFun E.P f] (hg : Sd.ev ⟨env, H, gl⟩ g = some (.clo (.func f) fs gs)) (hog : okOp g = true)
    (hfn : E.P.funcs[f]? = some fn) (hbody : fn.body = some c) (hn : fn.ntmps = nt1) (hr : fn.results = rs) (hle : Nat.ble (fs ++ [V.clo (.yield 0) [] []] ++ gs).length nt1 = true) (hs : Nat.ble nt1 100000 = true) (hnub : Nub [] env env0)
    (h : ∀ tm fn0 sy D, tm.size = E.C.nt → E.C.nt ≤ 100000 → (∀ p ∈ sy ++ E.C.sys, p.1 < D) → TC ⟨E.P, E.C.iter nt1 .ready fn0 tm ps assign body D sy, none⟩ c (EndsI E.P rs.toList env0 gl fun _ H1 => Q .normal ⟨env0, H1, gl⟩) ⟨slots (fs ++ [V.clo (.yield (D + 1)) [] []] ++ gs) ++ shift env0, H, gl⟩) :
    TC E (.rangeFunc g ps assign body) Q ⟨env, H, gl⟩ := fun a w ⟨β, hB⟩ => by
  have hsub0 : ∀ t v, look t env0 = some v → look t env = some v := fun t v hl => hnub.look hl
  obtain ⟨P, C, rd⟩ := E
  dsimp only at hrd
  subst hrd
  obtain ⟨fs', gs', h1, h2, h3⟩ := hB.ev hg hog
  obtain ⟨Ds, hd1, hd2, hd3⟩ := hB.defers
  have hcl : ∀ args w, (callFunc f args).run P w = .ok (.enter f args) w := fun args w => by
    have := hf.ok
    unfold callOk at this
    rw [hfn] at this
    simp only [Bool.and_eq_true, Bool.not_eq_true'] at this
    have h2 : ¬ fn.name = "runtime.NumGoroutine" := by simpa using this.2
    simp [callFunc, hfn, hbody, h2]
  show Code.wpIn (WF none) 0 P (.rangeFunc g ps assign body) (Qof C Q) a w
  refine wpIn_rangeFunc fun fn0 _ => ?_
  have hro : (WF none).round = none := rfl
  rw [hro]
  let D := w.heap.size
  let W1 := (w.alloc (.deferred (some []))).alloc (recOf .ready fn0 a.tmps ps assign body D)
  have hl1 : W1.heap[D + 1]? = some (recOf .ready fn0 a.tmps ps assign body D) := by
    have := World.alloc_heap_new (w.alloc (.deferred (some []))) (recOf .ready fn0 a.tmps ps assign body D)
    rwa [World.size_alloc] at this
  have hl0 : W1.heap[D]? = some (.deferred (some [])) := (Below.heap_alloc _ _ _ (by simp [D])).trans (World.alloc_heap_new w _)
  have gr : Grows w W1 := (Grows.alloc w _).trans (Grows.alloc _ _)
  have hw0 : C.w0.heap.size ≤ D := hB.frame.size
  have hDlt : ∀ D' ∈ Ds, D' < D := fun D' hD' => (Array.getElem?_eq_some_iff.1 (hd3 D' hD').1).1
  have hSlt : ∀ p ∈ C.sys, p.1 < D := fun p hp => (Array.getElem?_eq_some_iff.1 (hB.sys p hp).1).1
  have hB1 := hB.later gr
  refine ⟨D + 1, [{ target := .collected D, args := #[] }], W1, { target := .fn (.func f) gs'.toArray, args := fs'.toArray ++ #[Value.func (.yield (D + 1)) #[] #[]] }, W1, f,
    (fs' ++ [Value.func (.yield (D + 1)) #[] #[]] ++ gs').toArray, W1, run_enterLoop_outer _ _ _ _ _, ?_, ?_, ?_, WF_depth none 0, ?_⟩
  · simp only [resolve, h1]
    simp [Deferred.ofValue, Act.eval]
  · intro f' _; trivial
  · simp [invoke, hcl]
  · refine callsIn_wide.2 ?_
    have hyv : RepL W1 (Mut C.M0 β H) β H [.clo (.yield (D + 1)) [] []] [.func (.yield (D + 1)) #[] #[]] := ⟨_, [], rfl, ⟨[], [], rfl, rfl, rfl⟩, rfl⟩
    have hk : Keeps w (Mut C.M0 β H) W1 (Mut C.M0 β H) := Keeps.below gr
    have hrr : ∀ n e sz sh xs k, look n H = some (.row e sz sh xs k) → ∃ sh' xs', look n H = some (.row e sz sh' xs' k) := fun n e sz sh xs k h => ⟨sh, xs, h⟩
    have hargs := RepL.app (RepL.app (RepL.keep hk (fun _ => rfl) hrr _ _ h2) hyv) (RepL.keep hk (fun _ => rfl) hrr _ _ h3)
    have hlen : (fs ++ [V.clo (.yield (D + 1)) [] []] ++ gs).length ≤ nt1 := by have := Nat.le_of_ble_eq_true hle; simpa using this
    have hsys : ∀ p ∈ ((D + 1, recOf .ready fn0 a.tmps ps assign body D) :: (D, .deferred (some [])) :: Ds.map fun D => (D, Obj.deferred (some []))), W1.heap[p.1]? = some p.2 ∧ sysO p.2 = true ∧ C.w0.heap.size ≤ p.1 := fun p hp => by
      rcases List.mem_cons.1 hp with rfl | hp
      · exact ⟨hl1, rfl, by show C.w0.heap.size ≤ D + 1; omega⟩
      · rcases List.mem_cons.1 hp with rfl | hp
        · exact ⟨hl0, rfl, hw0⟩
        · obtain ⟨D', hD', rfl⟩ := List.mem_map.1 hp
          exact ⟨(gr.block D' (hDlt D' hD')).trans (hd3 D' hD').1, rfl, (hd3 D' hD').2.1⟩
    have hst := hB1.enter hargs hlen (Nat.le_of_ble_eq_true hs) (env0 := env0) hsub0 hsys
    refine calls_of_tc hfn hbody (h a.tmps fn0 _ D hB.size hB.small (fun p hp => ?_)) ⟨β, by rw [hn]; exact hst⟩ fun e S1 β1 a1 w1 hBi hq => ⟨hq.how, ?_⟩
    · rcases List.mem_append.1 hp with hp | hp
      · obtain ⟨D', hD', rfl⟩ := List.mem_map.1 hp
        exact hDlt D' hD'
      · exact hSlt p hp
    · obtain ⟨vs', hres, hK⟩ := hq.res
      obtain ⟨us', h4, h5⟩ := resE_run hBi hres
      have hBL := hB1.leave hBi (env0 := env0) hsub0 (fun t v hl => hq.sub.look hl) (fun D' hD' => by
        rw [hd1] at hD'
        exact List.mem_cons_of_mem _ (List.mem_cons_of_mem _ (List.mem_map.2 ⟨D', markOf_mem hD', rfl⟩)))
      rw [hq.gl] at hBL
      have q1 : w1.heap[D + 1]? = some (recOf .ready fn0 a.tmps ps assign body D) := (hBi.sys _ List.mem_cons_self).1
      have q0 : w1.heap[D]? = some (.deferred (some [])) := (hBi.sys (D, .deferred (some [])) (List.mem_cons_of_mem _ List.mem_cons_self)).1
      refine ⟨_, run_results hr h4, none, _, run_endLoop (P := P) q1 (by simp), ?_⟩
      refine ⟨⟨env0, S1.H, gl⟩, ⟨β1, ?_⟩, hK⟩
      refine hBL.sysput q1 rfl rfl (by have : C.w0.heap.size ≤ D := hw0; show C.w0.heap.size ≤ D + 1; omega) (sys' := C.sys) (fun p hp => .inr ⟨hp, by have := hSlt p hp; omega⟩) rfl ⟨D :: Ds, by rw [hd1]; rfl, List.nodup_cons.2 ⟨fun hm => by have := hDlt D hm; omega, hd2⟩, fun D' hD' => ?_⟩
      rcases List.mem_cons.1 hD' with rfl | hD'
      · exact ⟨q0, hw0, by omega, fun p hp => by have := hSlt p hp; omega⟩
      · obtain ⟨Ds2, e1, e2, e3⟩ := hBL.defers
        have : D' ∈ Ds2 := by
          have hm : markOf D' ∈ Ds2.map markOf := by rw [← e1, hd1]; exact List.mem_map_of_mem hD'
          exact markOf_mem hm
        exact ⟨(e3 D' this).1, (e3 D' this).2.1, by have := hDlt D' hD'; omega, (e3 D' this).2.2⟩
def zipPs : List Tmp → List V → List (Nat × V)
  | p :: ps, v :: vs => (p, v) :: zipPs ps vs
  | _, _ => []
theorem foldl_size (l : List (Tmp × Value)) : ∀ tm : Array Value, (l.foldl (fun t (p, v) => t.setIfInBounds p v) tm).size = tm.size := by
  induction l with
  | nil => intro tm; rfl
  | cons x l ih => intro tm; rw [List.foldl_cons, ih]; simp
theorem foldl_other {t : Nat} : ∀ (l : List (Tmp × Value)) (tm : Array Value), (∀ p ∈ l, p.1 ≠ t) → (l.foldl (fun t (p, v) => t.setIfInBounds p v) tm)[t]? = tm[t]?
  | [], tm, _ => rfl
  | x :: l, tm, h => by
    rw [List.foldl_cons, foldl_other l _ (fun p hp => h p (List.mem_cons_of_mem _ hp))]
    exact Array.getElem?_setIfInBounds_ne (h x List.mem_cons_self)
theorem foldl_zip {w : World} {M : Nat → Nat → Prop} {β : Nat → Hd} {H : List (Nat × Ob)} : ∀ (ps : List Tmp) {vs : List V} {us : List Value} (tm : Array Value), RepL w M β H vs us → ps.Nodup → (∀ p ∈ ps, p < tm.size) → ∀ {t : Nat} {v : V}, look t (zipPs ps vs) = some v →
    ∃ x, ((ps.zip us).foldl (fun t (p, v) => t.setIfInBounds p v) tm)[t]? = some x ∧ RepV w M β H v x
  | [], _, _, _, _, _, _, _, _, h => by simp [zipPs, look] at h
  | p :: ps, [], _, _, _, _, _, _, _, h => by simp [zipPs, look] at h
  | p :: ps, v :: vs, us, tm, hr, hnd, hlt, t, v', h => by
    obtain ⟨u, r, rfl, h1, h2⟩ := hr
    obtain ⟨hp, hnd'⟩ := List.nodup_cons.1 hnd
    simp only [zipPs] at h
    rw [look_cons] at h
    rw [List.zip_cons_cons, List.foldl_cons]
    split at h
    · rename_i e
      subst e
      cases h
      refine ⟨u, ?_, h1⟩
      rw [foldl_other _ _ (fun q hq => by rintro rfl; exact hp (List.of_mem_zip hq).1)]
      simp [hlt p List.mem_cons_self]
    · exact foldl_zip ps _ h2 hnd' (fun q hq => by simpa using hlt q (List.mem_cons_of_mem _ hq)) h
structure EndsY (env1 : List (Nat × V)) (gl : List (Nat × List D)) (K : List (Nat × Ob) → Prop) (e : Exit) (S : Sd) : Prop where
  how : e = .normal
  gl : S.gl = gl
  sub : Sub S.env (shift env1)
  res : K S.H
structure EndsA (E2 : Set) (body : Code) (Q : Exit → Sd → Prop) (e : Exit) (S : Sd) : Prop where
  how : e = .normal
  go : TC E2 body Q S
theorem s_yield {P : Program} {C : Ctx} {nt1 : Nat} {fn0 : FuncId} {tm : Array Value} {ps : Array Tmp} {assign body : Code} {D : Nat} {sy : List (Nat × Obj)} {fx : Operand} {xs : List Operand} {ats : Array TypeId} {vs : List V} {env1 envc : List (Nat × V)}
    (htm : tm.size = C.nt) (hnt : C.nt ≤ 100000) (hlow : ∀ p ∈ sy ++ C.sys, p.1 < D)
    (hfx : Sd.ev ⟨env, H, gl⟩ fx = some (.clo (.yield (D + 1)) [] [])) (hof : okOp fx = true) (hx : Evs ⟨env, H, gl⟩ xs vs) (hlen : Nat.beq vs.length ps.size = true) (hps : (ps.toList.all fun p => Nat.blt p C.nt) = true) (hnd : ps.toList.Nodup)
    (hnub : Nub [] env env1) (hec : Sub env (shift envc)) (hcl : (envc.all fun p => Nat.blt p.1 C.nt) = true)
    (hd : d < nt1) (hg : Sd.gd ⟨env, H, gl⟩ ops ⟨some d, .call { callee := .value fx, args := xs.toArray, argTypes := ats }, ty, pos, af, gd⟩ = some true)
    (h : ∀ tm1 sy1, TC ⟨P, (C.iter nt1 .ready fn0 tm ps assign body D sy).inner C.nt tm1 sy1, some (D + 1)⟩ assign (EndsA ⟨P, (C.iter nt1 .busy fn0 tm ps assign body D sy).inner C.nt tm1 sy1, some (D + 1)⟩ body
      (EndsY env1 gl fun H1 => TR ⟨P, C.iter nt1 .ready fn0 tm ps assign body D sy, none⟩ false ops Q rest ⟨(d, .d (.bool true)) :: env1, H1, gl⟩)) ⟨zipPs ps.toList vs ++ (envc ++ shift env1), H, gl⟩) :
    TR ⟨P, C.iter nt1 .ready fn0 tm ps assign body D sy, none⟩ false ops Q (.step ⟨some d, .call { callee := .value fx, args := xs.toArray, argTypes := ats }, ty, pos, af, gd⟩ way rest) ⟨env, H, gl⟩ := fun a w hS => by
  have hsub0 : ∀ t v, look t env1 = some v → look t env = some v := fun t v hl => hnub.look hl
  have hS0 := hS
  obtain ⟨β, hB⟩ := hS
  let C1 := C.iter nt1 .ready fn0 tm ps assign body D sy
  have hq1 : w.heap[D + 1]? = some (recOf .ready fn0 tm ps assign body D) := (hB.sys _ List.mem_cons_self).1
  have hw0 : C.w0.heap.size ≤ D + 1 := (hB.sys (D + 1, recOf .ready fn0 tm ps assign body D) List.mem_cons_self).2.2
  obtain ⟨fs', gs', e1, e2, e3⟩ := hB.ev hfx hof
  simp only [RepL] at e2 e3
  subst e2
  subst e3
  have hargs := hx.rep hB
  have hal := hargs.length
  have hll := Nat.eq_of_beq_eq_true hlen
  obtain ⟨Ds, hd1, hd2, hd3⟩ := hB.defers
  show wpListIn (WF none) 0 P ops (Qof C1 Q) (_ :: rest.list) a w
  refine wpListIn_step fun K hK => ?_
  rw [Sd.gd_sound hS0 hg, if_pos rfl]
  refine ⟨fun _ _ => WF_fn none _, ?_⟩
  rw [Oper.semAt_eq _ _ _ (by intro c hc; cases hc)]
  have hrun : (execOp a.eval ⟨some d, .call { callee := .value fx, args := xs.toArray, argTypes := ats }, ty, pos, af, gd⟩).run P w = .ok (.round (D + 1) fn0 ((ps.zip (xs.map a.eval).toArray).foldl (fun tmps (t, a) => tmps.setIfInBounds t a) tm) assign body) w := by
    have := run_yield (P := P) (args := (xs.map a.eval).toArray) hq1 (by simp at hal ⊢; omega)
    simpa [execOp, resolve, e1, Deferred.ofValue, invoke] using this
  rw [hrun, Oper.uponIn_round]
  refine ⟨WF_depth none 0, ?_⟩
  -- the frame of the round
  let tm2 := (ps.zip (xs.map a.eval).toArray).foldl (fun tmps (t, a) => tmps.setIfInBounds t a) tm
  have htm2 : tm2 = (ps.toList.zip (xs.map a.eval)).foldl (fun tmps (t, a) => tmps.setIfInBounds t a) tm := by
    show Array.foldl _ _ _ = _
    rw [← Array.foldl_toList]
    simp
  let sy1 : List (Nat × Obj) := Ds.map fun D => (D, .deferred (some []))
  have hpl : ∀ p ∈ ps.toList, p < tm.size := fun p hp => by rw [htm]; exact Nat.le_of_ble_eq_true (List.all_eq_true.1 hps p hp)
  have hsy1 : ∀ p ∈ sy1, w.heap[p.1]? = some p.2 ∧ sysO p.2 = true ∧ C1.w0.heap.size ≤ p.1 := fun p hp => by
    obtain ⟨D', hD', rfl⟩ := List.mem_map.1 hp
    exact ⟨(hd3 D' hD').1, rfl, (hd3 D' hD').2.1⟩
  have hst : StB (C1.inner C.nt a.tmps sy1) β ⟨zipPs ps.toList vs ++ (envc ++ shift env1), H, gl⟩ { tmps := tm2, defers := [] } w := by
    refine ⟨?_, hnt, ⟨[], rfl, List.nodup_nil, (fun D h => by cases h)⟩, fun p hp => ?_, fun t v hl => ?_, hB.obs, hB.apart, hB.place, hB.glob, hB.frame, hB.out, hB.low, hB.fix, hB.has⟩
    · show tm2.size = C.nt
      rw [htm2, foldl_size, htm]
    · rcases List.mem_append.1 hp with hp | hp
      · exact hsy1 p hp
      · exact hB.sys p hp
    · dsimp only at hl
      rw [look_appE] at hl
      cases q1 : look t (zipPs ps.toList vs) with
      | some v1 =>
        rw [q1] at hl
        cases hl
        obtain ⟨x, k1, k2⟩ := foldl_zip ps.toList tm hargs hnd hpl q1
        refine ⟨x, ?_, k2⟩
        have ht : t < tm2.size := by
          rw [htm2]; exact (Array.getElem?_eq_some_iff.1 k1).1
        have hsz : tm2.size = C.nt := by rw [htm2, foldl_size, htm]
        rw [slot_small (by omega)]
        show tm2[t]? = some x
        rw [htm2]
        exact k1
      | none =>
        rw [q1] at hl
        dsimp only at hl
        rw [look_appE] at hl
        cases q2 : look t envc with
        | some v1 =>
          rw [q2] at hl
          cases hl
          have hlt : t < C.nt := Nat.le_of_ble_eq_true (List.all_eq_true.1 hcl (t, v) (look_mem q2))
          have h6 := hec.look (look_shift.2 ⟨(by omega : 100000 ≤ t + 100000), by simpa using q2⟩)
          obtain ⟨y, k1, k2⟩ := hB.env _ v h6
          refine ⟨y, ?_, k2⟩
          have htt : t < tm.size := by omega
          rw [slot_big (by omega), show (C.iter nt1 .ready fn0 tm ps assign body D sy).g (t + 100000) = ghostOf C tm (t + 100000) from rfl,
            ghost_of (a := { tmps := tm, defers := [] }) (x := tm[t]) (by rw [Nat.add_sub_cancel, slot_small (by omega)]; exact Array.getElem?_eq_getElem htt)] at k1
          rw [slot_small (by omega)]
          show tm2[t]? = some y
          rw [htm2, foldl_other _ _ (fun p hp => ?_)]
          · rw [Array.getElem?_eq_getElem htt]
            exact k1
          · rintro rfl
            have hp1 := (List.of_mem_zip hp).1
            -- a slot of the loop is among the first
            have : ∀ (ps : List Tmp) (vs : List V), ps.length = vs.length → p.1 ∈ ps → look p.1 (zipPs ps vs) ≠ none := by
              intro ps
              induction ps with
              | nil => intro vs _ h; cases h
              | cons q ps ih =>
                intro vs hl h
                cases vs with
                | nil => simp at hl
                | cons v vs =>
                  simp only [zipPs]
                  rw [look_cons]
                  split
                  · simp
                  · rename_i hne
                    rcases List.mem_cons.1 h with h | h
                    · exact absurd h.symm hne
                    · exact ih vs (by simpa using hl) h
            exact this ps.toList vs (by simp; omega) hp1 q1
        | none =>
          rw [q2] at hl
          obtain ⟨h2, h3⟩ := look_shift.1 hl
          obtain ⟨x, h4, h5⟩ := hB.env _ v (hsub0 _ v h3)
          refine ⟨x, ?_, h5⟩
          rw [slot_big h2, inner_g, ghost_of h4]
  have hls : ∀ p ∈ sy1 ++ ((D, Obj.deferred (some [])) :: (sy ++ C.sys)), p.1 ≠ D + 1 := fun p hp => by
    rcases List.mem_append.1 hp with hp | hp
    · rintro e
      have := (hsy1 p hp).1
      obtain ⟨D', hD', rfl⟩ := List.mem_map.1 hp
      dsimp only at e this
      rw [e, hq1] at this
      cases this
    · rcases List.mem_cons.1 hp with rfl | hp
      · simp
      · have := hlow p hp
        omega
  have hmem : ∀ (st : LoopState) p, p ∈ ((C.iter nt1 st fn0 tm ps assign body D sy).inner C.nt a.tmps sy1).sys → p = (D + 1, recOf st fn0 tm ps assign body D) ∨ p ∈ sy1 ++ ((D, Obj.deferred (some [])) :: (sy ++ C.sys)) := fun st p hp => by
    rcases List.mem_append.1 hp with hp | hp
    · exact .inr (List.mem_append_left _ hp)
    · rcases List.mem_cons.1 hp with rfl | hp
      · exact .inl rfl
      · exact .inr (List.mem_append_right _ (by simpa using hp))
  have hmem' : ∀ (st : LoopState) p, p ∈ sy1 ++ ((D, Obj.deferred (some [])) :: (sy ++ C.sys)) → p ∈ ((C.iter nt1 st fn0 tm ps assign body D sy).inner C.nt a.tmps sy1).sys := fun st p hp => by
    rcases List.mem_append.1 hp with hp | hp
    · exact List.mem_append_left _ hp
    · exact List.mem_append_right _ (List.mem_cons_of_mem _ (by simpa using hp))
  refine roundIn_of_wpIn (WF_fn none _) ?_
  refine wpIn_mono (h a.tmps sy1 _ w ⟨β, hst⟩) fun e a3 w3 hqa => ?_
  obtain ⟨S3, ⟨β3, hB3⟩, hA⟩ := hqa
  obtain ⟨rfl, hT⟩ := hA
  have q3 : w3.heap[D + 1]? = some (recOf .ready fn0 tm ps assign body D) := (hB3.sys _ (List.mem_append_right _ List.mem_cons_self)).1
  refine ⟨_, run_beginRound q3 rfl, ?_⟩
  obtain ⟨Ds3, f1, f2, f3⟩ := hB3.defers
  have hB4 := hB3.sysput q3 rfl (o' := recOf .busy fn0 tm ps assign body D) rfl hw0 (sys' := ((C.iter nt1 .busy fn0 tm ps assign body D sy).inner C.nt a.tmps sy1).sys) (fun p hp => (hmem .busy p hp).imp id fun hp => ⟨hmem' .ready p hp, hls p hp⟩) (a' := a3) rfl ⟨Ds3, f1, f2, fun D' hD' => by
    obtain ⟨k1, k2, k3⟩ := f3 D' hD'
    refine ⟨k1, k2, fun e => ?_, fun p hp => ?_⟩
    · rw [e, q3] at k1; cases k1
    · rcases hmem .busy p hp with rfl | hp
      · exact k3 (D + 1, recOf .ready fn0 tm ps assign body D) (List.mem_append_right sy1 (List.mem_cons_self (l := (D, Obj.deferred (some [])) :: (sy ++ C.sys))))
      · exact k3 p (hmem' .ready p hp)⟩
  refine wpIn_mono (hT _ _ ⟨β3, hB4⟩) fun e a5 w5 hqb => ?_
  obtain ⟨S5, ⟨β5, hB5⟩, hY⟩ := hqb
  obtain ⟨rfl, hgl, hsub, hres⟩ := hY
  have hm5 : (D + 1, recOf .busy fn0 tm ps assign body D) ∈ ((C.iter nt1 .busy fn0 tm ps assign body D sy).inner C.nt a.tmps sy1).sys := List.mem_append_right sy1 (List.mem_cons_self (l := (D, Obj.deferred (some [])) :: (sy ++ C.sys)))
  have q5 : w5.heap[D + 1]? = some (recOf .busy fn0 tm ps assign body D) := (hB5.sys _ hm5).1
  refine ⟨_, _, run_endRound none q5, ?_⟩
  have hB6 := hB5.sysput q5 rfl (o' := recOf .ready fn0 tm ps assign body D) rfl hw0 (sys' := ((C.iter nt1 .ready fn0 tm ps assign body D sy).inner C.nt a.tmps sy1).sys) (fun p hp => (hmem .ready p hp).imp id fun hp => ⟨hmem' .busy p hp, hls p hp⟩) (a' := { a5 with defers := [] }) rfl ⟨[], rfl, List.nodup_nil, (fun D h => by cases h)⟩
  have hBL := hB.leave (xs := sy1) hB6 (env0 := env1) hsub0 (fun t v hl => hsub.look hl) (fun D' hD' => by
    rw [hd1] at hD'
    exact List.mem_map.2 ⟨D', markOf_mem hD', rfl⟩)
  rw [hgl] at hBL
  refine hK _ _ (hres _ _ ⟨β5, ?_⟩)
  exact hBL.put hd rfl
end
end
section
def zeroDOk (P : Program) (t : Nat) (x : D) : Bool := match P.info? t with
  | some i => (match i.zero with
    | some (.agg cs) => (match x with | .agg ds => zeroD cs.toList ds | _ => false)
    | some z => zeroD [z] [x]
    | none => false)
  | none => false
class TZeroD (P : Program) (t : Nat) (x : outParam D) : Prop where
  ok : zeroDOk P t x = true
theorem zeroD_one {P : Program} {t : Nat} {x : D} (h : TZeroD P t x) : ∃ i z, P.info? t = some i ∧ i.zero = some z ∧ ∀ {w : World} {M : Nat → Nat → Prop}, RepD w M x z := by
  have := h.ok
  unfold zeroDOk at this
  cases hi : P.info? t with
  | none => rw [hi] at this; cases this
  | some i =>
    rw [hi] at this
    dsimp only at this
    cases hz : i.zero with
    | none => rw [hz] at this; cases this
    | some z =>
      rw [hz] at this
      refine ⟨i, z, rfl, hz, ?_⟩
      intro w M
      have one : zeroD [z] [x] = true → RepD w M x z := fun h => by
        obtain ⟨v, r, e, _, h1, _⟩ := zeroD_rep' (w := w) (M := M) h
        cases e
        exact h1
      cases z
      case agg cs =>
        dsimp only at this
        split at this
        · exact ⟨cs.toList, by simp, zeroD_rep' this⟩
        · cases this
      all_goals exact one this
section
variable {E : Set} {Q : Exit → Sd → Prop} {ops : Array Oper} {draw : Bool} {rest : Todo} {way : Way3} {ty : TypeId} {pos : String} {af : Array Edge} {gd : Option (Nat × Bool)} {dst : Option Tmp}
variable {env : List (Nat × V)} {H : List (Nat × Ob)} {gl : List (Nat × List D)} {d : Nat}
theorem q_min {S : Sd} {x y : Operand} {k k' : IntKind} {p q : Int} {ats : Array TypeId} (hx : S.ev x = some (.d (.int k p))) (hy : S.ev y = some (.d (.int k' q))) (hox : okOp x = true) (hoy : okOp y = true) :
    Swift E S ⟨dst, .call { callee := .builtin .min, args := #[x, y], argTypes := ats }, ty, pos, af, gd⟩ (.d (.int k (if q < p then q else p))) := Swift.mk fun β a w h => by
  have h1 : a.eval x = .int k p := h.ev hx hox
  have h2 : a.eval y = .int k' q := h.ev hy hoy
  refine ⟨.int k (if q < p then q else p), fun w' _ => ?_, rfl⟩
  simp [execOp, resolve, invoke, builtin, h1, h2, Builtin.min_, Builtin.min2]
theorem madeCells_rep {w : World} {M : Nat → Nat → Prop} {x : D} {z : Value} (hr : RepD w M x z) {sz : Nat} (hs : z.cells.size = sz) (hpos : 0 < sz) : ∀ n, RepE w M sz (List.replicate n x) (madeCells z.cells (n * sz)).toList := by
  intro n
  induction n with
  | zero => simp [madeCells, RepE]
  | succ n ih =>
    have e : (madeCells z.cells ((n + 1) * sz)).toList = z.cells.toList ++ (madeCells z.cells (n * sz)).toList := by
      apply List.ext_getElem?
      intro j
      simp only [madeCells, Array.toList_map, Array.toList_range, List.getElem?_map]
      by_cases hj : j < sz
      · rw [List.getElem?_append_left (by simp [hs, hj])]
        have : j < (n + 1) * sz := by rw [Nat.add_mul]; omega
        rw [List.getElem?_range this]
        simp only [Option.map_some, hs, Nat.mod_eq_of_lt hj]
        rw [Array.getElem?_toList, Array.getElem?_eq_getElem (by omega)]
        rw [getElem!_pos z.cells j (by omega)]
      · rw [List.getElem?_append_right (by simp [hs]; omega)]
        simp only [Array.length_toList, hs, List.getElem?_map]
        by_cases hj2 : j < (n + 1) * sz
        · have : j - sz < n * sz := by rw [Nat.add_mul] at hj2; omega
          rw [List.getElem?_range hj2, List.getElem?_range this]
          simp only [Option.map_some]
          rw [Nat.mod_eq_sub_mod (by omega)]
        · have : ¬ j - sz < n * sz := by rw [Nat.add_mul] at hj2; omega
          rw [List.getElem?_eq_none (by simp; omega), List.getElem?_eq_none (by simp; omega)]
    rw [List.replicate_succ, e]
    exact ⟨z, _, rfl, hs, hr, ih⟩
theorem g_make {S : Sd} {n t e sz m : Nat} {k : IntKind} {p : Int} {x : Operand} {z : D} [ht : TSlice E.P t e sz] [hz : TZeroD E.P e z] (hx : S.ev x = some (.d (.int k p))) (hox : okOp x = true) (hp : p = (m : Nat)) (hm : m ≤ 1000000000) (hn : S.fresh n = true) :
    Grow E S ⟨some d, .makeSlice t x x, ty, pos, af, gd⟩ { S with H := (n, .row e sz false (List.replicate m z) 0) :: S.H } (.own n 0) := Grow.mk fun β a w h => by
  subst hp
  obtain ⟨bytes, ⟨i, z', hu, hi, hz', hs, hby, hzs, hpos⟩, hbl⟩ := slice_elem ht
  obtain ⟨i2, z2, hi2, hz2, hzr⟩ := zeroD_one hz
  rw [hi] at hi2
  cases hi2
  rw [hz'] at hz2
  cases hz2
  have h1 : a.eval x = .int k (m : Nat) := h.ev hx hox
  obtain ⟨w', h2, h3, h4⟩ := run_make_full (P := E.P) w 0 t e i z' sz hu hi hz' hs k k m (by rw [hby]; have := Nat.mul_le_mul hbl hm; omega) (by unfold maxLen; omega) (Nat.zero_le _)
  have g : Grows w w' := (Below.refl _ _).grown h4 (Nat.le_refl _) (fun k hk => by cases hk)
  refine ⟨_, w', _, ?_, g, h.newRow (sh := false) (xs := List.replicate m z) hn g (fun b hb' => ?_) (by rw [List.length_replicate]; exact h3) (madeCells_rep hzr hzs hpos m), repV_own⟩
  · simp only [execOp, h1, Sem.run_bind, h2, Result.andThen_ok, Sem.run_pure]
  · simp only [Value.ownBlock, Option.some.injEq] at hb'
    omega
theorem s_make (n : Nat) {t e sz m : Nat} {k : IntKind} {p : Int} {x : Operand} {z : D} [ht : TSlice E.P t e sz] [hz : TZeroD E.P e z] (hx : Sd.ev ⟨env, H, gl⟩ x = some (.d (.int k p))) (hox : okOp x = true) (hp : p = (m : Nat)) (hm : m ≤ 1000000000) (hn : Sd.fresh ⟨env, H, gl⟩ n = true) (hd : d < E.C.nt)
    (hg : Sd.gd ⟨env, H, gl⟩ ops ⟨some d, .makeSlice t x x, ty, pos, af, gd⟩ = some true) (hw : way.loud = true) (h : TR E draw ops Q rest ⟨(d, .own n 0) :: env, (n, .row e sz false (List.replicate m z) 0) :: H, gl⟩) :
    TR E draw ops Q (.step ⟨some d, .makeSlice t x x, ty, pos, af, gd⟩ way rest) ⟨env, H, gl⟩ := tr_grow (g_make hx hox hp hm hn) rfl hd hg rfl hw h
theorem t_store1 {S : Sd} {t n off : Nat} {x y : Operand} {v : V} {cs : List V} [ht : TSize E.P t 1] (hx : S.ev x = some (.ptr n off)) (hox : okOp x = true) (hy : S.ev y = some v) (hoy : okOp y = true) (hown : ownOk S v = true) (hl : look n S.H = some (.box cs)) (hc : CellsV v [v]) (hoff : off < cs.length) :
    Turn E S ⟨none, .store t x y, ty, pos, af, gd⟩ { S with H := (n, .box (cs.set off v)) :: S.H } := by
  have hr : Repl cs off [v] (cs.set off v) := by
    clear hl hx
    induction cs generalizing off with
    | nil => simp at hoff
    | cons c cs ih =>
      cases off with
      | zero => exact .here (.done _)
      | succ off => exact .there (ih (by simpa using hoff))
  exact t_store (m := 1) hx hox hy hoy hown hl hc rfl hr
theorem s_store1 {t n off : Nat} {x y : Operand} {v : V} {cs : List V} [ht : TSize E.P t 1] (hx : Sd.ev ⟨env, H, gl⟩ x = some (.ptr n off)) (hox : okOp x = true) (hy : Sd.ev ⟨env, H, gl⟩ y = some v) (hoy : okOp y = true) (hown : ownOk ⟨env, H, gl⟩ v = true)
    (hl : look n H = some (.box cs)) (hc : CellsV v [v]) (hoff : off < cs.length) (hg : Sd.gd ⟨env, H, gl⟩ ops ⟨none, .store t x y, ty, pos, af, gd⟩ = some true) (hw : isBar draw way = true)
    (h : TR E draw ops Q rest ⟨env, (n, .box (cs.set off v)) :: H, gl⟩) : TR E draw ops Q (.step ⟨none, .store t x y, ty, pos, af, gd⟩ way rest) ⟨env, H, gl⟩ := tr_turn (t_store1 hx hox hy hoy hown hl hc hoff) rfl hg rfl hw h
theorem repE_set {w : World} {M : Nat → Nat → Prop} {sz : Nat} {z : D} {u : Value} (hu : u.cells.size = sz) (hz : RepD w M z u) : ∀ {xs : List D} {vs : List Value}, RepE w M sz xs vs → ∀ {i : Nat}, i < xs.length → RepE w M sz (xs.set i z) (vs.take (i * sz) ++ u.cells.toList ++ vs.drop (i * sz + sz))
  | [], _, _, i, hi => by simp at hi
  | x :: xs, _, ⟨v, r, e, h2, h3, h4⟩, 0, _ => by
    subst e
    refine ⟨u, r, ?_, hu, hz, h4⟩
    have : v.cells.toList.length = sz := by simpa using h2
    simp [← this]
  | x :: xs, _, ⟨v, r, e, h2, h3, h4⟩, i + 1, hi => by
    subst e
    have hl : v.cells.toList.length = sz := by simpa using h2
    refine ⟨v, _, ?_, h2, h3, repE_set hu hz h4 (i := i) (by simpa using hi)⟩
    have e1 : (i + 1) * sz = v.cells.toList.length + i * sz := by rw [hl, Nat.add_mul]; omega
    rw [e1, List.take_append, List.take_of_length_le (by omega), Nat.add_sub_cancel_left, Nat.add_assoc, List.drop_append, List.drop_of_length_le (by omega), Nat.add_sub_cancel_left]
    simp
theorem t_store_el {S : Sd} {t n k i e sz : Nat} {x y : Operand} {v : V} {z : D} {xs zs : List D} [ht : TSize E.P t sz] (hx : S.ev x = some (.el n k i 0)) (hox : okOp x = true) (hl : look n S.H = some (.row e sz false xs k)) (hy : S.ev y = some v) (hoy : okOp y = true) (hz : ToD S.H v z) (hc : CellsD z zs) (hm : zs.length = sz) (hi : i < xs.length) :
    Turn E S ⟨none, .store t x y, ty, pos, af, gd⟩ { S with H := (n, .row e sz false (xs.set i z) k) :: S.H } := Turn.mk fun β a w h => by
  obtain ⟨b, l, c, h1, h2⟩ := h.ev hx hox e sz false xs hl
  obtain ⟨ys, h3, h4⟩ := h.obs n _ hl
  have hzr := hz.rep h (h.ev hy hoy)
  obtain ⟨g, cap, cur, h5, h6, h7, h8, h9, h10, h11⟩ : ∃ g cap cur, (β n).v = .slice (some ⟨g, 0, none⟩) xs.length cap ∧ 0 ≤ g ∧ w.heap[g]? = some (.cells cur e (0, 0)) ∧ xs.length ≤ cap ∧ cap ≤ maxLen ∧ cur.size = cap * sz ∧ cur.toList.take (xs.length * sz) = ys := by
    rcases h3.2 with ⟨q, _⟩ | q
    · rw [h1] at q; cases q
    · exact q
  rw [h1] at h5
  simp only [Value.slice.injEq, Option.some.injEq, Addr.mk.injEq, and_true] at h5
  obtain ⟨rfl, _, rfl⟩ := h5
  cases hinf : E.P.info? t with
  | none => have := ht.ok; rw [hinf] at this; cases this
  | some inf =>
    have hsz : inf.size = sz := by have := ht.ok; rw [hinf] at this; simpa using this
    have hzl : (a.eval y).cells.size = sz := by have := (hc.rep hzr).length; simp at this; omega
    have hend : i * sz + sz ≤ xs.length * sz := by
      rw [show i * sz + sz = (i + 1) * sz by rw [Nat.add_mul]; omega]
      exact Nat.mul_le_mul_right _ (by omega)
    have hend2 : xs.length * sz ≤ cur.size := by rw [h10]; exact Nat.mul_le_mul_right _ h8
    have hst := run_storeCells_at E.P b (i * sz) e (a.eval y).cells.toList 0 cur w h7 (by simp; omega) (hzr.one)
    simp only [Nat.add_zero] at hst
    have hlen : (a.eval y).cells.toList.length = sz := by simpa using hzl
    have hbn : hb (β n).v = some b := by rw [h1]; rfl
    have hH : ∀ m e' sz' sh' xs' k', look m ((n, Ob.row e sz false (xs.set i z) k) :: S.H) = some (.row e' sz' sh' xs' k') → ∃ sh' xs', look m S.H = some (.row e' sz' sh' xs' k') := fun m e' sz' sh' xs' k' hm => by
      rw [look_set] at hm
      split at hm
      · rename_i eq
        subst eq
        cases hm
        exact ⟨false, xs, hl⟩
      · exact ⟨sh', xs', hm⟩
    refine ⟨_, ?_, β, h.turn (w' := w.setRow b (cur.toList.take (i * sz) ++ (a.eval y).cells.toList ++ cur.toList.drop (i * sz + (a.eval y).cells.toList.length)).toArray) hl (fun _ _ => rfl) rfl rfl rfl (by simp) (fun k _ hk => setRow_other w b k _ (fun e => hk (by rw [hbn, e]))) (fun b h => .inl h) (fun b' o' y h4 h5 _ => absurd (.inl rfl) h5) (fun _ _ _ _ _ => .inl rfl)
      (fun k t x v _ => RepV.keep k (fun _ => rfl) hH x v) (fun _ => rfl) (fun k m cs vs _ _ => RepL.keep k (fun _ => rfl) hH _ vs) (fun kp => ?_)⟩
    · simp only [Nat.add_zero] at h2
      simp [execOp, h2, Instr.storeAt, Instr.sureAddr, storeVar, run_size hinf, hsz, hzl, hst]
    · refine ⟨ys.take (i * sz) ++ (a.eval y).cells.toList ++ ys.drop (i * sz + sz), ⟨?_, .inr ⟨b, c, _, ?_, h6, setRow_heap w b _ _ e _ h7, by rw [List.length_set]; exact h8, h9, ?_, ?_⟩⟩, repE_set hzl (RepD.keep kp _ _ hzr) (RepE.keep kp _ _ _ h4) hi⟩
      · have := h4.length
        simp only [List.length_append, List.length_take, List.length_drop, List.length_set, hlen, this]
        omega
      · rw [List.length_set]
        rw [h1]
        congr 1
      · simp only [List.size_toArray, List.length_append, List.length_take, List.length_drop, Array.length_toList, hlen]
        omega
      · rw [← h11, List.length_set, hlen]
        have hl1 : (cur.toList.take (i * sz)).length = i * sz := by simp; omega
        rw [List.append_assoc, List.take_append, hl1, List.take_of_length_le (by omega), List.take_append, hlen, List.take_of_length_le (l := (a.eval y).cells.toList) (by omega), List.append_assoc, List.take_take, Nat.min_eq_left (by omega)]
        congr 2
        rw [List.drop_take]
        congr 1
        omega
theorem s_store_el {t n k i e sz : Nat} {x y : Operand} {v : V} {z : D} {xs zs : List D} [ht : TSize E.P t sz] (hx : Sd.ev ⟨env, H, gl⟩ x = some (.el n k i 0)) (hox : okOp x = true) (hl : look n H = some (.row e sz false xs k)) (hy : Sd.ev ⟨env, H, gl⟩ y = some v) (hoy : okOp y = true) (hz : ToD H v z) (hc : CellsD z zs) (hm : zs.length = sz) (hi : i < xs.length)
    (hg : Sd.gd ⟨env, H, gl⟩ ops ⟨none, .store t x y, ty, pos, af, gd⟩ = some true) (hw : isBar draw way = true)
    (h : TR E draw ops Q rest ⟨env, (n, .row e sz false (xs.set i z) k) :: H, gl⟩) : TR E draw ops Q (.step ⟨none, .store t x y, ty, pos, af, gd⟩ way rest) ⟨env, H, gl⟩ := tr_turn (t_store_el hx hox hl hy hoy hz hc hm hi) rfl hg rfl hw h
end
end
section
section
variable {E : Set} {Q : Exit → Sd → Prop} {ops : Array Oper} {draw : Bool} {rest : Todo} {way : Way3} {ty : TypeId} {pos : String} {af : Array Edge} {gd : Option (Nat × Bool)} {dst : Option Tmp}
variable {env : List (Nat × V)} {H : List (Nat × Ob)} {gl : List (Nat × List D)} {d : Nat}
theorem run_index_arr {P : Program} {t m e sz : Nat} (ht : TArray P t m e sz) {b o i : Nat} {k : IntKind} (hi : i < m) (w : World) : (Instr.indexAt t (.pointer (some ⟨b, o, none⟩)) (.int k (i : Nat))).run P w = .ok (.pointer (some ⟨b, o + i * sz, none⟩)) w := by
  obtain ⟨ie, hu, hie, hs, _⟩ := array_parts ht
  have h1 : (i : Int) < (m : Int) := by omega
  have h2 : ¬ m ≤ i := by omega
  simp [Instr.indexAt, asIntOf, run_underlying hu, h1, h2, run_size hie, hs, add_flat, Instr.sureAddr, hi]
theorem q_index_arr {S : Sd} {t m e sz i n off : Nat} {x y : Operand} {k : IntKind} {p : Int} [ht : TArray E.P t m e sz] (hx : S.ev x = some (.ptr n off)) (hy : S.ev y = some (.d (.int k p))) (hox : okOp x = true) (hoy : okOp y = true) (hi : p = (i : Nat)) (hm : i < m) :
    Swift E S ⟨dst, .indexAddr t x y, ty, pos, af, gd⟩ (.ptr n (off + i * sz)) := Swift.mk fun β a w h => by
  subst hi
  obtain ⟨b, h1, h2⟩ := h.ev hx hox
  have h3 : a.eval y = .int k (i : Nat) := h.ev hy hoy
  refine ⟨.pointer (some ⟨b, off + i * sz, none⟩), fun w' _ => ?_, b, h1, rfl⟩
  simp [execOp, h2, h3, run_index_arr ht hm]
theorem q_len_sl {S : Sd} {t e sz n off l c : Nat} {x : Operand} [ht : TSlice E.P t e sz] (hx : S.ev x = some (.sl n off l c)) (hox : okOp x = true) : Swift E S ⟨dst, .call { callee := .builtin .len, args := #[x], argTypes := #[t] }, ty, pos, af, gd⟩ (.d (.int .i64 (l : Nat))) := Swift.mk fun β a w h => by
  obtain ⟨ie, hu, _⟩ := slice_parts ht
  obtain ⟨b, h1, h2⟩ := h.ev hx hox
  refine ⟨.int .i64 (l : Nat), fun w' _ => ?_, rfl⟩
  simp [execOp, resolve, invoke, builtin, h2, Builtin.len_, goInt, run_underlying hu]
theorem StB.row_shape {C : Ctx} {S : Sd} {β : Nat → Hd} {a : Act} {w : World} (h : StB C β S a w) {n e sz k : Nat} {sh : Bool} {xs : List D} (hl : look n S.H = some (.row e sz sh xs k)) : ∃ ad c, (β n).v = .slice ad xs.length c ∧ xs.length ≤ c ∧ (ad = none → c = 0) ∧ (∀ p, ad = some p → ∃ b, p = ⟨b, 0, none⟩) := by
  obtain ⟨ys, h1, _⟩ := h.obs n _ hl
  rcases h1.2 with ⟨q1, q2⟩ | ⟨g, cap, cur, q, _, _, q3, _⟩
  · exact ⟨none, 0, by rw [q1, q2], by omega, fun _ => rfl, fun p hp => by cases hp⟩
  · exact ⟨_, cap, q, q3, (fun e => by cases e), fun p hp => by cases hp; exact ⟨_, rfl⟩⟩
theorem tc_suf {c : Code} {t n k e sz : Nat} {sh : Bool} {xs : List D} (hl : look t env = some (.own n k)) (hn : look n H = some (.row e sz sh xs k)) (h : TC E c Q ⟨(t, .suf n k 0) :: env, H, gl⟩) : TC E c Q ⟨env, H, gl⟩ := fun a w ⟨β, hB⟩ => by
  refine h a w ⟨β, { hB with env := fun s v hs => ?_ }⟩
  dsimp only at hs
  rw [look_cons] at hs
  split at hs
  · rename_i e'
    subst e'
    cases hs
    obtain ⟨x, h2, h3⟩ := hB.env t _ hl
    refine ⟨x, h2, fun e1 sz1 sh1 xs1 hl1 => ?_⟩
    obtain ⟨ad, c, h4, h5, h6, h7⟩ := hB.row_shape hl1
    refine ⟨ad, xs1.length, c, ad, h4, Nat.zero_le _, ?_, fun _ => ?_, Iff.rfl⟩
    · rw [h3 e1 sz1 sh1 xs1 hl1, h4]
      rfl
    · cases ad with
      | none => rfl
      | some p =>
        obtain ⟨b, rfl⟩ := h7 p rfl
        simp [add_flat]
  · exact hB.env s v hs
theorem run_slice_lo {P : Program} {t e sz : Nat} (ht : TSlice P t e sz) (a : Option Addr) (n c l : Nat) (k : IntKind) (hl : l ≤ n) (w : World) : (Instr.slice t (.slice a n c) (some (.int k (l : Nat))) none none).run P w = .ok (sliced a l n c sz) w := by
  obtain ⟨ie, hu, hie, hs, hpos⟩ := slice_parts ht
  have hb : (Instr.sliceBounds true n c (some (.int k (l : Nat))) none none).run P w = .ok (l, n, c) w := by
    have : (l : Int) ≤ (n : Int) := by omega
    simp [Instr.sliceBounds, Instr.sliceBound, asIntOf, this, show ¬ n < l by omega]
  simp [run_underlying hu, Instr.slice, hb, run_size hie, hs, sliced]
theorem q_slice_suf {S : Sd} {t e sz n k p l e' : Nat} {sh : Bool} {xs : List D} {x lo : Operand} {li : IntKind} {lv : Int} [ht : TSlice E.P t e sz] (hx : S.ev x = some (.suf n k p)) (hox : okOp x = true) (hl : look n S.H = some (.row e' sz sh xs k)) (hlo : S.ev lo = some (.d (.int li lv))) (hol : okOp lo = true) (el : lv = (l : Nat)) (hlm : p + l ≤ xs.length) :
    Swift E S ⟨dst, .slice t x (some lo) none none, ty, pos, af, gd⟩ (.suf n k (p + l)) := Swift.mk fun β a w h => by
  subst el
  obtain ⟨ad, ll, c, ad1, h1, h2, h3, h4, hnn⟩ := h.ev hx hox e' sz sh xs hl
  obtain ⟨ad', c', h4', h5, h6, h7⟩ := h.row_shape hl
  rw [h1] at h4'
  simp only [Value.slice.injEq] at h4'
  obtain ⟨rfl, rfl, rfl⟩ := h4'
  have hv : a.eval lo = .int li (l : Nat) := h.ev hlo hol
  refine ⟨sliced ad1 l (xs.length - p) (c - p) sz, fun w' _ => ?_, fun e2 sz2 sh2 xs2 hl2 => ?_⟩
  · have := run_slice_lo (P := E.P) ht ad1 (xs.length - p) (c - p) l li (by omega) w'
    obtain ⟨ie, hu, _⟩ := slice_parts ht
    simp [execOp, Instr.sliceAt, h3, hv, this, run_underlying hu]
  · rw [hl] at hl2
    cases hl2
    refine ⟨ad, xs.length, c, if c - p = l then ad1 else ad1.map (·.add (l * sz)), h1, hlm, ?_, fun hne => ?_, by rw [← hnn]; split <;> simp⟩
    · unfold sliced
      rw [Nat.sub_sub, Nat.sub_sub]
    · rw [if_neg (by omega), h4 (by omega)]
      cases ad with
      | none => rfl
      | some q =>
        obtain ⟨b, rfl⟩ := h7 q rfl
        simp [add_flat, Nat.add_mul]
theorem q_len_suf {S : Sd} {t e sz n k p e' sz' m : Nat} {sh : Bool} {xs : List D} {x : Operand} [ht : TSlice E.P t e sz] (hx : S.ev x = some (.suf n k p)) (hox : okOp x = true) (hl : look n S.H = some (.row e' sz' sh xs k)) (hm : xs.length - p = m) : Swift E S ⟨dst, .call { callee := .builtin .len, args := #[x], argTypes := #[t] }, ty, pos, af, gd⟩ (.d (.int .i64 (m : Nat))) := Swift.mk fun β a w h => by
  subst hm
  obtain ⟨ie, hu, _⟩ := slice_parts ht
  obtain ⟨ad, ll, c, ad1, h1, h2, h3, _⟩ := h.ev hx hox e' sz' sh xs hl
  obtain ⟨ad', c', h4, h5, h6, h7⟩ := h.row_shape hl
  rw [h1] at h4
  simp only [Value.slice.injEq] at h4
  obtain ⟨rfl, rfl, rfl⟩ := h4
  refine ⟨.int .i64 ((xs.length - p : Nat) : Int), fun w' _ => ?_, rfl⟩
  simp [execOp, resolve, invoke, builtin, h3, Builtin.len_, goInt, run_underlying hu]
theorem q_index_suf {S : Sd} {t e sz i n k' e' p : Nat} {sh : Bool} {x y : Operand} {xs : List D} {k : IntKind} {m : Int} [ht : TSlice E.P t e sz] (hx : S.ev x = some (.suf n k' p)) (hl : look n S.H = some (.row e' sz sh xs k')) (hy : S.ev y = some (.d (.int k m))) (hox : okOp x = true) (hoy : okOp y = true) (hi : m = (i : Nat)) (hz : p + i < xs.length) :
    Swift E S ⟨dst, .indexAddr t x y, ty, pos, af, gd⟩ (.el n k' (p + i) 0) := Swift.mk fun β a w h => by
  subst hi
  obtain ⟨ad, ll, c, ad1, h1, h2, h3, h4, _⟩ := h.ev hx hox e' sz sh xs hl
  obtain ⟨ys, h2', _⟩ := h.obs n _ hl
  have h5 : a.eval y = .int k (i : Nat) := h.ev hy hoy
  rcases h2'.2 with ⟨q1, q2⟩ | ⟨g, cap, cur, q, _, _, q3, _⟩
  · omega
  · rw [h1] at q
    simp only [Value.slice.injEq] at q
    obtain ⟨rfl, rfl, rfl⟩ := q
    have hne : ¬ c = p := by omega
    have h6 : a.eval x = .slice (some ⟨g, p * sz, none⟩) (xs.length - p) (c - p) := by rw [h3, h4 hne]; simp [add_flat]
    refine ⟨.pointer (some ⟨g, (p + i) * sz, none⟩), fun w' _ => ?_, fun e2 sz2 sh2 xs2 hl2 => ?_⟩
    · have := run_indexAt (P := E.P) ht (b := g) (o := p * sz) (n := xs.length - p) (c := c - p) (k := k) (i := i) (by omega) w'
      rw [Nat.add_mul]
      simp [execOp, h6, h5, this]
    · rw [hl] at hl2
      cases hl2
      exact ⟨g, _, c, h1, rfl⟩
end
end
end Go.Proofs.YtjhbglklcddekaaGreatDoor
