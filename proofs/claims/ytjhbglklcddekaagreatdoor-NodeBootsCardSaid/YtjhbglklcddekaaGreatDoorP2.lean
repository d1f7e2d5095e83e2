/- Parts: Mix, Mix2. -/
import Derived.Test.YtjhbglklcddekaaGreatDoorP1
import Derived.TacticsInMore
import Derived.OrdersIn
set_option linter.all false
set_option maxRecDepth 100000
set_option maxHeartbeats 16000000
namespace Go.Proofs.YtjhbglklcddekaaGreatDoor
open Go.RowKit
section
def Grows (w w' : World) : Prop := Below w.heap.size w w'
theorem Grows.refl (w : World) : Grows w w := Below.refl _ _
theorem Grows.trans {a b c : World} (h : Grows a b) (k : Grows b c) : Grows a c := Below.trans h (Below.mono k h.size)
theorem Grows.drew (w : World) : Grows w w.drew := (Below.refl _ _).drew
theorem Grows.alloc (w : World) (o : Obj) : Grows w (w.alloc o) := (Below.refl _ _).alloc (Nat.le_refl _) _
structure Late (W : World) where
  w : World
  grows : Grows W w
def Late.first (w : World) : Late w := ⟨w, Grows.refl w⟩
instance late_nonempty (w : World) : Nonempty (Late w) := ⟨Late.first w⟩
section
variable {P : Program} {ops : Array Oper} {Q : Exit → Act → World → Prop} {md : Region.Mode}
def opG (P : Program) (ops : Array Oper) (Q : Exit → Act → World → Prop) (i : Nat) (K : Act → World → Prop) (a : Act) (w : World) : Prop :=
  match ops[i]? with
  | none => K a w
  | some o => if Region.wanted o (yielded ops a.tmps) = true then o.wp P a w K Q else K (a.put o.dst undef) w
theorem opG_mono {i : Nat} {K K' : Act → World → Prop} {a : Act} {w : World} (h : ∀ a w, K a w → K' a w) (hh : opG P ops Q i K a w) : opG P ops Q i K' a w := by
  unfold opG at *
  split
  · rename_i ho; simp only [ho] at hh; exact h _ _ hh
  · rename_i o ho
    simp only [ho] at hh
    split
    · rename_i hw; rw [if_pos hw] at hh; exact Oper.wp_mono h hh
    · rename_i hw; rw [if_neg hw] at hh; exact h _ _ hh
def AnyG (P : Program) (md : Region.Mode) (ops : Array Oper) (Q : Exit → Act → World → Prop) (bar : Nat → Bool) : Nat → Array Bool → Act → World → Prop
  | 0, listed, a, w => ∀ w', Grows w w' → Region.ready md ops listed = [] ∧ Q .normal a w'
  | f + 1, listed, a, w => ∀ w', Grows w w' → (Region.ready md ops listed = [] → Q .normal a w') ∧
      ∀ i ∈ Region.ready md ops listed, opG P ops Q i (fun a' w'' => (bar i = false → Grows w' w'') ∧ AnyG P md ops Q bar f (listed.setIfInBounds i true) a' w'') a w'
theorem AnyG.up {bar : Nat → Bool} {f : Nat} {listed : Array Bool} {a : Act} {w w' : World} (h : AnyG P md ops Q bar f listed a w) (hg : Grows w w') : AnyG P md ops Q bar f listed a w' := by
  cases f with
  | zero => exact fun w2 h2 => h w2 (hg.trans h2)
  | succ f => exact fun w2 h2 => h w2 (hg.trans h2)
theorem AnyG.any {bar : Nat → Bool} : ∀ (f : Nat) (listed : Array Bool) (a : Act) (w : World), AnyG P md ops Q bar f listed a w → wpAny P md ops Q f listed a w := by
  intro f
  induction f with
  | zero => intro listed a w h; exact h w (Grows.refl w)
  | succ f ih =>
    intro listed a w h
    obtain ⟨h1, h2⟩ := h w (Grows.refl w)
    refine ⟨h1, fun i hi => ?_⟩
    have h3 := h2 i hi
    unfold opG at h3
    unfold wpOp
    split
    · rename_i ho; simp only [ho] at h3; exact ih _ _ _ h3.2
    · rename_i o ho
      simp only [ho] at h3
      split
      · rename_i hw; rw [if_pos hw] at h3; exact .inl (Oper.wp_mono (fun a w h => ih _ _ _ h.2) h3)
      · rename_i hw; rw [if_neg hw] at h3; exact ih _ _ _ h3.2
def YieldsG (P : Program) (ops : Array Oper) (o : Oper) (v : Value) (a : Act) (w : World) : Prop :=
  (Region.wanted o (yielded ops a.tmps) = true ∧ ∀ w', Grows w w' → Oper.quietUpon P (Grows w') w' v ((execOp a.eval o).run P w')) ∨
  (Region.wanted o (yielded ops a.tmps) = false ∧ v = undef)
theorem YieldsG.up {o : Oper} {v : Value} {a : Act} {w w' : World} (h : YieldsG P ops o v a w) (hg : Grows w w') : YieldsG P ops o v a w' :=
  h.imp (fun ⟨h1, h2⟩ => ⟨h1, fun w2 g => h2 w2 (hg.trans g)⟩) id
theorem YieldsG.of_same {o : Oper} {v : Value} {a a' : Act} {w : World} (hy : YieldsG P ops o v a w) (he : execOp a'.eval o = execOp a.eval o)
    (hw : Region.wanted o (yielded ops a'.tmps) = Region.wanted o (yielded ops a.tmps)) : YieldsG P ops o v a' w := by
  unfold YieldsG at *
  rw [he, hw]
  exact hy
theorem YieldsG.opG {i : Nat} {o : Oper} {v : Value} {a : Act} {w w' : World} (hi : ops[i]? = some o) (hy : YieldsG P ops o v a w) (hg : Grows w w') {K : Act → World → Prop}
    (h : ∀ w'', Grows w' w'' → K (a.put o.dst v) w'') : opG P ops Q i K a w' := by
  unfold Go.Proofs.YtjhbglklcddekaaGreatDoor.opG
  simp only [hi]
  rcases hy with ⟨hw, hv⟩ | ⟨hw, rfl⟩
  · rw [if_pos hw]
    have h3 := hv w' hg
    unfold Oper.wp
    generalize (execOp a.eval o).run P w' = r at *
    cases r with
    | ok x w2 =>
      cases x <;> simp only [Oper.quietUpon] at h3 <;> simp only [Oper.upon]
      case value u => obtain ⟨rfl, rfl⟩ := h3; exact h _ (Grows.refl _)
      case skip => obtain ⟨rfl, rfl⟩ := h3; exact h _ (Grows.refl _)
      case enter f args =>
        obtain ⟨rfl, hc⟩ := h3
        exact hc.mono fun e w3 ⟨he, hg3⟩ => by subst he; exact h _ hg3
    | halt x w2 => simp only [Oper.quietUpon] at h3
  · rw [if_neg (by rw [hw]; decide)]
    exact h _ (Grows.refl _)
theorem opG_put {j : Nat} {oi oj : Oper} {v : Value} (hj : ops[j]? = some oj) (hap : oi.apart ops oj = true)
    (hsi : ∀ cs b, oi.op ≠ .select cs b) (hsj : ∀ cs b, oj.op ≠ .select cs b)
    (hQ : ∀ c a w, Q (.panic c) (a.put oi.dst v) w → Q (.panic c) a w) {K : Act → World → Prop} {a : Act} {w w0 : World}
    (hy : YieldsG P ops oi v a w0) (h : opG P ops Q j K (a.put oi.dst v) w) :
    opG P ops Q j (fun a' w' => YieldsG P ops oi v a' w0 ∧ K (a'.put oi.dst v) w') a w := by
  obtain ⟨h1, h2, h3⟩ := Oper.apart_spec hap
  have keep : ∀ (b : Act), YieldsG P ops oi v b w0 → ∀ u, YieldsG P ops oi v (b.put oj.dst u) w0 := fun b hb u =>
    hb.of_same (execOp_put oi hsi b oj.dst u h3) (wanted_put oi b oj.dst u h3)
  unfold opG at *
  simp only [hj] at *
  rw [wanted_put oj a oi.dst v h1] at h
  split
  · rename_i hw
    rw [if_pos hw] at h
    unfold Oper.wp at *
    rw [execOp_put oj hsj a oi.dst v h1] at h
    generalize (execOp a.eval oj).run P w = r at *
    cases r with
    | ok x w' =>
      cases x <;> simp only [Oper.upon] at h ⊢
      case value u => exact ⟨keep a hy u, by rw [← Act.put_comm a v u h2]; exact h⟩
      case skip => exact ⟨keep a hy _, by rw [← Act.put_comm a v undef h2]; exact h⟩
      case defer d =>
        refine ⟨keep { a with defers := d :: a.defers } (hy.of_same rfl rfl) _, ?_⟩
        rw [← Act.put_comm _ v undef h2, ← Act.put_defers]
        exact h
      case enter f args =>
        refine Calls.mono h fun e w'' he => ?_
        cases e with
        | returned u => exact ⟨keep a hy u, by rw [← Act.put_comm a v u h2]; exact he⟩
        | panicked c => exact hQ _ _ _ he
        | outgrown => exact he
      case row row args => exact Rows.mono h fun u w'' he => ⟨keep a hy u, by rw [← Act.put_comm a v u h2]; exact he⟩
    | halt x w' =>
      cases x <;> simp only [Oper.upon] at h ⊢
      case panic u => exact hQ _ _ _ h
  · rename_i hw
    rw [if_neg hw] at h
    exact ⟨keep a hy _, by rw [← Act.put_comm a v undef h2]; exact h⟩
theorem AnyG.first {bar : Nat → Bool} {i : Nat} {oi : Oper} {v : Value} (hi : ops[i]? = some oi) (hsel : ∀ (j : Nat) (o : Oper) cs b, ops[j]? = some o → o.op ≠ .select cs b)
    (hQ : ∀ c a w, Q (.panic c) (a.put oi.dst v) w → Q (.panic c) a w)
    (hbar : ∀ j oj, ops[j]? = some oj → bar j = true → ∃ e ∈ oj.after, Region.binds md e = true ∧ e.on = i) :
    ∀ (f : Nat) (listed : Array Bool) (a : Act) (w : World),
      (∀ j oj, ops[j]? = some oj → j ≠ i → listed.getD j true = false → (∀ e ∈ oj.after, Region.binds md e = true → e.on ≠ i) → oi.apart ops oj = true) →
      i ∈ Region.ready md ops listed → YieldsG P ops oi v a w →
      AnyG P md ops Q bar f (listed.setIfInBounds i true) (a.put oi.dst v) w → AnyG P md ops Q bar (f + 1) listed a w := by
  intro f
  induction f with
  | zero =>
    intro listed a w _ hr hy H w' hg
    refine ⟨fun h => (by rw [h] at hr; cases hr), fun j hj => ?_⟩
    by_cases hji : j = i
    · subst hji
      exact hy.opG hi hg fun w'' g => ⟨fun _ => g, H.up (hg.trans g)⟩
    · have := ready_mono hj hji
      rw [(H w' hg).1] at this
      cases this
  | succ f ih =>
    intro listed a w hfree hr hy H w' hg
    refine ⟨fun h => (by rw [h] at hr; cases hr), fun j hj => ?_⟩
    by_cases hji : j = i
    · subst hji
      exact hy.opG hi hg fun w'' g => ⟨fun _ => g, H.up (hg.trans g)⟩
    · obtain ⟨hjun, oj, hoj, hall⟩ := mem_ready.1 hj
      have hnot : ∀ e ∈ oj.after, Region.binds md e = true → e.on ≠ i := fun e he hb heq => by
        have h1 := hall e he hb
        have h0 := (mem_ready.1 hr).1
        rw [heq] at h1
        rcases Nat.lt_or_ge i listed.size with h' | h'
        · simp [h'] at h0 h1; rw [h0] at h1; cases h1
        · simp [Array.getElem?_eq_none h'] at h1
      have hbj : bar j = false := by
        cases hb : bar j with
        | false => rfl
        | true =>
          obtain ⟨e, he, hb1, hb2⟩ := hbar j oj hoj hb
          exact absurd hb2 (hnot e he hb1)
      have h1 := (H w' hg).2 j (ready_mono hj hji)
      have h2 := opG_put hoj (hfree j oj hoj hji hjun hnot) (fun cs b => hsel i oi cs b hi) (fun cs b => hsel j oj cs b hoj) hQ hy h1
      have hfree' : ∀ k ok, ops[k]? = some ok → k ≠ i → (listed.setIfInBounds j true).getD k true = false →
          (∀ e ∈ ok.after, Region.binds md e = true → e.on ≠ i) → oi.apart ops ok = true := fun k ok hk hki hun hno => by
        refine hfree k ok hk hki ?_ hno
        by_cases hjk : j = k
        · subst hjk; exact hjun
        · rw [getD_set_ne true hjk] at hun; exact hun
      refine opG_mono (fun a' w'' h3 => ⟨fun _ => h3.2.1 hbj, ih (listed.setIfInBounds j true) a' w'' hfree' (ready_mono hr (Ne.symm hji)) (h3.1.up (hg.trans (h3.2.1 hbj))) ?_⟩) h2
      rw [Array.setIfInBounds_comm _ _ hji]
      exact h3.2.2
inductive Way where
  | quiet
  | grow
  | bar
def wpMix (P : Program) (ops : Array Oper) (Q : Exit → Act → World → Prop) : List (Oper × Way) → Act → World → Prop
  | [], a, w => ∀ n : Late w, Q .normal a n.w
  | (o, .quiet) :: rest, a, w =>
    if Region.wanted o (yielded ops a.tmps) = true then ∃ v, (∀ n : Late w, Oper.quietUpon P (Grows n.w) n.w v ((execOp a.eval o).run P n.w)) ∧ wpMix P ops Q rest (a.put o.dst v) w
    else wpMix P ops Q rest (a.put o.dst undef) w
  | (o, .grow) :: rest, a, w => ∀ n : Late w,
    if Region.wanted o (yielded ops a.tmps) = true then o.wp P a n.w (fun a' w' => Grows n.w w' ∧ wpMix P ops Q rest a' w') Q else wpMix P ops Q rest (a.put o.dst undef) n.w
  | (o, .bar) :: rest, a, w => ∀ n : Late w,
    if Region.wanted o (yielded ops a.tmps) = true then o.wp P a n.w (fun a' w' => wpMix P ops Q rest a' w') Q else wpMix P ops Q rest (a.put o.dst undef) n.w
def mixOk (md : Region.Mode) (ops : Array Oper) (bars : List Nat) : Array Bool → List (Nat × Way) → Bool
  | listed, [] => (Region.ready md ops listed).isEmpty
  | listed, (i, .quiet) :: rest => (Region.ready md ops listed).contains i && Region.free md ops listed i &&
      bars.all (fun j => match ops[j]? with | some oj => oj.after.any (fun e => Region.binds md e && e.on == i) | none => false) && mixOk md ops bars (listed.setIfInBounds i true) rest
  | listed, (i, .grow) :: rest => (Region.ready md ops listed == [i]) && !bars.contains i && mixOk md ops bars (listed.setIfInBounds i true) rest
  | listed, (i, .bar) :: rest => (Region.ready md ops listed == [i]) && bars.contains i && mixOk md ops bars (listed.setIfInBounds i true) rest
def planOps (ops : Array Oper) : List (Nat × Way) → List (Oper × Way)
  | [] => []
  | (i, x) :: rest => match ops[i]? with
    | some o => (o, x) :: planOps ops rest
    | none => []
theorem anyG_of_mix (bars : List Nat) (hs : Region.noSelect ops = true) (hQ : ∀ c (a : Act) d v w, Q (.panic c) (a.put d v) w → Q (.panic c) a w) :
    ∀ (plan : List (Nat × Way)) (listed : Array Bool) (a : Act) (w : World), mixOk md ops bars listed plan = true → wpMix P ops Q (planOps ops plan) a w →
      AnyG P md ops Q (fun j => bars.contains j) plan.length listed a w := by
  intro plan
  induction plan with
  | nil =>
    intro listed a w h0 h w' hg
    exact ⟨by simpa [mixOk] using h0, h ⟨w', hg⟩⟩
  | cons p rest ih =>
    intro listed a w h0 h
    obtain ⟨i, x⟩ := p
    cases x with
    | quiet =>
      simp only [mixOk, Bool.and_eq_true] at h0
      obtain ⟨⟨⟨hr, hf⟩, hb⟩, h0⟩ := h0
      have hr : i ∈ Region.ready md ops listed := by simpa using hr
      obtain ⟨_, o, ho, _⟩ := mem_ready.1 hr
      simp only [planOps, ho, wpMix] at h
      have hbar : ∀ j oj, ops[j]? = some oj → bars.contains j = true → ∃ e ∈ oj.after, Region.binds md e = true ∧ e.on = i := by
        intro j oj hoj hj
        have := List.all_eq_true.1 hb j (by simpa using hj)
        simp only [hoj, Array.any_eq_true'] at this
        obtain ⟨e, he, h2⟩ := this
        simp only [Bool.and_eq_true, beq_iff_eq] at h2
        exact ⟨e, he, h2.1, h2.2⟩
      by_cases hw : Region.wanted o (yielded ops a.tmps) = true
      · rw [if_pos hw] at h
        obtain ⟨v, hv, h⟩ := h
        exact AnyG.first ho (Region.noSelect_spec hs) (fun c a w => hQ c a o.dst v w) hbar _ listed a w (Region.free_spec ho hf) hr (.inl ⟨hw, fun w' g => hv ⟨w', g⟩⟩) (ih _ _ _ h0 h)
      · rw [if_neg hw] at h
        exact AnyG.first ho (Region.noSelect_spec hs) (fun c a w => hQ c a o.dst undef w) hbar _ listed a w (Region.free_spec ho hf) hr (.inr ⟨by simpa using hw, rfl⟩) (ih _ _ _ h0 h)
    | grow =>
      simp only [mixOk, Bool.and_eq_true, beq_iff_eq] at h0
      obtain ⟨⟨hr, hnb⟩, h0⟩ := h0
      intro w' hg
      refine ⟨fun h1 => (by rw [h1] at hr; cases hr), fun j hj => ?_⟩
      rw [hr] at hj
      obtain rfl : j = i := by simpa using hj
      have hr' : j ∈ Region.ready md ops listed := by rw [hr]; simp
      obtain ⟨_, o, ho, _⟩ := mem_ready.1 hr'
      simp only [planOps, ho, wpMix] at h
      have h1 := h ⟨w', hg⟩
      unfold opG
      simp only [ho]
      split
      · rename_i hw
        rw [if_pos hw] at h1
        exact Oper.wp_mono (fun a2 w2 h2 => ⟨fun _ => h2.1, ih _ _ _ h0 h2.2⟩) h1
      · rename_i hw
        rw [if_neg hw] at h1
        exact ⟨fun _ => Grows.refl _, ih _ _ _ h0 h1⟩
    | bar =>
      simp only [mixOk, Bool.and_eq_true, beq_iff_eq] at h0
      obtain ⟨⟨hr, hnb⟩, h0⟩ := h0
      intro w' hg
      refine ⟨fun h1 => (by rw [h1] at hr; cases hr), fun j hj => ?_⟩
      rw [hr] at hj
      obtain rfl : j = i := by simpa using hj
      have hr' : j ∈ Region.ready md ops listed := by rw [hr]; simp
      obtain ⟨_, o, ho, _⟩ := mem_ready.1 hr'
      simp only [planOps, ho, wpMix] at h
      have h1 := h ⟨w', hg⟩
      unfold opG
      simp only [ho]
      split
      · rename_i hw
        rw [if_pos hw] at h1
        exact Oper.wp_mono (fun a2 w2 h2 => ⟨fun hb => (by rw [hnb] at hb; cases hb), ih _ _ _ h0 h2⟩) h1
      · rename_i hw
        rw [if_neg hw] at h1
        exact ⟨fun hb => (by rw [hnb] at hb; cases hb), ih _ _ _ h0 h1⟩
theorem wp_region_mix {id : Nat} {a : Act} {w : World} (bars : List Nat) (plan : List (Nat × Way)) (hm : P.follows .mixedOrders = true) (hs : Region.noSelect ops = true) (hl : plan.length = ops.size)
    (hB : mixOk .any ops bars (Array.replicate ops.size false) plan = true) (hQ : ∀ c (a : Act) d v w, Q (.panic c) (a.put d v) w → Q (.panic c) a w)
    (h : wpMix P ops Q (planOps ops plan) a w) : (Code.region id ops true).wp P Q a w := by
  refine wp_region_any hm ?_
  have h1 := anyG_of_mix (md := .any) bars hs hQ plan _ a w hB h
  rw [hl] at h1
  exact (h1.up (Grows.drew w)).any
def noDefer (ops : Array Oper) : Bool := ops.all fun o => match o.op with | .defer _ => false | _ => true
theorem noDefer_spec {ops : Array Oper} (h : noDefer ops = true) {i : Nat} {o : Oper} (ho : ops[i]? = some o) (c : Call) : o.op ≠ .defer c := by
  intro heq
  have := Array.all_eq_true_iff_forall_mem.1 h o (Array.mem_of_getElem? ho)
  simp [heq] at this
theorem wpIn_round_of_wp {o : Oper} {a : Act} {w : World} {K : Act → World → Prop} {l n : Nat} (hd : ∀ c, o.op ≠ .defer c) (h : o.wp P a w K Q) : o.wpIn (Fence.wide.inRound l) n P a w K Q := by
  unfold Oper.wp at h
  refine ⟨fun _ _ => trivial, ?_⟩
  rw [Oper.semAt_eq _ _ _ hd]
  generalize (execOp a.eval o).run P w = r at *
  cases r with
  | ok x w' =>
    cases x <;> simp only [Oper.upon] at h <;> simp only [Oper.uponIn]
    case value v => exact h
    case skip => exact h
    case defer d => exact h
    case enter f args => exact ⟨fun hx => by simp [Fence.wide] at hx, callsIn_wide.2 h⟩
    case row row args =>
      refine ⟨fun hx => by simp [Fence.wide] at hx, fun c cs _ => ?_⟩
      obtain ⟨v, w'', h1, h2⟩ := h c cs
      exact ⟨v, w'', h1, stepsIn_wide.2 h2⟩
  | halt x w' => cases x <;> simp only [Oper.upon] at h <;> simp only [Oper.uponIn] <;> exact h
theorem AnyG.anyIn {bar : Nat → Bool} {l n : Nat} (hd : noDefer ops = true) : ∀ (f : Nat) (listed : Array Bool) (a : Act) (w : World), AnyG P md ops Q bar f listed a w →
    wpAnyIn (Fence.wide.inRound l) n P md ops Q f listed a w := by
  intro f
  induction f with
  | zero => intro listed a w h; exact h w (Grows.refl w)
  | succ f ih =>
    intro listed a w h
    obtain ⟨h1, h2⟩ := h w (Grows.refl w)
    refine ⟨h1, fun i hi => ?_⟩
    have h3 := h2 i hi
    unfold opG at h3
    unfold wpOpIn
    split
    · rename_i ho; simp only [ho] at h3; exact ih _ _ _ h3.2
    · rename_i o ho
      simp only [ho] at h3
      split
      · rename_i hw; rw [if_pos hw] at h3; exact wpIn_round_of_wp (noDefer_spec hd ho) (Oper.wp_mono (fun a w h => ih _ _ _ h.2) h3)
      · rename_i hw; rw [if_neg hw] at h3; exact ⟨fun _ _ => trivial, ih _ _ _ h3.2⟩
theorem wpIn_region_mix {id : Nat} {a : Act} {w : World} {l n : Nat} (bars : List Nat) (plan : List (Nat × Way)) (hm : P.follows .mixedOrders = true) (hs : Region.noSelect ops = true) (hd : noDefer ops = true) (hl : plan.length = ops.size)
    (hB : mixOk .any ops bars (Array.replicate ops.size false) plan = true) (hQ : ∀ c (a : Act) d v w, Q (.panic c) (a.put d v) w → Q (.panic c) a w)
    (h : wpMix P ops Q (planOps ops plan) a w) : (Code.region id ops true).wpIn (Fence.wide.inRound l) n P Q a w := by
  refine wpIn_region_any hm ?_
  have h1 := anyG_of_mix (md := .any) bars hs hQ plan _ a w hB h
  rw [hl] at h1
  exact (h1.up (Grows.drew w)).anyIn hd _ _ _ _
end
theorem late_cell {W : World} {b o : Nat} {v : Value} (h : W.cell? ⟨b, o, none⟩ = some v) : ∀ n : Late W, n.w.cell? ⟨b, o, none⟩ = some v :=
  fun n => (n.grows.cell (p := ⟨b, o, none⟩) (World.block_lt_of_cell? W _ h)).trans h
theorem late_new_frozen {W : World} {xs : Array Value} {t : TypeId} : ∀ (n : Late (W.alloc (.cells xs t))) (j : Nat), n.w.frozen? ⟨W.heap.size, j, none⟩ = false :=
  fun n j => (n.grows.frozen (p := ⟨W.heap.size, j, none⟩) (by simp)).trans (frozen_of_row _ W.heap.size j xs t (heap_alloc_new W _))
theorem late_new_cell {W : World} {xs : List Value} {t : TypeId} {j : Nat} {v : Value} (h : xs[j]? = some v) : ∀ (n : Late (W.alloc (.cells xs.toArray t))), n.w.cell? ⟨W.heap.size, j, none⟩ = some v :=
  late_cell (by rw [cell_of_row _ W.heap.size j xs.toArray t (0, 0) (heap_alloc_new W _)]; simpa using h)
theorem Sl.late {W : World} {B : Nat} {a : Option Addr} {n c size : Nat} {xs : List Value} (h : Sl W B a n c size xs) (m : Late W) : Sl m.w m.w.heap.size a n c size xs := h.later m.grows
theorem toG {P : Program} {f : FuncId} {args : Array Value} {w : World} {v : Value} (h : Calls P f args w fun e w' => e = .returned v ∧ Below w.heap.size w w') : Calls P f args w fun e w' => e = .returned v ∧ Grows w w' := h
section
variable {P : Program} {ops : Array Oper} {Q : Exit → Act → World → Prop} {o : Oper} {rest : List (Oper × Way)} {a : Act} {w : World}
theorem mix_quiet (h : ∀ K : Act → Prop, (∀ a, wpMix P ops Q rest a w → K a) →
    if Region.wanted o (yielded ops a.tmps) = true then ∃ v, (∀ n : Late w, Oper.quietUpon P (Grows n.w) n.w v ((execOp a.eval o).run P n.w)) ∧ K (a.put o.dst v) else K (a.put o.dst undef)) :
    wpMix P ops Q ((o, .quiet) :: rest) a w := h _ fun _ h => h
theorem mix_grow (h : ∀ n : Late w, ∀ K : Act → World → Prop, (∀ a w', Grows n.w w' → wpMix P ops Q rest a w' → K a w') →
    if Region.wanted o (yielded ops a.tmps) = true then o.wp P a n.w K Q else K (a.put o.dst undef) n.w) :
    wpMix P ops Q ((o, .grow) :: rest) a w := fun n => by
  have := h n (fun a' w' => Grows n.w w' ∧ wpMix P ops Q rest a' w') (fun _ _ g h => ⟨g, h⟩)
  split
  · rename_i hw; rw [if_pos hw] at this; exact this
  · rename_i hw; rw [if_neg hw] at this; exact this.2
theorem mix_bar (h : ∀ n : Late w, ∀ K : Act → World → Prop, (∀ a w', wpMix P ops Q rest a w' → K a w') →
    if Region.wanted o (yielded ops a.tmps) = true then o.wp P a n.w K Q else K (a.put o.dst undef) n.w) :
    wpMix P ops Q ((o, .bar) :: rest) a w := fun n => h n _ (fun _ _ h => h)
theorem mix_nil (h : ∀ n : Late w, Q .normal a n.w) : wpMix P ops Q [] a w := h
end
end
section
section
variable {P : Program} {ops : Array Oper} {Q : Exit → Act → World → Prop} {md : Region.Mode}
theorem AnyG.first2 {bar : Nat → Bool} {i : Nat} {oi : Oper} {v : Value} (hi : ops[i]? = some oi) (hsel : ∀ (j : Nat) (o : Oper) cs b, ops[j]? = some o → o.op ≠ .select cs b)
    (hQ : ∀ c a w, Q (.panic c) (a.put oi.dst v) w → Q (.panic c) a w)
    (D : Nat → Bool) (hD : ∀ k ok, ops[k]? = some ok → D k = true → ∃ e ∈ ok.after, Region.binds md e = true ∧ (e.on = i ∨ D e.on = true)) (hbar : ∀ j, bar j = true → D j = true) :
    ∀ (f : Nat) (listed : Array Bool) (a : Act) (w : World),
      (∀ j oj, ops[j]? = some oj → j ≠ i → listed.getD j true = false → (∀ e ∈ oj.after, Region.binds md e = true → e.on ≠ i) → oi.apart ops oj = true) →
      (∀ k, D k = true → listed.getD k true = false) → i ∈ Region.ready md ops listed → YieldsG P ops oi v a w →
      AnyG P md ops Q bar f (listed.setIfInBounds i true) (a.put oi.dst v) w → AnyG P md ops Q bar (f + 1) listed a w := by
  intro f
  induction f with
  | zero =>
    intro listed a w _ _ hr hy H w' hg
    refine ⟨fun h => (by rw [h] at hr; cases hr), fun j hj => ?_⟩
    by_cases hji : j = i
    · subst hji
      exact hy.opG hi hg fun w'' g => ⟨fun _ => g, H.up (hg.trans g)⟩
    · have := ready_mono hj hji
      rw [(H w' hg).1] at this
      cases this
  | succ f ih =>
    intro listed a w hfree hun0 hr hy H w' hg
    refine ⟨fun h => (by rw [h] at hr; cases hr), fun j hj => ?_⟩
    by_cases hji : j = i
    · subst hji
      exact hy.opG hi hg fun w'' g => ⟨fun _ => g, H.up (hg.trans g)⟩
    · obtain ⟨hjun, oj, hoj, hall⟩ := mem_ready.1 hj
      have hnot : ∀ e ∈ oj.after, Region.binds md e = true → e.on ≠ i := fun e he hb heq => by
        have h1 := hall e he hb
        have h0 := (mem_ready.1 hr).1
        rw [heq] at h1
        rcases Nat.lt_or_ge i listed.size with h' | h'
        · simp [h'] at h0 h1; rw [h0] at h1; cases h1
        · simp [Array.getElem?_eq_none h'] at h1
      have hDj : D j = false := by
        cases hb : D j with
        | false => rfl
        | true =>
          obtain ⟨e, he, hb1, hb2⟩ := hD j oj hoj hb
          rcases hb2 with hb2 | hb2
          · exact absurd hb2 (hnot e he hb1)
          · have h1 := hall e he hb1
            have h2 := hun0 _ hb2
            rcases Nat.lt_or_ge e.on listed.size with h' | h'
            · simp [h'] at h1 h2; rw [h2] at h1; cases h1
            · simp [Array.getElem?_eq_none h'] at h1
      have hbj : bar j = false := by
        cases hb : bar j with
        | false => rfl
        | true => rw [hbar j hb] at hDj; cases hDj
      have h1 := (H w' hg).2 j (ready_mono hj hji)
      have h2 := opG_put hoj (hfree j oj hoj hji hjun hnot) (fun cs b => hsel i oi cs b hi) (fun cs b => hsel j oj cs b hoj) hQ hy h1
      have hfree' : ∀ k ok, ops[k]? = some ok → k ≠ i → (listed.setIfInBounds j true).getD k true = false →
          (∀ e ∈ ok.after, Region.binds md e = true → e.on ≠ i) → oi.apart ops ok = true := fun k ok hk hki hun hno => by
        refine hfree k ok hk hki ?_ hno
        by_cases hjk : j = k
        · subst hjk; exact hjun
        · rw [getD_set_ne true hjk] at hun; exact hun
      refine opG_mono (fun a' w'' h3 => ⟨fun _ => h3.2.1 hbj, ih (listed.setIfInBounds j true) a' w'' hfree' (fun k hk => by
        rw [getD_set_ne true (show j ≠ k by rintro rfl; rw [hDj] at hk; cases hk)]
        exact hun0 k hk) (ready_mono hr (Ne.symm hji)) (h3.1.up (hg.trans (h3.2.1 hbj))) ?_⟩) h2
      rw [Array.setIfInBounds_comm _ _ hji]
      exact h3.2.2
def waits (md : Region.Mode) (ops : Array Oper) (i : Nat) : List (Nat × Way) → List Nat → List Nat
  | [], D => D
  | (k, _) :: rest, D => waits md ops i rest (match ops[k]? with
    | some ok => if ok.after.any (fun e => Region.binds md e && (e.on == i || D.contains e.on)) then k :: D else D
    | none => D)
def waitOk (md : Region.Mode) (ops : Array Oper) (bars : List Nat) (listed : Array Bool) (i : Nat) (D : List Nat) : Bool :=
  D.all (fun k => match ops[k]? with
    | some ok => ok.after.any (fun e => Region.binds md e && (e.on == i || D.contains e.on))
    | none => false) && D.all (fun k => !listed.getD k true) && bars.all (fun j => D.contains j)
def mixOk2 (md : Region.Mode) (ops : Array Oper) (bars : List Nat) : Array Bool → List (Nat × Way) → Bool
  | listed, [] => (Region.ready md ops listed).isEmpty
  | listed, (i, .quiet) :: rest => (Region.ready md ops listed).contains i && Region.free md ops listed i &&
      (waitOk md ops bars listed i (waits md ops i rest [])) && mixOk2 md ops bars (listed.setIfInBounds i true) rest
  | listed, (i, .grow) :: rest => (Region.ready md ops listed == [i]) && !bars.contains i && mixOk2 md ops bars (listed.setIfInBounds i true) rest
  | listed, (i, .bar) :: rest => (Region.ready md ops listed == [i]) && bars.contains i && mixOk2 md ops bars (listed.setIfInBounds i true) rest
theorem waitOk_spec {md : Region.Mode} {ops : Array Oper} {bars : List Nat} {listed : Array Bool} {i : Nat} {D : List Nat} (h : waitOk md ops bars listed i D = true) :
    (∀ k ok, ops[k]? = some ok → D.contains k = true → ∃ e ∈ ok.after, Region.binds md e = true ∧ (e.on = i ∨ D.contains e.on = true)) ∧ (∀ k, D.contains k = true → listed.getD k true = false) ∧ (∀ j, bars.contains j = true → D.contains j = true) := by
  simp only [waitOk, Bool.and_eq_true, List.all_eq_true] at h
  obtain ⟨⟨h1, h2⟩, h3⟩ := h
  refine ⟨fun k ok hk hD => ?_, fun k hD => by simpa using h2 k (by simpa using hD), fun j hj => h3 j (by simpa using hj)⟩
  have := h1 k (by simpa using hD)
  simp only [hk, Array.any_eq_true'] at this
  obtain ⟨e, he, h4⟩ := this
  simp only [Bool.and_eq_true, Bool.or_eq_true, beq_iff_eq] at h4
  exact ⟨e, he, h4.1, h4.2⟩
theorem anyG_of_mix2 (bars : List Nat) (hs : Region.noSelect ops = true) (hQ : ∀ c (a : Act) d v w, Q (.panic c) (a.put d v) w → Q (.panic c) a w) :
    ∀ (plan : List (Nat × Way)) (listed : Array Bool) (a : Act) (w : World), mixOk2 md ops bars listed plan = true → wpMix P ops Q (planOps ops plan) a w →
      AnyG P md ops Q (fun j => bars.contains j) plan.length listed a w := by
  intro plan
  induction plan with
  | nil =>
    intro listed a w h0 h w' hg
    exact ⟨by simpa [mixOk2] using h0, h ⟨w', hg⟩⟩
  | cons p rest ih =>
    intro listed a w h0 h
    obtain ⟨i, x⟩ := p
    cases x with
    | quiet =>
      simp only [mixOk2, Bool.and_eq_true] at h0
      obtain ⟨⟨⟨hr, hf⟩, hb⟩, h0⟩ := h0
      have hr : i ∈ Region.ready md ops listed := by simpa using hr
      obtain ⟨_, o, ho, _⟩ := mem_ready.1 hr
      simp only [planOps, ho, wpMix] at h
      obtain ⟨hD, hU, hb⟩ := waitOk_spec hb
      by_cases hw : Region.wanted o (yielded ops a.tmps) = true
      · rw [if_pos hw] at h
        obtain ⟨v, hv, h⟩ := h
        exact AnyG.first2 ho (Region.noSelect_spec hs) (fun c a w => hQ c a o.dst v w) (fun k => (waits md ops i rest []).contains k) hD hb _ listed a w (Region.free_spec ho hf) hU hr (.inl ⟨hw, fun w' g => hv ⟨w', g⟩⟩) (ih _ _ _ h0 h)
      · rw [if_neg hw] at h
        exact AnyG.first2 ho (Region.noSelect_spec hs) (fun c a w => hQ c a o.dst undef w) (fun k => (waits md ops i rest []).contains k) hD hb _ listed a w (Region.free_spec ho hf) hU hr (.inr ⟨by simpa using hw, rfl⟩) (ih _ _ _ h0 h)
    | grow =>
      simp only [mixOk2, Bool.and_eq_true, beq_iff_eq] at h0
      obtain ⟨⟨hr, hnb⟩, h0⟩ := h0
      intro w' hg
      refine ⟨fun h1 => (by rw [h1] at hr; cases hr), fun j hj => ?_⟩
      rw [hr] at hj
      obtain rfl : j = i := by simpa using hj
      have hr' : j ∈ Region.ready md ops listed := by rw [hr]; simp
      obtain ⟨_, o, ho, _⟩ := mem_ready.1 hr'
      simp only [planOps, ho, wpMix] at h
      have h1 := h ⟨w', hg⟩
      unfold opG
      simp only [ho]
      split
      · rename_i hw
        rw [if_pos hw] at h1
        exact Oper.wp_mono (fun a2 w2 h2 => ⟨fun _ => h2.1, ih _ _ _ h0 h2.2⟩) h1
      · rename_i hw
        rw [if_neg hw] at h1
        exact ⟨fun _ => Grows.refl _, ih _ _ _ h0 h1⟩
    | bar =>
      simp only [mixOk2, Bool.and_eq_true, beq_iff_eq] at h0
      obtain ⟨⟨hr, hnb⟩, h0⟩ := h0
      intro w' hg
      refine ⟨fun h1 => (by rw [h1] at hr; cases hr), fun j hj => ?_⟩
      rw [hr] at hj
      obtain rfl : j = i := by simpa using hj
      have hr' : j ∈ Region.ready md ops listed := by rw [hr]; simp
      obtain ⟨_, o, ho, _⟩ := mem_ready.1 hr'
      simp only [planOps, ho, wpMix] at h
      have h1 := h ⟨w', hg⟩
      unfold opG
      simp only [ho]
      split
      · rename_i hw
        rw [if_pos hw] at h1
        exact Oper.wp_mono (fun a2 w2 h2 => ⟨fun hb => (by rw [hnb] at hb; cases hb), ih _ _ _ h0 h2⟩) h1
      · rename_i hw
        rw [if_neg hw] at h1
        exact ⟨fun hb => (by rw [hnb] at hb; cases hb), ih _ _ _ h0 h1⟩
theorem wp_region_mix2 {id : Nat} {a : Act} {w : World} (bars : List Nat) (plan : List (Nat × Way)) (hm : P.follows .mixedOrders = true) (hs : Region.noSelect ops = true) (hl : plan.length = ops.size)
    (hB : mixOk2 .any ops bars (Array.replicate ops.size false) plan = true) (hQ : ∀ c (a : Act) d v w, Q (.panic c) (a.put d v) w → Q (.panic c) a w)
    (h : wpMix P ops Q (planOps ops plan) a w) : (Code.region id ops true).wp P Q a w := by
  refine wp_region_any hm ?_
  have h1 := anyG_of_mix2 (md := .any) bars hs hQ plan _ a w hB h
  rw [hl] at h1
  exact (h1.up (Grows.drew w)).any
theorem wpIn_region_mix2 {id : Nat} {a : Act} {w : World} {l n : Nat} (bars : List Nat) (plan : List (Nat × Way)) (hm : P.follows .mixedOrders = true) (hs : Region.noSelect ops = true) (hd : noDefer ops = true) (hl : plan.length = ops.size)
    (hB : mixOk2 .any ops bars (Array.replicate ops.size false) plan = true) (hQ : ∀ c (a : Act) d v w, Q (.panic c) (a.put d v) w → Q (.panic c) a w)
    (h : wpMix P ops Q (planOps ops plan) a w) : (Code.region id ops true).wpIn (Fence.wide.inRound l) n P Q a w := by
  refine wpIn_region_any hm ?_
  have h1 := anyG_of_mix2 (md := .any) bars hs hQ plan _ a w hB h
  rw [hl] at h1
  exact (h1.up (Grows.drew w)).anyIn hd _ _ _ _
end
end
end Go.Proofs.YtjhbglklcddekaaGreatDoor
