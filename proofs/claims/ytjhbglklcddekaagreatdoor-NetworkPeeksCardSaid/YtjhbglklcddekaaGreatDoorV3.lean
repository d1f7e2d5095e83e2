/- Parts: Mix4, Mix3. -/
import Derived.Test.YtjhbglklcddekaaGreatDoorV1
set_option linter.all false
set_option maxRecDepth 100000
set_option maxHeartbeats 16000000
namespace Go.Proofs.YtjhbglklcddekaaGreatDoor
open Go.RowKit
section
section
variable {P : Program} {ops : Array Oper} {Q : Exit → Act → World → Prop} {md : Region.Mode}
def YieldsJ (P : Program) (ops : Array Oper) (J : World → Prop) (o : Oper) (v : Value) (a : Act) : Prop :=
  (Region.wanted o (yielded ops a.tmps) = true ∧ ∀ w', J w' → (execOp a.eval o).run P w' = .ok (.value v) w') ∨
  (Region.wanted o (yielded ops a.tmps) = false ∧ v = undef)
theorem YieldsJ.of_same {J : World → Prop} {o : Oper} {v : Value} {a a' : Act} (hy : YieldsJ P ops J o v a) (he : execOp a'.eval o = execOp a.eval o)
    (hw : Region.wanted o (yielded ops a'.tmps) = Region.wanted o (yielded ops a.tmps)) : YieldsJ P ops J o v a' := by
  unfold YieldsJ at *
  rw [he, hw]
  exact hy
theorem YieldsJ.opG {J : World → Prop} {i : Nat} {o : Oper} {v : Value} {a : Act} {w' : World} (hi : ops[i]? = some o) (hy : YieldsJ P ops J o v a) (hJ : J w') {K : Act → World → Prop} (h : K (a.put o.dst v) w') : opG P ops Q i K a w' := by
  unfold Go.Proofs.YtjhbglklcddekaaGreatDoor.opG
  simp only [hi]
  rcases hy with ⟨hw, hv⟩ | ⟨hw, rfl⟩
  · rw [if_pos hw]
    unfold Oper.wp
    rw [hv w' hJ]
    exact h
  · rw [if_neg (by rw [hw]; decide)]
    exact h
theorem opJ_put {J : World → Prop} {j : Nat} {oi oj : Oper} {v : Value} (hj : ops[j]? = some oj) (hap : oi.apart ops oj = true)
    (hsi : ∀ cs b, oi.op ≠ .select cs b) (hsj : ∀ cs b, oj.op ≠ .select cs b)
    (hQ : ∀ c a w, Q (.panic c) (a.put oi.dst v) w → Q (.panic c) a w) {K : Act → World → Prop} {a : Act} {w : World}
    (hy : YieldsJ P ops J oi v a) (h : opG P ops Q j K (a.put oi.dst v) w) :
    opG P ops Q j (fun a' w' => YieldsJ P ops J oi v a' ∧ K (a'.put oi.dst v) w') a w := by
  obtain ⟨h1, h2, h3⟩ := Oper.apart_spec hap
  have keep : ∀ (b : Act), YieldsJ P ops J oi v b → ∀ u, YieldsJ P ops J oi v (b.put oj.dst u) := fun b hb u =>
    hb.of_same (execOp_put oi hsi b oj.dst u h3) (wanted_put oi b oj.dst u h3)
  unfold opG at *
  simp only [hj] at *
  rw [wanted_put oj a oi.dst v h1] at h
  split
  · rename_i hw
    rw [if_pos hw] at h
    unfold Oper.wp at *
    rw [execOp_put oj hsj a oi.dst v h1] at h
    generalize (execOp a.eval oj).run P w = r at *
    cases r with
    | ok x w' =>
      cases x <;> simp only [Oper.upon] at h ⊢
      case value u => exact ⟨keep a hy u, by rw [← Act.put_comm a v u h2]; exact h⟩
      case skip => exact ⟨keep a hy _, by rw [← Act.put_comm a v undef h2]; exact h⟩
      case defer d =>
        refine ⟨keep { a with defers := d :: a.defers } (hy.of_same rfl rfl) _, ?_⟩
        rw [← Act.put_comm _ v undef h2, ← Act.put_defers]
        exact h
      case enter f args =>
        refine Calls.mono h fun e w'' he => ?_
        cases e with
        | returned u => exact ⟨keep a hy u, by rw [← Act.put_comm a v u h2]; exact he⟩
        | panicked c => exact hQ _ _ _ he
        | outgrown => exact he
      case row row args => exact Rows.mono h fun u w'' he => ⟨keep a hy u, by rw [← Act.put_comm a v u h2]; exact he⟩
    | halt x w' =>
      cases x <;> simp only [Oper.upon] at h ⊢
      case panic u => exact hQ _ _ _ h
  · rename_i hw
    rw [if_neg hw] at h
    exact ⟨keep a hy _, by rw [← Act.put_comm a v undef h2]; exact h⟩
def AnyJ (P : Program) (md : Region.Mode) (ops : Array Oper) (Q : Exit → Act → World → Prop) (bar : Nat → Bool) (J : World → Prop) : Nat → Array Bool → Act → World → Prop
  | 0, listed, a, w => ∀ w', Grows w w' → Region.ready md ops listed = [] ∧ Q .normal a w'
  | f + 1, listed, a, w => ∀ w', Grows w w' → (Region.ready md ops listed = [] → Q .normal a w') ∧
      ∀ i ∈ Region.ready md ops listed, opG P ops Q i (fun a' w'' => (bar i = false → Grows w' w'') ∧ J w'' ∧ AnyJ P md ops Q bar J f (listed.setIfInBounds i true) a' w'') a w'
theorem AnyJ.up {bar : Nat → Bool} {J : World → Prop} {f : Nat} {listed : Array Bool} {a : Act} {w w' : World} (h : AnyJ P md ops Q bar J f listed a w) (hg : Grows w w') : AnyJ P md ops Q bar J f listed a w' := by
  cases f with
  | zero => exact fun w2 h2 => h w2 (hg.trans h2)
  | succ f => exact fun w2 h2 => h w2 (hg.trans h2)
theorem AnyJ.mono {bar : Nat → Bool} {J J' : World → Prop} (hJ : ∀ w, J w → J' w) : ∀ (f : Nat) (listed : Array Bool) (a : Act) (w : World), AnyJ P md ops Q bar J f listed a w → AnyJ P md ops Q bar J' f listed a w
  | 0, _, _, _, h => h
  | f + 1, _, _, _, h => fun w' hg => ⟨(h w' hg).1, fun i hi => opG_mono (fun _ _ h3 => ⟨h3.1, hJ _ h3.2.1, AnyJ.mono hJ f _ _ _ h3.2.2⟩) ((h w' hg).2 i hi)⟩
theorem AnyJ.any {bar : Nat → Bool} {J : World → Prop} : ∀ (f : Nat) (listed : Array Bool) (a : Act) (w : World), AnyJ P md ops Q bar J f listed a w → AnyG P md ops Q bar f listed a w
  | 0, _, _, _, h => h
  | f + 1, _, _, _, h => fun w' hg => ⟨(h w' hg).1, fun i hi => opG_mono (fun _ _ h3 => ⟨h3.1, AnyJ.any f _ _ _ h3.2.2⟩) ((h w' hg).2 i hi)⟩
theorem AnyJ.first {bar : Nat → Bool} {J J' : World → Prop} (sJ : ∀ w w', Grows w w' → J w → J w') (sJ' : ∀ w w', Grows w w' → J' w → J' w') {i : Nat} {oi : Oper} {v : Value} (hi : ops[i]? = some oi) (hsel : ∀ (j : Nat) (o : Oper) cs b, ops[j]? = some o → o.op ≠ .select cs b)
    (hQ : ∀ c a w, Q (.panic c) (a.put oi.dst v) w → Q (.panic c) a w) :
    ∀ (f : Nat) (listed : Array Bool) (a : Act) (w : World),
      (∀ j oj, ops[j]? = some oj → j ≠ i → listed.getD j true = false → (∀ e ∈ oj.after, Region.binds md e = true → e.on ≠ i) → oi.apart ops oj = true) →
      i ∈ Region.ready md ops listed → YieldsJ P ops J' oi v a → J w → J' w →
      AnyJ P md ops Q bar (fun w => J w ∧ J' w) f (listed.setIfInBounds i true) (a.put oi.dst v) w → AnyJ P md ops Q bar J (f + 1) listed a w := by
  intro f
  induction f with
  | zero =>
    intro listed a w _ hr hy hJ hJ' H w' hg
    refine ⟨fun h => (by rw [h] at hr; cases hr), fun j hj => ?_⟩
    by_cases hji : j = i
    · subst hji
      exact hy.opG hi (sJ' _ _ hg hJ') ⟨fun _ => Grows.refl _, sJ _ _ hg hJ, (AnyJ.mono (fun _ h => h.1) _ _ _ _ H).up hg⟩
    · have := ready_mono hj hji
      rw [(H w' hg).1] at this
      cases this
  | succ f ih =>
    intro listed a w hfree hr hy hJ hJ' H w' hg
    refine ⟨fun h => (by rw [h] at hr; cases hr), fun j hj => ?_⟩
    by_cases hji : j = i
    · subst hji
      exact hy.opG hi (sJ' _ _ hg hJ') ⟨fun _ => Grows.refl _, sJ _ _ hg hJ, (AnyJ.mono (fun _ h => h.1) _ _ _ _ H).up hg⟩
    · obtain ⟨hjun, oj, hoj, hall⟩ := mem_ready.1 hj
      have hnot : ∀ e ∈ oj.after, Region.binds md e = true → e.on ≠ i := fun e he hb heq => by
        have h1 := hall e he hb
        have h0 := (mem_ready.1 hr).1
        rw [heq] at h1
        rcases Nat.lt_or_ge i listed.size with h' | h'
        · simp [h'] at h0 h1; rw [h0] at h1; cases h1
        · simp [Array.getElem?_eq_none h'] at h1
      have h1 := (H w' hg).2 j (ready_mono hj hji)
      have h2 := opJ_put hoj (hfree j oj hoj hji hjun hnot) (fun cs b => hsel i oi cs b hi) (fun cs b => hsel j oj cs b hoj) hQ hy h1
      have hfree' : ∀ k ok, ops[k]? = some ok → k ≠ i → (listed.setIfInBounds j true).getD k true = false →
          (∀ e ∈ ok.after, Region.binds md e = true → e.on ≠ i) → oi.apart ops ok = true := fun k ok hk hki hun hno => by
        refine hfree k ok hk hki ?_ hno
        by_cases hjk : j = k
        · subst hjk; exact hjun
        · rw [getD_set_ne true hjk] at hun; exact hun
      refine opG_mono (fun a' w'' h3 => ⟨h3.2.1, h3.2.2.1.1, ih (listed.setIfInBounds j true) a' w'' hfree' (ready_mono hr (Ne.symm hji)) h3.1 h3.2.2.1.1 h3.2.2.1.2 ?_⟩) h2
      rw [Array.setIfInBounds_comm _ _ hji]
      exact h3.2.2.2
inductive TW where
  | pure
  | firm
  | keep
def wpTail (P : Program) (ops : Array Oper) (Q : Exit → Act → World → Prop) : (World → Prop) → List (Oper × TW) → Act → World → Prop
  | _, [], a, w => ∀ n : Late w, Q .normal a n.w
  | J, (o, .pure) :: rest, a, w =>
    if Region.wanted o (yielded ops a.tmps) = true then ∃ v, (∀ w', (execOp a.eval o).run P w' = .ok (.value v) w') ∧ wpTail P ops Q J rest (a.put o.dst v) w
    else wpTail P ops Q J rest (a.put o.dst undef) w
  | J, (o, .firm) :: rest, a, w =>
    if Region.wanted o (yielded ops a.tmps) = true then ∃ (v : Value) (J' : World → Prop), (∀ w w', Grows w w' → J' w → J' w') ∧ J' w ∧ (∀ w', J' w' → (execOp a.eval o).run P w' = .ok (.value v) w') ∧ wpTail P ops Q (fun w => J w ∧ J' w) rest (a.put o.dst v) w
    else wpTail P ops Q J rest (a.put o.dst undef) w
  | J, (o, .keep) :: rest, a, w => ∀ n : Late w,
    if Region.wanted o (yielded ops a.tmps) = true then o.wp P a n.w (fun a' w' => J w' ∧ wpTail P ops Q J rest a' w') Q else wpTail P ops Q J rest (a.put o.dst undef) n.w
def tailOk (md : Region.Mode) (ops : Array Oper) (bars : List Nat) : Array Bool → List (Nat × TW) → Bool
  | listed, [] => (Region.ready md ops listed).isEmpty
  | listed, (i, .pure) :: rest => (Region.ready md ops listed).contains i && Region.free md ops listed i && tailOk md ops bars (listed.setIfInBounds i true) rest
  | listed, (i, .firm) :: rest => (Region.ready md ops listed).contains i && Region.free md ops listed i && tailOk md ops bars (listed.setIfInBounds i true) rest
  | listed, (i, .keep) :: rest => (Region.ready md ops listed == [i]) && bars.contains i && tailOk md ops bars (listed.setIfInBounds i true) rest
def tailOps (ops : Array Oper) : List (Nat × TW) → List (Oper × TW)
  | [] => []
  | (i, x) :: rest => match ops[i]? with
    | some o => (o, x) :: tailOps ops rest
    | none => []
theorem anyJ_of_tail (hs : Region.noSelect ops = true) (hQ : ∀ c (a : Act) d v w, Q (.panic c) (a.put d v) w → Q (.panic c) a w) {bars : List Nat} :
    ∀ (l : List (Nat × TW)) (J : World → Prop) (listed : Array Bool) (a : Act) (w : World), (∀ w w', Grows w w' → J w → J w') → J w → tailOk md ops bars listed l = true → wpTail P ops Q J (tailOps ops l) a w →
      AnyJ P md ops Q (fun j => bars.contains j) J l.length listed a w
  | [], J, listed, a, w, _, _, h0, h => fun w' hg => ⟨by simpa [tailOk] using h0, h ⟨w', hg⟩⟩
  | (i, .pure) :: rest, J, listed, a, w, sJ, hJ, h0, h => by
    simp only [tailOk, Bool.and_eq_true] at h0
    obtain ⟨⟨hr, hf⟩, h0⟩ := h0
    have hr : i ∈ Region.ready md ops listed := by simpa using hr
    obtain ⟨_, o, ho, _⟩ := mem_ready.1 hr
    simp only [tailOps, ho, wpTail] at h
    have sT : ∀ w w', Grows w w' → (fun _ : World => True) w → (fun _ : World => True) w' := fun _ _ _ _ => trivial
    by_cases hw : Region.wanted o (yielded ops a.tmps) = true
    · rw [if_pos hw] at h
      obtain ⟨v, hv, h⟩ := h
      exact AnyJ.first sJ sT ho (Region.noSelect_spec hs) (fun c a w => hQ c a o.dst v w) _ listed a w (Region.free_spec ho hf) hr (.inl ⟨hw, fun w' _ => hv w'⟩) hJ trivial
        (AnyJ.mono (fun _ h => ⟨h, trivial⟩) _ _ _ _ (anyJ_of_tail hs hQ rest J _ _ w sJ hJ h0 h))
    · rw [if_neg hw] at h
      exact AnyJ.first sJ sT ho (Region.noSelect_spec hs) (fun c a w => hQ c a o.dst undef w) _ listed a w (Region.free_spec ho hf) hr (.inr ⟨by simpa using hw, rfl⟩) hJ trivial
        (AnyJ.mono (fun _ h => ⟨h, trivial⟩) _ _ _ _ (anyJ_of_tail hs hQ rest J _ _ w sJ hJ h0 h))
  | (i, .firm) :: rest, J, listed, a, w, sJ, hJ, h0, h => by
    simp only [tailOk, Bool.and_eq_true] at h0
    obtain ⟨⟨hr, hf⟩, h0⟩ := h0
    have hr : i ∈ Region.ready md ops listed := by simpa using hr
    obtain ⟨_, o, ho, _⟩ := mem_ready.1 hr
    simp only [tailOps, ho, wpTail] at h
    by_cases hw : Region.wanted o (yielded ops a.tmps) = true
    · rw [if_pos hw] at h
      obtain ⟨v, J', sJ', hJ', hv, h⟩ := h
      exact AnyJ.first sJ sJ' ho (Region.noSelect_spec hs) (fun c a w => hQ c a o.dst v w) _ listed a w (Region.free_spec ho hf) hr (.inl ⟨hw, hv⟩) hJ hJ'
        (anyJ_of_tail hs hQ rest _ _ _ w (fun w w' g h => ⟨sJ w w' g h.1, sJ' w w' g h.2⟩) ⟨hJ, hJ'⟩ h0 h)
    · rw [if_neg hw] at h
      exact AnyJ.first sJ (fun _ _ _ _ => trivial) (J' := fun _ => True) ho (Region.noSelect_spec hs) (fun c a w => hQ c a o.dst undef w) _ listed a w (Region.free_spec ho hf) hr (.inr ⟨by simpa using hw, rfl⟩) hJ trivial
        (AnyJ.mono (fun _ h => ⟨h, trivial⟩) _ _ _ _ (anyJ_of_tail hs hQ rest J _ _ w sJ hJ h0 h))
  | (i, .keep) :: rest, J, listed, a, w, sJ, hJ, h0, h => by
    simp only [tailOk, Bool.and_eq_true, beq_iff_eq] at h0
    obtain ⟨⟨hr, hnb⟩, h0⟩ := h0
    intro w' hg
    refine ⟨fun h1 => (by rw [h1] at hr; cases hr), fun j hj => ?_⟩
    rw [hr] at hj
    obtain rfl : j = i := by simpa using hj
    have hr' : j ∈ Region.ready md ops listed := by rw [hr]; simp
    obtain ⟨_, o, ho, _⟩ := mem_ready.1 hr'
    simp only [tailOps, ho, wpTail] at h
    have h1 := h ⟨w', hg⟩
    unfold opG
    simp only [ho]
    split
    · rename_i hw
      rw [if_pos hw] at h1
      exact Oper.wp_mono (fun a2 w2 h2 => ⟨fun hb => (by rw [hnb] at hb; cases hb), h2.1, anyJ_of_tail hs hQ rest J _ _ w2 sJ h2.1 h0 h2.2⟩) h1
    · rename_i hw
      rw [if_neg hw] at h1
      exact ⟨fun hb => (by rw [hnb] at hb; cases hb), sJ _ _ hg hJ, anyJ_of_tail hs hQ rest J _ _ w' sJ (sJ _ _ hg hJ) h0 h1⟩
end
end
section
section
variable {P : Program} {ops : Array Oper} {Q : Exit → Act → World → Prop} {md : Region.Mode}
def YieldsP (P : Program) (ops : Array Oper) (o : Oper) (v : Value) (a : Act) : Prop :=
  (Region.wanted o (yielded ops a.tmps) = true ∧ ∀ w', (execOp a.eval o).run P w' = .ok (.value v) w') ∨
  (Region.wanted o (yielded ops a.tmps) = false ∧ v = undef)
theorem YieldsP.yieldsG {o : Oper} {v : Value} {a : Act} {w : World} (h : YieldsP P ops o v a) : YieldsG P ops o v a w :=
  h.imp (fun ⟨h1, h2⟩ => ⟨h1, fun w' _ => by rw [h2 w']; exact ⟨rfl, rfl⟩⟩) id
theorem YieldsP.of_same {o : Oper} {v : Value} {a a' : Act} (hy : YieldsP P ops o v a) (he : execOp a'.eval o = execOp a.eval o)
    (hw : Region.wanted o (yielded ops a'.tmps) = Region.wanted o (yielded ops a.tmps)) : YieldsP P ops o v a' := by
  unfold YieldsP at *
  rw [he, hw]
  exact hy
theorem opP_put {j : Nat} {oi oj : Oper} {v : Value} (hj : ops[j]? = some oj) (hap : oi.apart ops oj = true)
    (hsi : ∀ cs b, oi.op ≠ .select cs b) (hsj : ∀ cs b, oj.op ≠ .select cs b)
    (hQ : ∀ c a w, Q (.panic c) (a.put oi.dst v) w → Q (.panic c) a w) {K : Act → World → Prop} {a : Act} {w : World}
    (hy : YieldsP P ops oi v a) (h : opG P ops Q j K (a.put oi.dst v) w) :
    opG P ops Q j (fun a' w' => YieldsP P ops oi v a' ∧ K (a'.put oi.dst v) w') a w := by
  obtain ⟨h1, h2, h3⟩ := Oper.apart_spec hap
  have keep : ∀ (b : Act), YieldsP P ops oi v b → ∀ u, YieldsP P ops oi v (b.put oj.dst u) := fun b hb u =>
    hb.of_same (execOp_put oi hsi b oj.dst u h3) (wanted_put oi b oj.dst u h3)
  unfold opG at *
  simp only [hj] at *
  rw [wanted_put oj a oi.dst v h1] at h
  split
  · rename_i hw
    rw [if_pos hw] at h
    unfold Oper.wp at *
    rw [execOp_put oj hsj a oi.dst v h1] at h
    generalize (execOp a.eval oj).run P w = r at *
    cases r with
    | ok x w' =>
      cases x <;> simp only [Oper.upon] at h ⊢
      case value u => exact ⟨keep a hy u, by rw [← Act.put_comm a v u h2]; exact h⟩
      case skip => exact ⟨keep a hy _, by rw [← Act.put_comm a v undef h2]; exact h⟩
      case defer d =>
        refine ⟨keep { a with defers := d :: a.defers } (hy.of_same rfl rfl) _, ?_⟩
        rw [← Act.put_comm _ v undef h2, ← Act.put_defers]
        exact h
      case enter f args =>
        refine Calls.mono h fun e w'' he => ?_
        cases e with
        | returned u => exact ⟨keep a hy u, by rw [← Act.put_comm a v u h2]; exact he⟩
        | panicked c => exact hQ _ _ _ he
        | outgrown => exact he
      case row row args => exact Rows.mono h fun u w'' he => ⟨keep a hy u, by rw [← Act.put_comm a v u h2]; exact he⟩
    | halt x w' =>
      cases x <;> simp only [Oper.upon] at h ⊢
      case panic u => exact hQ _ _ _ h
  · rename_i hw
    rw [if_neg hw] at h
    exact ⟨keep a hy _, by rw [← Act.put_comm a v undef h2]; exact h⟩
theorem AnyG.firstP {bar : Nat → Bool} {i : Nat} {oi : Oper} {v : Value} (hi : ops[i]? = some oi) (hsel : ∀ (j : Nat) (o : Oper) cs b, ops[j]? = some o → o.op ≠ .select cs b)
    (hQ : ∀ c a w, Q (.panic c) (a.put oi.dst v) w → Q (.panic c) a w) :
    ∀ (f : Nat) (listed : Array Bool) (a : Act) (w : World),
      (∀ j oj, ops[j]? = some oj → j ≠ i → listed.getD j true = false → (∀ e ∈ oj.after, Region.binds md e = true → e.on ≠ i) → oi.apart ops oj = true) →
      i ∈ Region.ready md ops listed → YieldsP P ops oi v a →
      AnyG P md ops Q bar f (listed.setIfInBounds i true) (a.put oi.dst v) w → AnyG P md ops Q bar (f + 1) listed a w := by
  intro f
  induction f with
  | zero =>
    intro listed a w _ hr hy H w' hg
    refine ⟨fun h => (by rw [h] at hr; cases hr), fun j hj => ?_⟩
    by_cases hji : j = i
    · subst hji
      exact (hy.yieldsG (w := w)).opG hi hg fun w'' g => ⟨fun _ => g, H.up (hg.trans g)⟩
    · have := ready_mono hj hji
      rw [(H w' hg).1] at this
      cases this
  | succ f ih =>
    intro listed a w hfree hr hy H w' hg
    refine ⟨fun h => (by rw [h] at hr; cases hr), fun j hj => ?_⟩
    by_cases hji : j = i
    · subst hji
      exact (hy.yieldsG (w := w)).opG hi hg fun w'' g => ⟨fun _ => g, H.up (hg.trans g)⟩
    · obtain ⟨hjun, oj, hoj, hall⟩ := mem_ready.1 hj
      have hnot : ∀ e ∈ oj.after, Region.binds md e = true → e.on ≠ i := fun e he hb heq => by
        have h1 := hall e he hb
        have h0 := (mem_ready.1 hr).1
        rw [heq] at h1
        rcases Nat.lt_or_ge i listed.size with h' | h'
        · simp [h'] at h0 h1; rw [h0] at h1; cases h1
        · simp [Array.getElem?_eq_none h'] at h1
      have h1 := (H w' hg).2 j (ready_mono hj hji)
      have h2 := opP_put hoj (hfree j oj hoj hji hjun hnot) (fun cs b => hsel i oi cs b hi) (fun cs b => hsel j oj cs b hoj) hQ hy h1
      have hfree' : ∀ k ok, ops[k]? = some ok → k ≠ i → (listed.setIfInBounds j true).getD k true = false →
          (∀ e ∈ ok.after, Region.binds md e = true → e.on ≠ i) → oi.apart ops ok = true := fun k ok hk hki hun hno => by
        refine hfree k ok hk hki ?_ hno
        by_cases hjk : j = k
        · subst hjk; exact hjun
        · rw [getD_set_ne true hjk] at hun; exact hun
      refine opG_mono (fun a' w'' h3 => ⟨h3.2.1, ih (listed.setIfInBounds j true) a' w'' hfree' (ready_mono hr (Ne.symm hji)) h3.1 ?_⟩) h2
      rw [Array.setIfInBounds_comm _ _ hji]
      exact h3.2.2
inductive Way3 where
  | pure
  | quiet
  | grow
  | bar
inductive Todo where
  | nil
  | step (o : Oper) (way : Way3) (rest : Todo)
  | two (o : Oper) (rest : Todo) (o' : Oper) (rest' : Todo)
  | mid (o : Oper) (rest : Todo) (o' : Oper) (rest' : Todo)
  | or (a b : Todo)
  | tail (l : List (Oper × TW))
inductive Plan where
  | nil
  | step (i : Nat) (way : Way3) (rest : Plan)
  | two (i : Nat) (rest : Plan) (j : Nat) (rest' : Plan)
  | mid (i : Nat) (rest : Plan) (j : Nat) (rest' : Plan)
  | or (a b : Plan)
  | tail (l : List (Nat × TW))
def wpMix3 (P : Program) (ops : Array Oper) (Q : Exit → Act → World → Prop) : Todo → Act → World → Prop
  | .nil, a, w => ∀ n : Late w, Q .normal a n.w
  | .step o .pure rest, a, w =>
    if Region.wanted o (yielded ops a.tmps) = true then ∃ v, (∀ w', (execOp a.eval o).run P w' = .ok (.value v) w') ∧ wpMix3 P ops Q rest (a.put o.dst v) w
    else wpMix3 P ops Q rest (a.put o.dst undef) w
  | .step o .quiet rest, a, w =>
    if Region.wanted o (yielded ops a.tmps) = true then ∃ v, (∀ n : Late w, Oper.quietUpon P (Grows n.w) n.w v ((execOp a.eval o).run P n.w)) ∧ wpMix3 P ops Q rest (a.put o.dst v) w
    else wpMix3 P ops Q rest (a.put o.dst undef) w
  | .step o .grow rest, a, w => ∀ n : Late w,
    if Region.wanted o (yielded ops a.tmps) = true then o.wp P a n.w (fun a' w' => Grows n.w w' ∧ wpMix3 P ops Q rest a' w') Q else wpMix3 P ops Q rest (a.put o.dst undef) n.w
  | .step o .bar rest, a, w => ∀ n : Late w,
    if Region.wanted o (yielded ops a.tmps) = true then o.wp P a n.w (fun a' w' => wpMix3 P ops Q rest a' w') Q else wpMix3 P ops Q rest (a.put o.dst undef) n.w
  | .tail l, a, w => wpTail P ops Q (fun _ => True) l a w
  | .two o rest o' rest', a, w => (∀ n : Late w,
    if Region.wanted o (yielded ops a.tmps) = true then o.wp P a n.w (fun a' w' => Grows n.w w' ∧ wpMix3 P ops Q rest a' w') Q else wpMix3 P ops Q rest (a.put o.dst undef) n.w) ∧ (∀ n : Late w,
    if Region.wanted o' (yielded ops a.tmps) = true then o'.wp P a n.w (fun a' w' => Grows n.w w' ∧ wpMix3 P ops Q rest' a' w') Q else wpMix3 P ops Q rest' (a.put o'.dst undef) n.w)
  | .mid o rest o' rest', a, w => (∀ n : Late w,
    if Region.wanted o (yielded ops a.tmps) = true then o.wp P a n.w (fun a' w' => Grows n.w w' ∧ wpMix3 P ops Q rest a' w') Q else wpMix3 P ops Q rest (a.put o.dst undef) n.w) ∧ (∀ n : Late w,
    if Region.wanted o' (yielded ops a.tmps) = true then o'.wp P a n.w (fun a' w' => wpMix3 P ops Q rest' a' w') Q else wpMix3 P ops Q rest' (a.put o'.dst undef) n.w)
  | .or x y, a, w => wpMix3 P ops Q x a w ∧ wpMix3 P ops Q y a w
def waits3 (md : Region.Mode) (ops : Array Oper) (i : Nat) : Nat → List Nat → List Nat
  | 0, D => D
  | n + 1, D => waits3 md ops i n (match ops[ops.size - (n + 1)]? with
    | some ok => bif ok.after.any (fun e => Region.binds md e && (e.on == i || D.contains e.on)) then (ops.size - (n + 1)) :: D else D
    | none => D)
def firsts : Plan → List Nat
  | .step i _ _ => [i]
  | .or x y => firsts x ++ firsts y
  | _ => []
mutual
def mixOk3 (md : Region.Mode) (ops : Array Oper) : List Nat → Array Bool → Plan → Bool
  | _, listed, .nil => (Region.ready md ops listed).isEmpty
  | bars, listed, .tail l => tailOk md ops bars listed l
  | bars, listed, .step i .pure rest => (Region.ready md ops listed).contains i && Region.free md ops listed i && !bars.contains i && mixOk3 md ops bars (listed.setIfInBounds i true) rest
  | bars, listed, .step i .quiet rest => (Region.ready md ops listed).contains i && Region.free md ops listed i && !bars.contains i &&
      (bars.isEmpty || waitOk md ops bars listed i (waits3 md ops i ops.size [])) && mixOk3 md ops bars (listed.setIfInBounds i true) rest
  | bars, listed, .step i .grow rest => (Region.ready md ops listed == [i]) && !bars.contains i && mixOk3 md ops bars (listed.setIfInBounds i true) rest
  | bars, listed, .step i .bar rest => (Region.ready md ops listed == [i]) && bars.contains i && mixOk3 md ops (bars.erase i) (listed.setIfInBounds i true) rest
  | bars, listed, .two i rest j rest' => ((Region.ready md ops listed == [i, j]) || (Region.ready md ops listed == [j, i])) && !bars.contains i && !bars.contains j && mixOk3 md ops bars (listed.setIfInBounds i true) rest && mixOk3 md ops bars (listed.setIfInBounds j true) rest'
  | bars, listed, .mid i rest j rest' => ((Region.ready md ops listed == [i, j]) || (Region.ready md ops listed == [j, i])) && !bars.contains i && bars.contains j && mixOk3 md ops bars (listed.setIfInBounds i true) rest && mixOk3 md ops (bars.erase j) (listed.setIfInBounds j true) rest'
  | bars, listed, .or x y => (Region.ready md ops listed).all (fun i => (firsts x ++ firsts y).contains i) && !(Region.ready md ops listed).isEmpty && leafOk3 md ops bars listed x && leafOk3 md ops bars listed y
def leafOk3 (md : Region.Mode) (ops : Array Oper) : List Nat → Array Bool → Plan → Bool
  | bars, listed, .step i .grow rest => (Region.ready md ops listed).contains i && !bars.contains i && mixOk3 md ops bars (listed.setIfInBounds i true) rest
  | bars, listed, .step i .bar rest => (Region.ready md ops listed).contains i && bars.contains i && mixOk3 md ops (bars.erase i) (listed.setIfInBounds i true) rest
  | bars, listed, .or x y => leafOk3 md ops bars listed x && leafOk3 md ops bars listed y
  | _, _, _ => false
end
def Plan.len : Plan → Nat
  | .nil => 0
  | .step _ _ rest => rest.len + 1
  | .two _ rest _ _ => rest.len + 1
  | .mid _ rest _ _ => rest.len + 1
  | .or x _ => x.len
  | .tail l => l.length
def Plan.even : Plan → Bool
  | .nil => true
  | .step _ _ rest => rest.even
  | .two _ rest _ rest' => rest.even && rest'.even && rest.len == rest'.len
  | .mid _ rest _ rest' => rest.even && rest'.even && rest.len == rest'.len
  | .or x y => x.even && y.even && x.len == y.len
  | .tail _ => true
def planOps3 (ops : Array Oper) : Plan → Todo
  | .nil => .nil
  | .step i x rest => match ops[i]? with
    | some o => .step o x (planOps3 ops rest)
    | none => .nil
  | .two i rest j rest' => match ops[i]?, ops[j]? with
    | some o, some o' => .two o (planOps3 ops rest) o' (planOps3 ops rest')
    | _, _ => .nil
  | .mid i rest j rest' => match ops[i]?, ops[j]? with
    | some o, some o' => .mid o (planOps3 ops rest) o' (planOps3 ops rest')
    | _, _ => .nil
  | .or x y => .or (planOps3 ops x) (planOps3 ops y)
  | .tail l => .tail (tailOps ops l)
theorem AnyG.bars {bar bar' : Nat → Bool} : ∀ (f : Nat) (listed : Array Bool) (a : Act) (w : World), (∀ i, listed.getD i true = false → bar i = bar' i) → AnyG P md ops Q bar f listed a w → AnyG P md ops Q bar' f listed a w := by
  intro f
  induction f with
  | zero => intro listed a w _ h; exact h
  | succ f ih =>
    intro listed a w hb h w' hg
    obtain ⟨h1, h2⟩ := h w' hg
    refine ⟨h1, fun i hi => opG_mono (fun a' w'' h3 => ⟨fun h4 => h3.1 (by rw [hb i (mem_ready.1 hi).1]; exact h4), ih _ _ _ (fun j hj => ?_) h3.2⟩) (h2 i hi)⟩
    refine hb j ?_
    by_cases hij : i = j
    · subst hij
      exact (mem_ready.1 hi).1
    · rwa [getD_set_ne true hij] at hj
theorem anyG_grow {i : Nat} {o : Oper} {bars : List Nat} {f : Nat} {listed : Array Bool} {a : Act} {w : World} {X : Act → World → Prop} (ho : ops[i]? = some o) (hb : bars.contains i = false) (hX : ∀ a' w', X a' w' → AnyG P md ops Q (fun j => bars.contains j) f (listed.setIfInBounds i true) a' w')
    (h1 : if Region.wanted o (yielded ops a.tmps) = true then o.wp P a w (fun a' w' => Grows w w' ∧ X a' w') Q else X (a.put o.dst undef) w) :
    opG P ops Q i (fun a' w'' => ((fun j => bars.contains j) i = false → Grows w w'') ∧ AnyG P md ops Q (fun j => bars.contains j) f (listed.setIfInBounds i true) a' w'') a w := by
  unfold opG
  simp only [ho]
  split
  · rename_i hw
    rw [if_pos hw] at h1
    exact Oper.wp_mono (fun a2 w2 h2 => ⟨fun _ => h2.1, hX _ _ h2.2⟩) h1
  · rename_i hw
    rw [if_neg hw] at h1
    exact ⟨fun _ => Grows.refl _, hX _ _ h1⟩
theorem anyG_of_mix3' (hs : Region.noSelect ops = true) (hQ : ∀ c (a : Act) d v w, Q (.panic c) (a.put d v) w → Q (.panic c) a w) :
    ∀ (plan : Plan), (∀ (bars : List Nat) (listed : Array Bool) (a : Act) (w : World), bars.Nodup → plan.even = true → mixOk3 md ops bars listed plan = true → wpMix3 P ops Q (planOps3 ops plan) a w →
      AnyG P md ops Q (fun j => bars.contains j) plan.len listed a w) ∧
      (∀ (bars : List Nat) (listed : Array Bool) (a : Act) (w : World), bars.Nodup → plan.even = true → leafOk3 md ops bars listed plan = true → wpMix3 P ops Q (planOps3 ops plan) a w →
        ∃ f, plan.len = f + 1 ∧ ∀ i ∈ firsts plan, ∀ w', Grows w w' → opG P ops Q i (fun a' w'' => ((fun j => bars.contains j) i = false → Grows w' w'') ∧ AnyG P md ops Q (fun j => bars.contains j) f (listed.setIfInBounds i true) a' w'') a w') := by
  intro plan
  induction plan with
  | nil =>
    refine ⟨?_, fun bars listed a w _ _ h => by simp [leafOk3] at h⟩
    intro bars listed a w _ _ h0 h w' hg
    exact ⟨by simpa [mixOk3] using h0, h ⟨w', hg⟩⟩
  | tail l =>
    refine ⟨?_, fun bars listed a w _ _ h => by simp [leafOk3] at h⟩
    intro bars listed a w _ _ h0 h
    exact AnyJ.any _ _ _ _ (anyJ_of_tail hs hQ l (fun _ => True) listed a w (fun _ _ _ _ => trivial) trivial (by simpa only [mixOk3] using h0) (by simpa only [planOps3, wpMix3] using h))
  | two i rest j rest' ih ih' =>
    replace ih := ih.1
    replace ih' := ih'.1
    refine ⟨?_, fun bars listed a w _ _ h => by simp [leafOk3] at h⟩
    intro bars listed a w hnd hev h0 h
    simp only [mixOk3, Bool.and_eq_true, Bool.or_eq_true, beq_iff_eq, Bool.not_eq_true'] at h0
    obtain ⟨⟨⟨⟨hr, hbi⟩, hbj⟩, h1⟩, h2⟩ := h0
    simp only [Plan.even, Bool.and_eq_true, beq_iff_eq] at hev
    obtain ⟨⟨he1, he2⟩, hlen⟩ := hev
    have hri : i ∈ Region.ready md ops listed := by rcases hr with hr | hr <;> rw [hr] <;> simp
    have hrj : j ∈ Region.ready md ops listed := by rcases hr with hr | hr <;> rw [hr] <;> simp
    obtain ⟨_, oi, hoi, _⟩ := mem_ready.1 hri
    obtain ⟨_, oj, hoj, _⟩ := mem_ready.1 hrj
    simp only [planOps3, hoi, hoj, wpMix3] at h
    intro w' hg
    refine ⟨fun h3 => (by rw [h3] at hri; cases hri), fun k hk => ?_⟩
    have hk' : k = i ∨ k = j := by
      rcases hr with hr | hr <;> rw [hr] at hk <;> simp at hk <;> omega
    rcases hk' with rfl | rfl
    · exact anyG_grow hoi hbi (fun a' w'' h4 => ih _ _ _ _ hnd he1 h1 h4) (h.1 ⟨w', hg⟩)
    · refine anyG_grow hoj hbj (fun a' w'' h4 => ?_) (h.2 ⟨w', hg⟩)
      rw [hlen]
      exact ih' _ _ _ _ hnd he2 h2 h4
  | mid i rest j rest' ih ih' =>
    replace ih := ih.1
    replace ih' := ih'.1
    refine ⟨?_, fun bars listed a w _ _ h => by simp [leafOk3] at h⟩
    intro bars listed a w hnd hev h0 h
    simp only [mixOk3, Bool.and_eq_true, Bool.or_eq_true, beq_iff_eq, Bool.not_eq_true'] at h0
    obtain ⟨⟨⟨⟨hr, hbi⟩, hbj⟩, h1⟩, h2⟩ := h0
    simp only [Plan.even, Bool.and_eq_true, beq_iff_eq] at hev
    obtain ⟨⟨he1, he2⟩, hlen⟩ := hev
    have hri : i ∈ Region.ready md ops listed := by rcases hr with hr | hr <;> rw [hr] <;> simp
    have hrj : j ∈ Region.ready md ops listed := by rcases hr with hr | hr <;> rw [hr] <;> simp
    obtain ⟨_, oi, hoi, _⟩ := mem_ready.1 hri
    obtain ⟨_, oj, hoj, _⟩ := mem_ready.1 hrj
    simp only [planOps3, hoi, hoj, wpMix3] at h
    have hup : ∀ a2 w2, AnyG P md ops Q (fun k => (bars.erase j).contains k) rest'.len (listed.setIfInBounds j true) a2 w2 → AnyG P md ops Q (fun k => bars.contains k) rest'.len (listed.setIfInBounds j true) a2 w2 := fun a2 w2 h => by
      refine AnyG.bars _ _ _ _ (fun k hk => ?_) h
      have hne : k ≠ j := by
        rintro rfl
        by_cases hlt : k < listed.size
        · simp [hlt] at hk
        · simp [hlt] at hk
      rw [Bool.eq_iff_iff]
      simp [hnd.mem_erase_iff, hne]
    intro w' hg
    refine ⟨fun h3 => (by rw [h3] at hri; cases hri), fun k hk => ?_⟩
    have hk' : k = i ∨ k = j := by
      rcases hr with hr | hr <;> rw [hr] at hk <;> simp at hk <;> omega
    rcases hk' with rfl | rfl
    · exact anyG_grow hoi hbi (fun a' w'' h4 => ih _ _ _ _ hnd he1 h1 h4) (h.1 ⟨w', hg⟩)
    · have h3 := h.2 ⟨w', hg⟩
      show opG P ops Q k (fun a' w'' => ((fun j => bars.contains j) k = false → Grows w' w'') ∧ AnyG P md ops Q (fun j => bars.contains j) rest.len (listed.setIfInBounds k true) a' w'') a w'
      rw [hlen]
      unfold opG
      simp only [hoj]
      split
      · rename_i hw
        rw [if_pos hw] at h3
        exact Oper.wp_mono (fun a2 w2 h4 => ⟨fun hb => (by rw [hbj] at hb; cases hb), hup _ _ (ih' _ _ _ _ (hnd.erase _) he2 h2 h4)⟩) h3
      · rename_i hw
        rw [if_neg hw] at h3
        exact ⟨fun hb => (by rw [hbj] at hb; cases hb), hup _ _ (ih' _ _ _ _ (hnd.erase _) he2 h2 h3)⟩
  | or x y ihx ihy =>
    have key : ∀ (bars : List Nat) (listed : Array Bool) (a : Act) (w : World), bars.Nodup → (Plan.or x y).even = true → leafOk3 md ops bars listed (.or x y) = true → wpMix3 P ops Q (planOps3 ops (.or x y)) a w →
        ∃ f, (Plan.or x y).len = f + 1 ∧ ∀ i ∈ firsts (.or x y), ∀ w', Grows w w' → opG P ops Q i (fun a' w'' => ((fun j => bars.contains j) i = false → Grows w' w'') ∧ AnyG P md ops Q (fun j => bars.contains j) f (listed.setIfInBounds i true) a' w'') a w' := by
      intro bars listed a w hnd hev h0 h
      simp only [Plan.even, Bool.and_eq_true, beq_iff_eq] at hev
      obtain ⟨⟨he1, he2⟩, hlen⟩ := hev
      simp only [leafOk3, Bool.and_eq_true] at h0
      simp only [planOps3, wpMix3] at h
      obtain ⟨f1, e1, g1⟩ := ihx.2 bars listed a w hnd he1 h0.1 h.1
      obtain ⟨f2, e2, g2⟩ := ihy.2 bars listed a w hnd he2 h0.2 h.2
      have e : f2 = f1 := by omega
      subst e
      refine ⟨f2, e1, fun i hi w' hg => ?_⟩
      simp only [firsts] at hi
      rcases List.mem_append.1 hi with hi | hi
      · exact g1 i hi w' hg
      · exact g2 i hi w' hg
    refine ⟨?_, key⟩
    intro bars listed a w hnd hev h0 h
    simp only [mixOk3, Bool.and_eq_true] at h0
    obtain ⟨⟨⟨hc, hne⟩, h1⟩, h2⟩ := h0
    obtain ⟨f, e, g⟩ := key bars listed a w hnd hev (by simp only [leafOk3, Bool.and_eq_true]; exact ⟨h1, h2⟩) h
    rw [e]
    intro w' hg
    refine ⟨fun h3 => (by rw [h3] at hne; cases hne), fun i hi => g i ?_ w' hg⟩
    have := List.all_eq_true.1 hc i hi
    simpa [firsts] using this
  | step i x rest ih =>
    refine ⟨?_, fun bars listed a w hnd hev h0 h => ?_⟩
    rotate_left
    · have hev : rest.even = true := hev
      refine ⟨rest.len, rfl, fun k hk w' hg => ?_⟩
      simp only [firsts, List.mem_singleton] at hk
      subst hk
      cases x with
      | pure => simp [leafOk3] at h0
      | quiet => simp [leafOk3] at h0
      | grow =>
        simp only [leafOk3, Bool.and_eq_true, Bool.not_eq_true'] at h0
        obtain ⟨⟨hr, hnb⟩, h0⟩ := h0
        have hr' : k ∈ Region.ready md ops listed := by simpa using hr
        obtain ⟨_, o, ho, _⟩ := mem_ready.1 hr'
        simp only [planOps3, ho, wpMix3] at h
        exact anyG_grow ho hnb (fun a' w'' h4 => ih.1 _ _ _ _ hnd hev h0 h4) (h ⟨w', hg⟩)
      | bar =>
        simp only [leafOk3, Bool.and_eq_true] at h0
        obtain ⟨⟨hr, hnb⟩, h0⟩ := h0
        have hup : ∀ a2 w2, AnyG P md ops Q (fun j => (bars.erase k).contains j) rest.len (listed.setIfInBounds k true) a2 w2 → AnyG P md ops Q (fun j => bars.contains j) rest.len (listed.setIfInBounds k true) a2 w2 := fun a2 w2 h => by
          refine AnyG.bars _ _ _ _ (fun j hj => ?_) h
          have hne : j ≠ k := by
            rintro rfl
            by_cases hlt : j < listed.size
            · simp [hlt] at hj
            · simp [hlt] at hj
          rw [Bool.eq_iff_iff]
          simp [hnd.mem_erase_iff, hne]
        have hr' : k ∈ Region.ready md ops listed := by simpa using hr
        obtain ⟨_, o, ho, _⟩ := mem_ready.1 hr'
        simp only [planOps3, ho, wpMix3] at h
        have h1 := h ⟨w', hg⟩
        unfold opG
        simp only [ho]
        split
        · rename_i hw
          rw [if_pos hw] at h1
          exact Oper.wp_mono (fun a2 w2 h2 => ⟨fun hb => (by rw [hnb] at hb; cases hb), hup _ _ (ih.1 _ _ _ _ (hnd.erase _) hev h0 h2)⟩) h1
        · rename_i hw
          rw [if_neg hw] at h1
          exact ⟨fun hb => (by rw [hnb] at hb; cases hb), hup _ _ (ih.1 _ _ _ _ (hnd.erase _) hev h0 h1)⟩
    replace ih := ih.1
    intro bars listed a w hnd hev h0 h
    have hev : rest.even = true := hev
    cases x with
    | pure =>
      simp only [mixOk3, Bool.and_eq_true] at h0
      obtain ⟨⟨⟨hr, hf⟩, _⟩, h0⟩ := h0
      have hr : i ∈ Region.ready md ops listed := by simpa using hr
      obtain ⟨_, o, ho, _⟩ := mem_ready.1 hr
      simp only [planOps3, ho, wpMix3] at h
      by_cases hw : Region.wanted o (yielded ops a.tmps) = true
      · rw [if_pos hw] at h
        obtain ⟨v, hv, h⟩ := h
        exact AnyG.firstP ho (Region.noSelect_spec hs) (fun c a w => hQ c a o.dst v w) _ listed a w (Region.free_spec ho hf) hr (.inl ⟨hw, hv⟩) (ih _ _ _ _ hnd hev h0 h)
      · rw [if_neg hw] at h
        exact AnyG.firstP ho (Region.noSelect_spec hs) (fun c a w => hQ c a o.dst undef w) _ listed a w (Region.free_spec ho hf) hr (.inr ⟨by simpa using hw, rfl⟩) (ih _ _ _ _ hnd hev h0 h)
    | quiet =>
      simp only [mixOk3, Bool.and_eq_true, Bool.or_eq_true] at h0
      obtain ⟨⟨⟨⟨hr, hf⟩, _⟩, hb⟩, h0⟩ := h0
      have hr : i ∈ Region.ready md ops listed := by simpa using hr
      obtain ⟨_, o, ho, _⟩ := mem_ready.1 hr
      simp only [planOps3, ho, wpMix3] at h
      have hD : ∃ D : Nat → Bool, (∀ k ok, ops[k]? = some ok → D k = true → ∃ e ∈ ok.after, Region.binds md e = true ∧ (e.on = i ∨ D e.on = true)) ∧ (∀ k, D k = true → listed.getD k true = false) ∧ (∀ j, bars.contains j = true → D j = true) := by
        rcases hb with hb | hb
        · have hb' : bars = [] := by simpa using hb
          subst hb'
          exact ⟨fun _ => false, fun _ _ _ h => (by cases h), fun _ h => (by cases h), fun _ h => (by simp at h)⟩
        · obtain ⟨h1, h2, h3⟩ := waitOk_spec hb
          exact ⟨fun k => (waits3 md ops i ops.size []).contains k, h1, h2, h3⟩
      obtain ⟨D, hD, hU, hb⟩ := hD
      by_cases hw : Region.wanted o (yielded ops a.tmps) = true
      · rw [if_pos hw] at h
        obtain ⟨v, hv, h⟩ := h
        exact AnyG.first2 ho (Region.noSelect_spec hs) (fun c a w => hQ c a o.dst v w) D hD hb _ listed a w (Region.free_spec ho hf) hU hr (.inl ⟨hw, fun w' g => hv ⟨w', g⟩⟩) (ih _ _ _ _ hnd hev h0 h)
      · rw [if_neg hw] at h
        exact AnyG.first2 ho (Region.noSelect_spec hs) (fun c a w => hQ c a o.dst undef w) D hD hb _ listed a w (Region.free_spec ho hf) hU hr (.inr ⟨by simpa using hw, rfl⟩) (ih _ _ _ _ hnd hev h0 h)
    | grow =>
      simp only [mixOk3, Bool.and_eq_true, beq_iff_eq, Bool.not_eq_true'] at h0
      obtain ⟨⟨hr, hnb⟩, h0⟩ := h0
      intro w' hg
      refine ⟨fun h1 => (by rw [h1] at hr; cases hr), fun j hj => ?_⟩
      rw [hr] at hj
      obtain rfl : j = i := by simpa using hj
      have hr' : j ∈ Region.ready md ops listed := by rw [hr]; simp
      obtain ⟨_, o, ho, _⟩ := mem_ready.1 hr'
      simp only [planOps3, ho, wpMix3] at h
      exact anyG_grow ho hnb (fun a' w'' h4 => ih _ _ _ _ hnd hev h0 h4) (h ⟨w', hg⟩)
    | bar =>
      simp only [mixOk3, Bool.and_eq_true, beq_iff_eq] at h0
      obtain ⟨⟨hr, hnb⟩, h0⟩ := h0
      have hup : ∀ a2 w2, AnyG P md ops Q (fun j => (bars.erase i).contains j) rest.len (listed.setIfInBounds i true) a2 w2 → AnyG P md ops Q (fun j => bars.contains j) rest.len (listed.setIfInBounds i true) a2 w2 := fun a2 w2 h => by
        refine AnyG.bars _ _ _ _ (fun j hj => ?_) h
        have hne : j ≠ i := by
          rintro rfl
          by_cases hlt : j < listed.size
          · simp [hlt] at hj
          · simp [hlt] at hj
        rw [Bool.eq_iff_iff]
        simp [hnd.mem_erase_iff, hne]
      intro w' hg
      refine ⟨fun h1 => (by rw [h1] at hr; cases hr), fun j hj => ?_⟩
      rw [hr] at hj
      obtain rfl : j = i := by simpa using hj
      have hr' : j ∈ Region.ready md ops listed := by rw [hr]; simp
      obtain ⟨_, o, ho, _⟩ := mem_ready.1 hr'
      simp only [planOps3, ho, wpMix3] at h
      have h1 := h ⟨w', hg⟩
      unfold opG
      simp only [ho]
      split
      · rename_i hw
        rw [if_pos hw] at h1
        exact Oper.wp_mono (fun a2 w2 h2 => ⟨fun hb => (by rw [hnb] at hb; cases hb), hup _ _ (ih _ _ _ _ (hnd.erase _) hev h0 h2)⟩) h1
      · rename_i hw
        rw [if_neg hw] at h1
        exact ⟨fun hb => (by rw [hnb] at hb; cases hb), hup _ _ (ih _ _ _ _ (hnd.erase _) hev h0 h1)⟩
theorem anyG_of_mix3 (hs : Region.noSelect ops = true) (hQ : ∀ c (a : Act) d v w, Q (.panic c) (a.put d v) w → Q (.panic c) a w) :
    ∀ (plan : Plan) (bars : List Nat) (listed : Array Bool) (a : Act) (w : World), bars.Nodup → plan.even = true → mixOk3 md ops bars listed plan = true → wpMix3 P ops Q (planOps3 ops plan) a w →
      AnyG P md ops Q (fun j => bars.contains j) plan.len listed a w :=
  fun plan => (anyG_of_mix3' hs hQ plan).1
theorem wp_region_mix3 {id : Nat} {a : Act} {w : World} (bars : List Nat) (plan : Plan) (hm : P.follows .mixedOrders = true) (hs : Region.noSelect ops = true) (hl : plan.len = ops.size) (hnd : bars.Nodup) (hev : plan.even = true)
    (hB : mixOk3 .any ops bars (Array.replicate ops.size false) plan = true) (hQ : ∀ c (a : Act) d v w, Q (.panic c) (a.put d v) w → Q (.panic c) a w)
    (h : wpMix3 P ops Q (planOps3 ops plan) a w) : (Code.region id ops true).wp P Q a w := by
  refine wp_region_any hm ?_
  have h1 := anyG_of_mix3 (md := .any) hs hQ plan bars _ a w hnd hev hB h
  rw [hl] at h1
  exact (h1.up (Grows.drew w)).any
theorem wpIn_region_mix3 {id : Nat} {a : Act} {w : World} {l n : Nat} (bars : List Nat) (plan : Plan) (hm : P.follows .mixedOrders = true) (hs : Region.noSelect ops = true) (hd : noDefer ops = true) (hl : plan.len = ops.size) (hnd : bars.Nodup) (hev : plan.even = true)
    (hB : mixOk3 .any ops bars (Array.replicate ops.size false) plan = true) (hQ : ∀ c (a : Act) d v w, Q (.panic c) (a.put d v) w → Q (.panic c) a w)
    (h : wpMix3 P ops Q (planOps3 ops plan) a w) : (Code.region id ops true).wpIn (Fence.wide.inRound l) n P Q a w := by
  refine wpIn_region_any hm ?_
  have h1 := anyG_of_mix3 (md := .any) hs hQ plan bars _ a w hnd hev hB h
  rw [hl] at h1
  exact (h1.up (Grows.drew w)).anyIn hd _ _ _ _
end
end
end Go.Proofs.YtjhbglklcddekaaGreatDoor
