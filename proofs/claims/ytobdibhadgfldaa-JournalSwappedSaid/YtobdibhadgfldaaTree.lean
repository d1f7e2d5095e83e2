/- As Mix, where two operations may come up in either order: the plan is a tree. -/
import Derived.Test.YtobdibhadgfldaaMix
namespace Go.Proofs.Ytobdibhadgfldaa
open Go.RowKit

inductive Tree where
  | nil
  | one (i : Nat) (x : Way) (t : Tree)
  /-- i (which makes memory at most) or j (a barrier) comes up -/
  | two (i : Nat) (t : Tree) (j : Nat) (u : Tree)

inductive OTree where
  | nil
  | one (o : Oper) (x : Way) (t : OTree)
  | two (o : Oper) (t : OTree) (p : Oper) (u : OTree)

def treeOps (ops : Array Oper) : Tree → OTree
  | .nil => .nil
  | .one i x t => match ops[i]? with
    | some o => .one o x (treeOps ops t)
    | none => .nil
  | .two i t j u => match ops[i]?, ops[j]? with
    | some o, some p => .two o (treeOps ops t) p (treeOps ops u)
    | _, _ => .nil

def Tree.depth : Tree → Nat
  | .nil => 0
  | .one _ _ t => t.depth + 1
  | .two _ t _ u => max t.depth u.depth + 1

section
variable {P : Program} {ops : Array Oper} {Q : Exit → Act → World → Prop} {md : Region.Mode}

def wpTree (P : Program) (ops : Array Oper) (Q : Exit → Act → World → Prop) : OTree → Act → World → Prop
  | .nil, a, w => ∀ n : Late w, Q .normal a n.w
  | .one o .quiet t, a, w =>
    if Region.wanted o (yielded ops a.tmps) = true then ∃ v, (∀ n : Late w, Oper.quietUpon P (Grows n.w) n.w v ((execOp a.eval o).run P n.w)) ∧ wpTree P ops Q t (a.put o.dst v) w
    else wpTree P ops Q t (a.put o.dst undef) w
  | .one o .grow t, a, w => ∀ n : Late w,
    if Region.wanted o (yielded ops a.tmps) = true then o.wp P a n.w (fun a' w' => Grows n.w w' ∧ wpTree P ops Q t a' w') Q else wpTree P ops Q t (a.put o.dst undef) n.w
  | .one o .bar t, a, w => ∀ n : Late w,
    if Region.wanted o (yielded ops a.tmps) = true then o.wp P a n.w (fun a' w' => wpTree P ops Q t a' w') Q else wpTree P ops Q t (a.put o.dst undef) n.w
  | .two o t p u, a, w =>
    (∀ n : Late w, if Region.wanted o (yielded ops a.tmps) = true then o.wp P a n.w (fun a' w' => Grows n.w w' ∧ wpTree P ops Q t a' w') Q else wpTree P ops Q t (a.put o.dst undef) n.w) ∧
    (∀ n : Late w, if Region.wanted p (yielded ops a.tmps) = true then p.wp P a n.w (fun a' w' => wpTree P ops Q u a' w') Q else wpTree P ops Q u (a.put p.dst undef) n.w)

def treeOk (md : Region.Mode) (ops : Array Oper) (bars : List Nat) : Array Bool → Tree → Bool
  | listed, .nil => (Region.ready md ops listed).isEmpty
  | listed, .one i .quiet t => (Region.ready md ops listed).contains i && Region.free md ops listed i &&
      bars.all (fun j => match ops[j]? with | some oj => oj.after.any (fun e => Region.binds md e && e.on == i) | none => false) && treeOk md ops bars (listed.setIfInBounds i true) t
  | listed, .one i .grow t => (Region.ready md ops listed == [i]) && !bars.contains i && treeOk md ops bars (listed.setIfInBounds i true) t
  | listed, .one i .bar t => (Region.ready md ops listed == [i]) && bars.contains i && treeOk md ops bars (listed.setIfInBounds i true) t
  | listed, .two i t j u => (Region.ready md ops listed == [i, j]) && !bars.contains i && bars.contains j && treeOk md ops bars (listed.setIfInBounds i true) t && treeOk md ops bars (listed.setIfInBounds j true) u

theorem opG_grow {bar : Nat → Bool} {i : Nat} {o : Oper} {a : Act} {w' : World} {K1 K2 : Act → World → Prop} (ho : ops[i]? = some o) (hK : ∀ a w, K1 a w → K2 a w)
    (h1 : if Region.wanted o (yielded ops a.tmps) = true then o.wp P a w' (fun a' w'' => Grows w' w'' ∧ K1 a' w'') Q else K1 (a.put o.dst undef) w') :
    opG P ops Q i (fun a' w'' => (bar i = false → Grows w' w'') ∧ K2 a' w'') a w' := by
  unfold opG
  simp only [ho]
  split
  · rename_i hw
    rw [if_pos hw] at h1
    exact Oper.wp_mono (fun a2 w2 h2 => ⟨fun _ => h2.1, hK _ _ h2.2⟩) h1
  · rename_i hw
    rw [if_neg hw] at h1
    exact ⟨fun _ => Grows.refl _, hK _ _ h1⟩
theorem opG_bar {bar : Nat → Bool} {i : Nat} {o : Oper} {a : Act} {w' : World} {K1 K2 : Act → World → Prop} (ho : ops[i]? = some o) (hb : bar i = true) (hK : ∀ a w, K1 a w → K2 a w)
    (h1 : if Region.wanted o (yielded ops a.tmps) = true then o.wp P a w' (fun a' w'' => K1 a' w'') Q else K1 (a.put o.dst undef) w') :
    opG P ops Q i (fun a' w'' => (bar i = false → Grows w' w'') ∧ K2 a' w'') a w' := by
  unfold opG
  simp only [ho]
  split
  · rename_i hw
    rw [if_pos hw] at h1
    exact Oper.wp_mono (fun a2 w2 h2 => ⟨fun h => (by rw [hb] at h; cases h), hK _ _ h2⟩) h1
  · rename_i hw
    rw [if_neg hw] at h1
    exact ⟨fun h => (by rw [hb] at h; cases h), hK _ _ h1⟩

theorem anyG_of_tree (bars : List Nat) (hs : Region.noSelect ops = true) (hQ : ∀ c (a : Act) d v w, Q (.panic c) (a.put d v) w → Q (.panic c) a w) :
    ∀ (t : Tree) (f : Nat) (listed : Array Bool) (a : Act) (w : World), t.depth ≤ f → treeOk md ops bars listed t = true → wpTree P ops Q (treeOps ops t) a w →
      AnyG P md ops Q (fun j => bars.contains j) f listed a w := by
  intro t
  induction t with
  | nil =>
    intro f listed a w _ h0 h
    have h0' : Region.ready md ops listed = [] := by simpa [treeOk] using h0
    cases f with
    | zero => exact fun w' hg => ⟨h0', h ⟨w', hg⟩⟩
    | succ f => exact fun w' hg => ⟨fun _ => h ⟨w', hg⟩, fun i hi => by rw [h0'] at hi; cases hi⟩
  | one i x t ih =>
    intro f listed a w hf h0 h
    obtain ⟨f, rfl⟩ : ∃ g, f = g + 1 := ⟨f - 1, by simp [Tree.depth] at hf; omega⟩
    have hf' : t.depth ≤ f := by simp [Tree.depth] at hf; omega
    cases x with
    | quiet =>
      simp only [treeOk, Bool.and_eq_true] at h0
      obtain ⟨⟨⟨hr, hfr⟩, hb⟩, h0⟩ := h0
      have hr : i ∈ Region.ready md ops listed := by simpa using hr
      obtain ⟨_, o, ho, _⟩ := mem_ready.1 hr
      simp only [treeOps, ho, wpTree] at h
      have hbar : ∀ j oj, ops[j]? = some oj → bars.contains j = true → ∃ e ∈ oj.after, Region.binds md e = true ∧ e.on = i := by
        intro j oj hoj hj
        have := List.all_eq_true.1 hb j (by simpa using hj)
        simp only [hoj, Array.any_eq_true'] at this
        obtain ⟨e, he, h2⟩ := this
        simp only [Bool.and_eq_true, beq_iff_eq] at h2
        exact ⟨e, he, h2.1, h2.2⟩
      by_cases hw : Region.wanted o (yielded ops a.tmps) = true
      · rw [if_pos hw] at h
        obtain ⟨v, hv, h⟩ := h
        exact AnyG.first ho (Region.noSelect_spec hs) (fun c a w => hQ c a o.dst v w) hbar _ listed a w (Region.free_spec ho hfr) hr (.inl ⟨hw, fun w' g => hv ⟨w', g⟩⟩) (ih _ _ _ _ hf' h0 h)
      · rw [if_neg hw] at h
        exact AnyG.first ho (Region.noSelect_spec hs) (fun c a w => hQ c a o.dst undef w) hbar _ listed a w (Region.free_spec ho hfr) hr (.inr ⟨by simpa using hw, rfl⟩) (ih _ _ _ _ hf' h0 h)
    | grow =>
      simp only [treeOk, Bool.and_eq_true, beq_iff_eq] at h0
      obtain ⟨⟨hr, hnb⟩, h0⟩ := h0
      intro w' hg
      refine ⟨fun h1 => (by rw [h1] at hr; cases hr), fun j hj => ?_⟩
      rw [hr] at hj
      obtain rfl : j = i := by simpa using hj
      obtain ⟨_, o, ho, _⟩ := mem_ready.1 (show j ∈ Region.ready md ops listed by rw [hr]; simp)
      simp only [treeOps, ho, wpTree] at h
      exact opG_grow ho (fun a2 w2 h2 => ih f _ a2 w2 hf' h0 h2) (h ⟨w', hg⟩)
    | bar =>
      simp only [treeOk, Bool.and_eq_true, beq_iff_eq] at h0
      obtain ⟨⟨hr, hnb⟩, h0⟩ := h0
      intro w' hg
      refine ⟨fun h1 => (by rw [h1] at hr; cases hr), fun j hj => ?_⟩
      rw [hr] at hj
      obtain rfl : j = i := by simpa using hj
      obtain ⟨_, o, ho, _⟩ := mem_ready.1 (show j ∈ Region.ready md ops listed by rw [hr]; simp)
      simp only [treeOps, ho, wpTree] at h
      exact opG_bar ho hnb (fun a2 w2 h2 => ih f _ a2 w2 hf' h0 h2) (h ⟨w', hg⟩)
  | two i t j u ih1 ih2 =>
    intro f listed a w hf h0 h
    obtain ⟨f, rfl⟩ : ∃ g, f = g + 1 := ⟨f - 1, by simp [Tree.depth] at hf; omega⟩
    have hf1 : t.depth ≤ f := by simp [Tree.depth] at hf; omega
    have hf2 : u.depth ≤ f := by simp [Tree.depth] at hf; omega
    simp only [treeOk, Bool.and_eq_true, beq_iff_eq] at h0
    obtain ⟨⟨⟨⟨hr, hni⟩, hbj⟩, h1⟩, h2⟩ := h0
    obtain ⟨_, o, ho, _⟩ := mem_ready.1 (show i ∈ Region.ready md ops listed by rw [hr]; simp)
    obtain ⟨_, p, hp, _⟩ := mem_ready.1 (show j ∈ Region.ready md ops listed by rw [hr]; simp)
    simp only [treeOps, ho, hp, wpTree] at h
    intro w' hg
    refine ⟨fun h1 => (by rw [h1] at hr; cases hr), fun x hx => ?_⟩
    rw [hr] at hx
    rcases (by simpa using hx : x = i ∨ x = j) with rfl | rfl
    · exact opG_grow ho (fun a2 w2 h3 => ih1 f _ a2 w2 hf1 h1 h3) (h.1 ⟨w', hg⟩)
    · exact opG_bar hp hbj (fun a2 w2 h3 => ih2 f _ a2 w2 hf2 h2 h3) (h.2 ⟨w', hg⟩)

theorem wpIn_region_tree {id : Nat} {a : Act} {w : World} {l n : Nat} (bars : List Nat) (t : Tree) (hm : P.follows .mixedOrders = true) (hs : Region.noSelect ops = true) (hd : noDefer ops = true) (hl : t.depth ≤ ops.size)
    (hB : treeOk .any ops bars (Array.replicate ops.size false) t = true) (hQ : ∀ c (a : Act) d v w, Q (.panic c) (a.put d v) w → Q (.panic c) a w)
    (h : wpTree P ops Q (treeOps ops t) a w) : (Code.region id ops true).wpIn (Fence.wide.inRound l) n P Q a w :=
  wpIn_region_any hm (((anyG_of_tree (md := .any) bars hs hQ t _ _ a w hl hB h).up (Grows.drew w)).anyIn hd _ _ _ _)

theorem wp_region_tree {id : Nat} {a : Act} {w : World} (bars : List Nat) (t : Tree) (hm : P.follows .mixedOrders = true) (hs : Region.noSelect ops = true) (hl : t.depth ≤ ops.size)
    (hB : treeOk .any ops bars (Array.replicate ops.size false) t = true) (hQ : ∀ c (a : Act) d v w, Q (.panic c) (a.put d v) w → Q (.panic c) a w)
    (h : wpTree P ops Q (treeOps ops t) a w) : (Code.region id ops true).wp P Q a w :=
  wp_region_any hm ((anyG_of_tree (md := .any) bars hs hQ t _ _ a w hl hB h).up (Grows.drew w)).any

variable {o p : Oper} {t u : OTree} {a : Act} {w : World}
theorem tree_quiet (h : ∀ K : Act → Prop, (∀ a, wpTree P ops Q t a w → K a) →
    if Region.wanted o (yielded ops a.tmps) = true then ∃ v, (∀ n : Late w, Oper.quietUpon P (Grows n.w) n.w v ((execOp a.eval o).run P n.w)) ∧ K (a.put o.dst v) else K (a.put o.dst undef)) :
    wpTree P ops Q (.one o .quiet t) a w := h _ fun _ h => h
theorem grow_step {K1 : Act → World → Prop} {n : Late w} (h : ∀ K : Act → World → Prop, (∀ a w', Grows n.w w' → K1 a w' → K a w') →
    if Region.wanted o (yielded ops a.tmps) = true then o.wp P a n.w K Q else K (a.put o.dst undef) n.w) :
    if Region.wanted o (yielded ops a.tmps) = true then o.wp P a n.w (fun a' w' => Grows n.w w' ∧ K1 a' w') Q else K1 (a.put o.dst undef) n.w := by
  have := h (fun a' w' => Grows n.w w' ∧ K1 a' w') (fun _ _ g h => ⟨g, h⟩)
  split
  · rename_i hw; rw [if_pos hw] at this; exact this
  · rename_i hw; rw [if_neg hw] at this; exact this.2
theorem tree_grow (h : ∀ n : Late w, ∀ K : Act → World → Prop, (∀ a w', Grows n.w w' → wpTree P ops Q t a w' → K a w') →
    if Region.wanted o (yielded ops a.tmps) = true then o.wp P a n.w K Q else K (a.put o.dst undef) n.w) :
    wpTree P ops Q (.one o .grow t) a w := fun n => grow_step (h n)
theorem tree_bar (h : ∀ n : Late w, ∀ K : Act → World → Prop, (∀ a w', wpTree P ops Q t a w' → K a w') →
    if Region.wanted o (yielded ops a.tmps) = true then o.wp P a n.w K Q else K (a.put o.dst undef) n.w) :
    wpTree P ops Q (.one o .bar t) a w := fun n => h n _ (fun _ _ h => h)
theorem tree_two
    (h : ∀ n : Late w, ∀ K : Act → World → Prop, (∀ a w', Grows n.w w' → wpTree P ops Q t a w' → K a w') → if Region.wanted o (yielded ops a.tmps) = true then o.wp P a n.w K Q else K (a.put o.dst undef) n.w)
    (k : ∀ n : Late w, ∀ K : Act → World → Prop, (∀ a w', wpTree P ops Q u a w' → K a w') → if Region.wanted p (yielded ops a.tmps) = true then p.wp P a n.w K Q else K (a.put p.dst undef) n.w) :
    wpTree P ops Q (.two o t p u) a w := ⟨fun n => grow_step (h n), fun n => k n _ (fun _ _ h => h)⟩
theorem tree_nil (h : ∀ n : Late w, Q .normal a n.w) : wpTree P ops Q .nil a w := h
end

end Go.Proofs.Ytobdibhadgfldaa
