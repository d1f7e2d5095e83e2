/- Parts: RowD, RowN. -/
import Derived.Test.YtjhbglklcddekaaGreatDoorRows
import Derived.ProofKit
import Derived.OpenShut
import Derived.ShutString
import Derived.ChangeOld
import Derived.Below
import Derived.Test.YtjhbglklcddekaaGreatDoorV5
import Derived.Test.YtjhbglklcddekaaGreatDoorV6
import Derived.Deep.Slices
import Derived.LaidMore
import Derived.Stop.Joined
set_option linter.all false
set_option maxRecDepth 100000
set_option maxHeartbeats 16000000
namespace Go.Proofs.YtjhbglklcddekaaGreatDoor
open Go.RowKit Go.Proofs.Tryz
section
open Go.ChangeShapes Go.WideShapes Go.ChangeAt Go.RowKit
theorem add_none {w : World} {x : Addr} {j : Nat} {v : Value} (h : w.cell? (x.add j) = some v) : (x.add j).spot = none := by
  cases hs : (x.add j).spot with
  | none => rfl
  | some q =>
    unfold World.cell? at h
    split at h
    · simp [hs] at h
    · cases h
theorem add_at {w : World} {x : Addr} {j : Nat} {v : Value} (h : w.cell? (x.add j) = some v) (hx : x.spot = none) : w.cell? ⟨x.block, x.off + j, none⟩ = some v := by
  have e : x.add j = ⟨x.block, x.off + j, none⟩ := by
    unfold Addr.add
    split
    · rename_i h0
      subst h0
      cases x
      simp_all
    · rfl
  rw [← e]
  exact h
theorem sl_of_cells {w : World} {x : Addr} {n c size : Nat} {xs : List Value} (h : ∀ j v, xs[j]? = some v → w.cell? (x.add j) = some v) (hl : xs.length = n * size) (hc : n ≤ c) (hm : c ≤ maxLen) :
    Sl w w.heap.size (some x) n c size xs := by
  refine ⟨hl, ?_, hc, hm, fun h => by cases h⟩
  intro j v hv
  have h0 : ∃ u, xs[0]? = some u := by
    cases xs with
    | nil => cases hv
    | cons u us => exact ⟨u, rfl⟩
  obtain ⟨u, hu⟩ := h0
  have hx : x.spot = none := by
    have := add_none (h 0 u hu)
    unfold Addr.add at this
    simpa using this
  have hcell := add_at (h j v hv) hx
  refine ⟨x.block, x.off, ?_, World.block_lt_of_cell? w ⟨x.block, x.off + j, none⟩ hcell, hcell⟩
  obtain ⟨xb, xo, xs'⟩ := x
  obtain rfl : xs' = none := hx
  rfl
def NoM : Nat → Nat → Prop := fun _ _ => False
def Opn (P : Program) (t : TypeId) (G : List D → Prop) : Prop :=
  ∀ (H : Type) (enc : TypeId × Value → H) (w : World) (base : Nat) (spare : Nat → Bool) (held : Bool) (fuel : Nat) (cs : List Value) (x : DataW H × List MemPlace),
    DataW.trod enc P w base spare held fuel t cs = some x → ∃ ds, G ds ∧ RepA w NoM ds cs
theorem Opn.mono {P : Program} {t : TypeId} {G G' : List D → Prop} (h : Opn P t G) (hg : ∀ ds, G ds → G' ds) : Opn P t G' := fun H enc w b s hd f cs x hx => by
  obtain ⟨ds, h1, h2⟩ := h H enc w b s hd f cs x hx
  exact ⟨ds, hg _ h1, h2⟩
theorem RepA.single {w : World} {M : Nat → Nat → Prop} {x : D} {v : Value} (h1 : v.oneCell' = true) (h : RepD w M x v) : RepA w M [x] [v] := ⟨v, [], rfl, h1, h, rfl⟩
theorem opn_int {P : Program} {t : TypeId} {k : IntKind} (ht : P.underlying t = some (.int k)) : Opn P t (fun ds => ∃ n, ds = [.int k n] ∧ (Lit.int k n).wf = true) := fun H enc w b s hd f cs x hx => by
  obtain ⟨n, rfl, _, hw⟩ := DataW.trod_int ht hx
  exact ⟨_, ⟨n, rfl, hw⟩, RepA.single rfl rfl⟩
theorem choose_list' {α : Type} {n : Nat} {p : Nat → α → Prop} (h : ∀ i, i < n → ∃ x, p i x) : ∃ l : List α, l.length = n ∧ ∀ i (hi : i < l.length), p i l[i] := by
  induction n with
  | zero => exact ⟨[], rfl, fun i hi => absurd hi (Nat.not_lt_zero _)⟩
  | succ n ih =>
    obtain ⟨l, hl, hp⟩ := ih (fun i hi => h i (by omega))
    obtain ⟨x, hx⟩ := h n (by omega)
    refine ⟨l ++ [x], by simp [hl], fun i hi => ?_⟩
    by_cases hin : i < l.length
    · rw [List.getElem_append_left hin]; exact hp i hin
    · obtain rfl : i = n := by simp at hi; omega
      rw [List.getElem_append_right (by omega)]
      simpa [hl] using hx
def boxOf (one : Bool) (cs : List Value) : Value := match one, cs with
  | true, [v] => v
  | _, _ => .agg cs.toArray
def datOf (one : Bool) (ds : List D) : D := match one, ds with
  | true, [d] => d
  | _, _ => .agg ds
theorem rep_box {w : World} {M : Nat → Nat → Prop} {one : Bool} {ds : List D} {cs : List Value} (h : RepA w M ds cs) (h1 : one = true → ds.length = 1) :
    RepD w M (datOf one ds) (boxOf one cs) ∧ (boxOf one cs).cells.toList = cs := by
  have hl := h.length
  cases one with
  | false =>
    refine ⟨⟨cs, rfl, h⟩, ?_⟩
    simp [boxOf, Value.cells]
  | true =>
    have h1 := h1 rfl
    obtain ⟨d, rfl⟩ := List.length_eq_one_iff.1 h1
    obtain ⟨v, rfl⟩ := List.length_eq_one_iff.1 (hl.trans h1)
    obtain ⟨_, _, e, h2, h3, _⟩ := h
    simp at e
    obtain ⟨rfl, rfl⟩ := e
    refine ⟨h3, ?_⟩
    simp only [boxOf]
    cases v <;> simp_all [Value.cells, Value.oneCell']
theorem rep_list {w : World} {M : Nat → Nat → Prop} {one : Bool} {sz : Nat} : ∀ (xs : List (List D)) (ys : List (List Value)), xs.length = ys.length → (∀ i (h : i < xs.length) (k : i < ys.length), RepA w M xs[i] ys[i] ∧ ys[i].length = sz) → (one = true → sz = 1) →
    RepE w M sz (xs.map (datOf one)) ys.flatten
  | [], [], _, _, _ => rfl
  | x :: xs, y :: ys, hl, h, h1 => by
    obtain ⟨h2, h3⟩ := h 0 (by simp) (by simp)
    simp at h2 h3
    obtain ⟨h4, h5⟩ := rep_box (one := one) h2 (fun e => by rw [← h2.length, h3, h1 e])
    refine ⟨boxOf one y, ys.flatten, by rw [h5]; rfl, ?_, h4, rep_list xs ys (by simpa using hl) (fun i a b => ?_) h1⟩
    · rw [← Array.length_toList, h5, h3]
    · have := h (i + 1) (by simpa using a) (by simpa using b)
      simpa using this
theorem opn_slice {P : Program} {t e : TypeId} {G : List D → Prop} (one : Bool) (sz : Nat) (ht : P.underlying t = some (.slice e)) (hc : P.cellsOf e = sz) (h1 : one = true → sz = 1) (he : Opn P e G) :
    Opn P t (fun ds => ∃ xs : List (List D), ds = [.list sz (xs.map (datOf one))] ∧ (∀ x ∈ xs, G x ∧ x.length = sz) ∧ xs.length ≤ maxLen) := fun H enc w b s hd f cs x hx => by
  subst hc
  rcases Go.Deep.open_slice ht hx with ⟨rfl, _⟩ | ⟨p, n, c, m, f', D', Pl, rfl, _, hl, hm, hmm, _, hi⟩
  · refine ⟨_, ⟨[], rfl, by simp, by simp⟩, RepA.single rfl ⟨none, 0, [], rfl, Nat.le_refl _, Nat.zero_le _, fun _ => rfl, rfl, fun j y hj => by simp at hj⟩⟩
  · have hle : n ≤ m := by rw [hmm]; split <;> omega
    obtain ⟨l, hlen, hp⟩ := choose_list' (n := n) (p := fun i (y : List D × List Value) => G y.1 ∧ RepA w NoM y.1 y.2 ∧ y.2.length = P.cellsOf e ∧ ∀ j v, y.2[j]? = some v → w.cell? (p.add (i * P.cellsOf e + j)) = some v) (fun i hin => by
      obtain ⟨cs', h2, h3⟩ := hi i (by omega)
      obtain ⟨ds, h4, h5⟩ := he H enc w b s hd f' cs' _ h3
      obtain ⟨_, hcl, hat⟩ := World.cells?_some h2
      refine ⟨(ds, cs'), h4, h5, hcl, fun j v hv => ?_⟩
      have hj : j < P.cellsOf e := by rw [← hcl]; exact (List.getElem?_eq_some_iff.1 hv).1
      rw [← Go.Deep.add_add, hat j hj, hv])
    have hflat : ∀ (l : List (List D × List Value)) (o : Nat), (∀ i (h : i < l.length), l[i].2.length = P.cellsOf e ∧ ∀ j v, l[i].2[j]? = some v → w.cell? (p.add ((o + i) * P.cellsOf e + j)) = some v) →
        ∀ j v, (l.map (·.2)).flatten[j]? = some v → w.cell? (p.add (o * P.cellsOf e + j)) = some v := by
      intro l
      induction l with
      | nil => intro o _ j v hv; simp at hv
      | cons y l ih =>
        intro o h j v hv
        obtain ⟨h2, h3⟩ := h 0 (by simp)
        simp at h2 h3
        rw [List.map_cons, List.flatten_cons] at hv
        by_cases hj : j < y.2.length
        · rw [List.getElem?_append_left hj] at hv
          exact h3 j v hv
        · rw [List.getElem?_append_right (by omega)] at hv
          have := ih (o + 1) (fun i hi => by have := h (i + 1) (by simpa using hi); simpa [Nat.add_comm, Nat.add_left_comm] using this) _ v hv
          rw [show (o + 1) * P.cellsOf e + (j - y.2.length) = o * P.cellsOf e + j by rw [Nat.add_mul, h2]; omega] at this
          exact this
    have hs : Sl w w.heap.size (some p) n c (P.cellsOf e) (l.map (·.2)).flatten := by
      refine sl_of_cells (fun j v hv => ?_) ?_ hl hm
      · have := hflat l 0 (fun i hi => ⟨(hp i hi).2.2.1, fun j v hv => by simpa using (hp i hi).2.2.2 j v hv⟩) j v hv
        simpa using this
      · have : ∀ (l : List (List D × List Value)), (∀ i (h : i < l.length), l[i].2.length = P.cellsOf e) → (l.map (·.2)).flatten.length = l.length * P.cellsOf e := by
          intro l
          induction l with
          | nil => intro _; simp
          | cons y l ih =>
            intro h
            have h2 := h 0 (by simp)
            simp at h2
            have := ih (fun i hi => h (i + 1) (by simpa using hi))
            simp only [List.map_cons, List.flatten_cons, List.length_append, List.length_cons, h2, this, Nat.add_mul]
            omega
        rw [this l (fun i hi => (hp i hi).2.2.1), hlen]
    refine ⟨_, ⟨l.map (·.1), rfl, fun x hx => ?_, by simp [hlen]; omega⟩, RepA.single rfl ⟨some p, c, (l.map (·.2)).flatten, by simp [hlen], by simp [hlen]; omega, hm, (fun h => by cases h), rep_list _ _ (by simp) (fun i a b => ?_) h1, fun j y hj => ?_⟩⟩
    · obtain ⟨y, hy, rfl⟩ := List.mem_map.1 hx
      obtain ⟨i, hi', rfl⟩ := List.mem_iff_getElem.1 hy
      obtain ⟨h2, h3, h4, _⟩ := hp i hi'
      exact ⟨h2, by rw [← h3.length, h4]⟩
    · simp at a b
      obtain ⟨h2, h3, h4, _⟩ := hp i a
      simpa using ⟨h3, h4⟩
    · obtain ⟨b, o, e1, e2, e3⟩ := hs.rd j y hj
      exact ⟨b, o, e1, fun h => h.elim, e3⟩
def GCat : List (List D → Prop) → List D → Prop
  | [], ds => ds = []
  | G :: Gs, ds => ∃ a b, ds = a ++ b ∧ G a ∧ GCat Gs b
def laidFrom (P : Program) : Nat → List Field → Bool
  | _, [] => true
  | o, f :: fs => f.offset == o && laidFrom P (o + P.cellsOf f.type) fs
inductive OpnAll (P : Program) : List Field → List (List D → Prop) → Prop
  | nil : OpnAll P [] []
  | cons {f fs G Gs} : Opn P f.type G → OpnAll P fs Gs → OpnAll P (f :: fs) (G :: Gs)
theorem RepA.app {w : World} {M : Nat → Nat → Prop} : ∀ {a b : List D} {u v : List Value}, RepA w M a u → RepA w M b v → RepA w M (a ++ b) (u ++ v)
  | [], _, _, _, h, k => by simp only [RepA] at h; subst h; exact k
  | x :: a, b, u, v, h, k => by
    obtain ⟨y, r, rfl, h2, h3, h4⟩ := h
    exact ⟨y, r ++ v, rfl, h2, h3, h4.app k⟩
theorem opn_fields {P : Program} {H : Type} {enc : TypeId × Value → H} {w : World} {base : Nat} {spare : Nat → Bool} {held : Bool} {fuel : Nat} {cs : List Value} : ∀ {fs : List Field} {Gs : List (List D → Prop)} {o : Nat},
    OpnAll P fs Gs → laidFrom P o fs = true → (∀ f ∈ fs, ∃ x, DataW.trod enc P w base spare held fuel f.type ((cs.drop f.offset).take (P.cellsOf f.type)) = some x) →
    ∃ ds, GCat Gs ds ∧ RepA w NoM ds ((cs.drop o).take (fs.map fun f => P.cellsOf f.type).sum)
  | _, _, o, .nil, _, _ => ⟨[], rfl, by simp [RepA]⟩
  | _, _, o, .cons (f := f) (fs := fs) h hs, hl, hx => by
    simp only [laidFrom, Bool.and_eq_true, beq_iff_eq] at hl
    obtain ⟨x, h1⟩ := hx f (by simp)
    obtain ⟨ds, h2, h3⟩ := h H enc w base spare held fuel _ x h1
    obtain ⟨es, h4, h5⟩ := opn_fields (cs := cs) hs hl.2 (fun g hg => hx g (by simp [hg]))
    refine ⟨ds ++ es, ⟨ds, es, rfl, h2, h4⟩, ?_⟩
    rw [hl.1] at h3
    have := h3.app h5
    rw [List.map_cons, List.sum_cons, List.take_add, List.drop_drop]
    exact this
theorem opn_struct {P : Program} {t : TypeId} {fs : Array Field} {Gs : List (List D → Prop)} (ht : P.underlying t = some (.struct fs)) (hs : OpnAll P fs.toList Gs) (hl : laidFrom P 0 fs.toList = true) (hc : (fs.toList.map fun f => P.cellsOf f.type).sum = P.cellsOf t) :
    Opn P t (GCat Gs) := fun H enc w b s hd f cs x hx => by
  obtain ⟨ys, n, _, _, hlen, hys, hf⟩ := DataW.trod_struct ht hx
  obtain ⟨ds, h1, h2⟩ := opn_fields (cs := cs) (enc := enc) (w := w) (base := b) (spare := s) (held := hd) (fuel := n) hs hl (fun g hg => by
    obtain ⟨i, hi, rfl⟩ := List.mem_iff_getElem.1 hg
    have h3 := hf i fs[i] (by simp at hi; simp [hi])
    simp at hi
    exact ⟨ys[i], by simpa [hys, hi] using h3⟩)
  refine ⟨ds, h1, ?_⟩
  rw [hc, ← hlen] at h2
  simpa using h2
end
section
open Go.ChangeShapes Go.WideShapes Go.ChangeAt Go.RowKit
def laid3 : List (String × DataW Unit) := [("unicode.White_Space", Rows.laid_unicode_White_Space), ("strings.asciiSpace", Rows.laid_strings_asciiSpace), ("transputer/instr.functions", Rows.laid_transputer_instr_functions)]
set_option maxRecDepth 100000 in
theorem door_met (os : Os) (args : Array Value) : laidMetH prog laid3 ((World.doorLaid prog 38 os).forCall (fun _ _ => 0) ⟨#[], args, []⟩).memory :=
  laidMetH_of_parts3 (fuel := 8) (laidMet_of_run' 8 (by kernel_rfl) (by kernel_rfl)) (by kernel_rfl) (by kernel_rfl)
theorem own_knob : ownKnob prog.godebug = none := by kernel_rfl
theorem laid_out : laidOutB prog = true := by kernel_rfl
end
end Go.Proofs.YtjhbglklcddekaaGreatDoor
