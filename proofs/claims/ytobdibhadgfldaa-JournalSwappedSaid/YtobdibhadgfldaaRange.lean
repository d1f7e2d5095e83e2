/- A range over a function whose iterator keeps its state in one boxed cell of its own: the rounds are counted by a number. -/
import Derived.Test.YtobdibhadgfldaaMix
import Derived.RangeFuncNested
import Derived.RangeFuncBound
import Derived.RangeFuncCalls
import Derived.RangeFuncLeaves
import Derived.Shelf.Abstract
import Derived.Shelf.RegionOpen
import Derived.LoopNIn
import Derived.LoopIn
namespace Go.Proofs.Ytobdibhadgfldaa
open Go.RowKit Go.Shelf

theorem keeps_of_grows {B : Nat} {W W' : World} (h : Below W.heap.size W W') : KeepsFrom B W W' :=
  ⟨h.size, fun k _ _ hk _ => (h.block k (Array.getElem?_eq_some_iff.1 hk).1).trans hk⟩

/-- A block that holds no cells and lies at or beyond B may be turned. -/
def Still (B : Nat) (I : World → Prop) : Prop := ∀ (W : World) (l : Nat) (o o' : Obj), I W → B ≤ l → W.heap[l]? = some o → o.isCells = false → I (W.putObj l o')

/-- Where the round may be left. -/
def boxPost (B : Nat) (p : Addr) (I : World → Prop) (Ix : Code → World → Prop) (W : World) : Exit → Act → World → Prop
  | .normal, _, W' => KeepsFrom B W W' ∧ (W'.cell? p = W.cell? p ∧ W'.frozen? p = W.frozen? p) ∧ I W'
  | .ret, _, W' => KeepsFrom B W W' ∧ Ix .ret W'
  | .exit id, _, W' => KeepsFrom B W W' ∧ Ix (.exit id) W'
  | .goto t, _, W' => KeepsFrom B W W' ∧ Ix (.goto t) W'
  | .panic _, _, _ => False
  | .outgrown, _, _ => False

/-- What the iterator owes: N rounds, unless one says 'no more'; between two rounds it may write its own cell p alone. -/
def BoxSeq (F : Fence) (n : Nat) (P : Program) (gf : Nat) (lb : Array Value) (encs : Nat → Array Value) (N : Nat) (p : Addr) (w : World) : Prop :=
  ∀ (l : Nat) (J Jx : Nat → World → Prop) (W : World), W.cell? p = w.cell? p → W.frozen? p = w.frozen? p →
    (∀ k W v, J k W → J k (W.setCell p v)) →
    (∀ k W1, k < N → J k W1 → YieldAt F (n - 1) P l (encs k) W1 fun e W' =>
      (e = .returned (.bool true) ∧ J (k + 1) W' ∧ W'.cell? p = W1.cell? p ∧ W'.frozen? p = W1.frozen? p) ∨ (e = .returned (.bool false) ∧ Jx k W')) →
    J 0 W →
    CallsIn F n P gf (#[.func (.yield l) #[] #[]] ++ lb) W fun e W' => (∃ v, e = .returned v) ∧ (J N W' ∨ ∃ k, k < N ∧ Jx k W')

theorem putObj_cell {W : World} {l : Nat} {o : Obj} {p : Addr} {v : Value} (o' : Obj) (h : W.cell? p = some v) (hl : W.heap[l]? = some o) (ho : o.isCells = false) : (W.putObj l o').cell? p = W.cell? p := by
  rw [h]
  exact cell_kept h (grownBy_putObj' W l o') (fun r e => by cases e; exact ⟨o, hl, ho⟩)
theorem putObj_frozen {W : World} {l : Nat} {o : Obj} {p : Addr} {v : Value} (o' : Obj) (h : W.cell? p = some v) (hl : W.heap[l]? = some o) (ho : o.isCells = false) : (W.putObj l o').frozen? p = W.frozen? p :=
  frozen_kept h (grownBy_putObj' W l o') (fun r e => by cases e; exact ⟨o, hl, ho⟩)

variable {F : Fence} {n : Nat} {P : Program}

theorem wpIn_range_box {g : Operand} {ps : Array Tmp} {assign body : Code} {Q : Exit → Act → World → Prop} {a : Act} {w : World}
    (hro : F.round = none) (h1 : 1 ≤ n) {gf : Nat} {lb : Array Value} (hg : a.eval g = .func (.func gf) #[] lb) (hFg : F.fn gf) (eg : ∀ args w, (callFunc gf args).run P w = .ok (.enter gf args) w)
    {encs : Nat → Array Value} {N : Nat} {p : Addr} {pv : Value} (hp : w.cell? p = some pv) (hseq : BoxSeq F (n - 1) P gf lb encs N p w) (hps : ∀ k, (encs k).size = ps.size)
    (I : Nat → World → Prop) (Ix : Code → Nat → World → Prop) (hI : ∀ k, Still w.heap.size (I k)) (hIx : ∀ c k, Still w.heap.size (Ix c k)) (hbox : ∀ k W v, I k W → I k (W.setCell p v))
    (hcell : ∀ k W, I k W → ∃ v, W.cell? p = some v)
    (h0 : ∀ o o', I 0 ((w.alloc o).alloc o')) (a₁ : Nat → Act)
    (hassign : ∀ (l : Nat) (k : Nat) (W : World) (K : Act → World → Prop), K (a₁ k) W →
      assign.wpIn (F.inRound l) (n - 1 - 1) P (Exit.then K (fun _ _ _ => False)) { tmps := (ps.zip (encs k)).foldl (fun t (p, v) => t.setIfInBounds p v) a.tmps, defers := [] } W)
    (hbody : ∀ (l : Nat) (k : Nat) (W : World), k < N → I k W → body.wpIn (F.inRound l) (n - 1 - 1) P (boxPost w.heap.size p (I (k + 1)) (fun c => Ix c k) W) (a₁ k) W)
    (hdone : ∀ (D : Nat) (W : World), w.heap.size ≤ D → I N W → W.heap[D]? = some (.deferred (some [])) → Q .normal { a with defers := { target := .collected D, args := #[] } :: a.defers } W)
    (hstop : ∀ (D : Nat) (c : Code) (k : Nat) (W : World), w.heap.size ≤ D → k < N → Ix c k W → W.heap[D]? = some (.deferred (some [])) → c.wpIn F n P Q { a with defers := { target := .collected D, args := #[] } :: a.defers } W) :
    (Code.rangeFunc g ps assign body).wpIn F n P Q a w := by
  have hpb : p.block < w.heap.size := World.block_lt_of_cell? w p hp
  refine wpIn_rangeFunc fun fn hfn => ?_
  rw [hro]
  let D := w.heap.size
  let rec' : LoopState → Option Code → Obj := fun st pe => .loop { state := st, pending := pe, fn, tmps := a.tmps, params := ps, assign, body, defers := D }
  -- the book: the record in its state, and the block for deferred calls
  let Bk : Obj → World → Prop := fun o W => W.heap[D + 1]? = some o ∧ W.heap[D]? = some (.deferred (some []))
  have bkBox : ∀ o W v, Bk o W → Bk o (W.setCell p v) := fun o W v h =>
    ⟨(Below.heap_setCell W p v (D + 1) (by show D + 1 ≠ p.block; omega)).trans h.1, (Below.heap_setCell W p v D (by show D ≠ p.block; omega)).trans h.2⟩
  have bkPut : ∀ o o' W, Bk o W → Bk o' (W.putObj (D + 1) o') := fun o o' W h =>
    ⟨World.putObj_heap_same (Array.getElem?_eq_some_iff.1 h.1).1, (World.putObj_heap_other (by omega)).trans h.2⟩
  have bkKeep : ∀ o W W', o.isCells = false → KeepsFrom w.heap.size W W' → Bk o W → Bk o W' := fun o W W' ho hk h =>
    ⟨hk.same _ _ (by show w.heap.size ≤ w.heap.size + 1; omega) h.1 ho, hk.same _ _ (Nat.le_refl _) h.2 rfl⟩
  let W1 := (w.alloc (.deferred (some []))).alloc (rec' .ready none)
  have hB1 : Bk (rec' .ready none) W1 := ⟨by
      have := World.alloc_heap_new (w.alloc (.deferred (some []))) (rec' .ready none)
      rwa [World.size_alloc] at this, (Below.heap_alloc _ _ _ (by simp [D])).trans (World.alloc_heap_new w _)⟩
  have hc1 : W1.cell? p = w.cell? p := ((((Below.refl w.heap.size w).alloc (Nat.le_refl _) _).alloc (by simp) _)).cell hpb
  have hf1 : W1.frozen? p = w.frozen? p := ((((Below.refl w.heap.size w).alloc (Nat.le_refl _) _).alloc (by simp) _)).frozen hpb
  refine ⟨D + 1, [{ target := .collected D, args := #[] }], W1, { target := .fn (.func gf) lb, args := #[.func (.yield (D + 1)) #[] #[]] }, W1, gf,
    #[.func (.yield (D + 1)) #[] #[]] ++ lb, W1, run_enterLoop_outer _ _ _ _ _, ?_, ?_, ?_, fun _ => h1, ?_⟩
  · simp only [resolve, hg]
    simp [go_sem]
  · intro f' hf'; simp [Target.leads] at hf'; subst hf'; exact hFg
  · simp [invoke, go_sem, eg]
  · refine (hseq (D + 1) (fun k W => I k W ∧ Bk (rec' .ready none) W) (fun k W => ∃ c, Ix c k W ∧ Bk (rec' .done (some c)) W) W1 hc1 hf1
      (fun k W v h => ⟨hbox k W v h.1, bkBox _ W v h.2⟩) ?_ ⟨h0 _ _, hB1⟩).mono ?_
    · -- one round
      rintro k W hk ⟨hi, hbk⟩
      have hy := run_yield (P := P) (args := encs k) hbk.1 (hps k)
      refine ⟨fn, _, assign, body, hy, roundIn_of_wpIn hfn (hassign _ k W _ ⟨_, run_beginRound hbk.1 rfl, ?_⟩)⟩
      have hi2 := hI k W (D + 1) _ (rec' .busy none) hi (by show w.heap.size ≤ w.heap.size + 1; omega) hbk.1 rfl
      have hbk2 := bkPut _ (rec' .busy none) W hbk
      obtain ⟨v, hv⟩ := hcell k W hi
      refine wpIn_mono (hbody _ k _ hk hi2) ?_
      have fin : ∀ (jump : Option Code) (W3 : World), Bk (rec' .busy none) W3 →
          (Instr.endRound (D + 1) jump).run P W3 = .ok (.bool jump.isNone) (W3.putObj (D + 1) (rec' (if jump.isNone then .ready else .done) jump)) ∧
          Bk (rec' (if jump.isNone then .ready else .done) jump) (W3.putObj (D + 1) (rec' (if jump.isNone then .ready else .done) jump)) := fun jump W3 h3 => ⟨run_endRound (P := P) jump h3.1, bkPut _ _ W3 h3⟩
      have leave : ∀ (c : Code) (W3 : World), KeepsFrom w.heap.size (W.putObj (D + 1) (rec' .busy none)) W3 → Ix c k W3 → ∃ v w', (Instr.endRound (D + 1) (some c)).run P W3 = .ok v w' ∧
          ((.returned v = Ending.returned (.bool true) ∧ (I (k + 1) w' ∧ Bk (rec' .ready none) w') ∧ w'.cell? p = W.cell? p ∧ w'.frozen? p = W.frozen? p) ∨ (.returned v = Ending.returned (.bool false) ∧ ∃ c, Ix c k w' ∧ Bk (rec' .done (some c)) w')) := fun c W3 hk3 hi3 => by
        have h3 := bkKeep _ _ _ rfl hk3 hbk2
        obtain ⟨hr, h4⟩ := fin (some c) W3 h3
        exact ⟨_, _, hr, .inr ⟨rfl, c, hIx c k _ _ _ _ hi3 (by show w.heap.size ≤ w.heap.size + 1; omega) h3.1 rfl, h4⟩⟩
      rintro e a3 W3 hq
      cases e with
      | normal =>
        obtain ⟨hk3, ⟨hcp, hfp⟩, hi3⟩ := hq
        have h3 := bkKeep _ _ _ rfl hk3 hbk2
        obtain ⟨hr, h4⟩ := fin none W3 h3
        obtain ⟨v3, hv3⟩ := hcell _ _ hi3
        refine ⟨_, _, hr, .inl ⟨rfl, ⟨hI _ _ _ _ _ hi3 (by show w.heap.size ≤ w.heap.size + 1; omega) h3.1 rfl, h4⟩, ?_, ?_⟩⟩
        · rw [putObj_cell _ hv3 h3.1 rfl, hcp, putObj_cell _ hv hbk.1 rfl]
        · rw [putObj_frozen _ hv3 h3.1 rfl, hfp, putObj_frozen _ hv hbk.1 rfl]
      | ret => exact leave _ W3 hq.1 hq.2
      | exit id => exact leave _ W3 hq.1 hq.2
      | goto t => exact leave _ W3 hq.1 hq.2
      | panic ch => exact hq.elim
      | outgrown => exact hq.elim
    · rintro e W2 ⟨⟨v, rfl⟩, (⟨hi, hbk⟩ | ⟨k, hk, c, hi, hbk⟩)⟩
      · exact ⟨none, _, run_endLoop (P := P) hbk.1 (by simp), hdone _ _ (Nat.le_refl _) (hI _ _ _ _ _ hi (by show w.heap.size ≤ w.heap.size + 1; omega) hbk.1 rfl) ((World.putObj_heap_other (by omega)).trans hbk.2)⟩
      · exact ⟨some c, _, run_endLoop (P := P) hbk.1 (by simp), hstop _ c k _ (Nat.le_refl _) hk (hIx _ _ _ _ _ _ hi (by show w.heap.size ≤ w.heap.size + 1; omega) hbk.1 rfl) ((World.putObj_heap_other (by omega)).trans hbk.2)⟩

end Go.Proofs.Ytobdibhadgfldaa
