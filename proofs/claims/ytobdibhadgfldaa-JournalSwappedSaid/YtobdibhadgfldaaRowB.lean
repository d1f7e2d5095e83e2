/- A []byte that came in, as the walks want it. -/
import Derived.Test.YtobdibhadgfldaaJW14
import Derived.Test.YtobdibhadgfldaaRows
import Derived.ProofKit
import Derived.OpenShut
import Derived.ShutString
import Derived.ChangeOld
import Derived.Below
namespace Go.Proofs.Ytobdibhadgfldaa
open Go.ChangeShapes Go.WideShapes Go.ChangeAt Go.RowKit

/-- A slice of integers that came in. -/
def IsRow (k : IntKind) (w : World) (a : Option Addr) (len cap : Nat) (zs : List Int) : Prop :=
  (a = none ∧ len = 0 ∧ cap = 0 ∧ zs = []) ∨
  ∃ x, a = some x ∧ len ≤ cap ∧ cap ≤ maxLen ∧ zs.length = cap ∧ (∀ i, i < zs.length → w.cell? (x.add i) = some (.int k (zs.getD i 0))) ∧ ∀ n ∈ zs, (Lit.int k n).wf = true

theorem add_none {w : World} {x : Addr} {j : Nat} {v : Value} (h : w.cell? (x.add j) = some v) : (x.add j).spot = none := by
  cases hs : (x.add j).spot with
  | none => rfl
  | some q =>
    unfold World.cell? at h
    split at h
    · simp [hs] at h
    · cases h

theorem add_at {w : World} {x : Addr} {j : Nat} {v : Value} (h : w.cell? (x.add j) = some v) (hx : x.spot = none) : w.cell? ⟨x.block, x.off + j, none⟩ = some v := by
  have e : x.add j = ⟨x.block, x.off + j, none⟩ := by
    unfold Addr.add
    split
    · rename_i h0
      subst h0
      cases x
      simp_all
    · rfl
  rw [← e]
  exact h

theorem sl_of_cells {w : World} {x : Addr} {n c size : Nat} {xs : List Value} (h : ∀ j v, xs[j]? = some v → w.cell? (x.add j) = some v) (hl : xs.length = n * size) (hc : n ≤ c) (hm : c ≤ maxLen) :
    Sl w w.heap.size (some x) n c size xs := by
  refine ⟨hl, ?_, hc, hm, fun h => by cases h⟩
  intro j v hv
  have h0 : ∃ u, xs[0]? = some u := by
    cases xs with
    | nil => cases hv
    | cons u us => exact ⟨u, rfl⟩
  obtain ⟨u, hu⟩ := h0
  have hx : x.spot = none := by
    have := add_none (h 0 u hu)
    unfold Addr.add at this
    simpa using this
  have hcell := add_at (h j v hv) hx
  refine ⟨x.block, x.off, ?_, World.block_lt_of_cell? w ⟨x.block, x.off + j, none⟩ hcell, hcell⟩
  obtain ⟨xb, xo, xs'⟩ := x
  obtain rfl : xs' = none := hx
  rfl

theorem row_bytes {w : World} {a : Option Addr} {len cap : Nat} {zs : List Int} (h : IsRow .u8 w a len cap zs) : ∃ b : List UInt8, b.length = len ∧ Sl w w.heap.size a len cap 1 (b.map bv) := by
  rcases h with ⟨rfl, rfl, rfl, rfl⟩ | ⟨x, rfl, hl, hm, hz, hcell, hwf⟩
  · exact ⟨[], rfl, Sl.of_nil _ _ _⟩
  · have hlen : ((zs.take len).map (fun z => UInt8.ofNat z.toNat)).length = len := by
      rw [List.length_map, List.length_take]; omega
    refine ⟨(zs.take len).map (fun z => UInt8.ofNat z.toNat), hlen, sl_of_cells ?_ (by rw [List.length_map, hlen]; omega) hl hm⟩
    intro j v hv
    have hj : j < len := by
      have := (List.getElem?_eq_some_iff.1 hv).1
      rw [List.length_map, hlen] at this
      exact this
    have hjz : j < zs.length := by omega
    rw [hcell j hjz]
    have hw := hwf _ (List.getElem_mem hjz)
    simp only [List.getElem?_map, List.getElem?_take, hj, if_true, List.getElem?_eq_getElem hjz, Option.map_some] at hv
    rw [← hv, List.getD_eq_getElem?_getD, List.getElem?_eq_getElem hjz]
    simp [Lit.wf, IntKind.min, IntKind.max, IntKind.signed, IntKind.bits] at hw
    simp only [Option.getD_some, bv, UInt8.toNat_ofNat']
    congr 2
    omega

end Go.Proofs.Ytobdibhadgfldaa
