/- More small lemmas on memory: make. -/
import Derived.Test.YtobdibhadgfldaaBase
namespace Go.Proofs.Ytobdibhadgfldaa
open Go.RowKit

/-- make([]T, 0, n). -/
theorem mk_own {P : Program} {w : World} {ops : Array Oper} {rest : List Oper} {o : Oper} {a : Act} {Q : Exit → Act → World → Prop} (hgd : o.guard = none) (l c : Operand) (t : TypeId)
    (ho : o.op = Op.makeSlice t l c) {e : TypeId} {size bytes : Nat} (he : Elem P t e size bytes) (kl kc : IntKind) (C : Int) (n : Nat) (hl : a.eval l = .int kl 0) (hc : a.eval c = .int kc C) (hC : C = (n : Int))
    (hn : n ≤ 1000000000000) (hby : bytes ≤ 128)
    (h : ∀ w', w'.ownsRow w.heap.size e size (.slice (some ⟨w.heap.size, 0, none⟩) 0 n) 0 [] → Below w.heap.size w w' → wpList P ops Q rest (a.put o.dst (.slice (some ⟨w.heap.size, 0, none⟩) 0 n)) w') :
    wpList P ops Q (o :: rest) a w := by
  obtain ⟨i, z, ht, hi, hz, hsize, hbytes, hzs, hpos⟩ := he
  refine wpList_make_own w hgd l c t ho w.heap.size e i z size ht hi hz hsize kl kc C n hl hc hC ?_ (by unfold maxLen; omega) (Nat.le_refl _) ?_
  · rw [hbytes]
    exact Nat.le_trans (Nat.mul_le_mul hby hn) (by omega)
  · intro w' h1 h2
    exact h w' h1 ((Below.refl _ _).grown h2 (Nat.le_refl _) (fun k hk => by cases hk))

/-- A slice that is not empty: where it lies. -/
theorem Sl.at {w : World} {B : Nat} {a : Option Addr} {n c size : Nat} {xs : List Value} (h : Sl w B a n c size xs) (hn : 0 < n * size) : ∃ b o, a = some ⟨b, o, none⟩ ∧ b < B := by
  obtain ⟨b, o, e, hb, _⟩ := h.rd.at (by rw [h.len]; exact hn)
  exact ⟨b, o, e, hb⟩

end Go.Proofs.Ytobdibhadgfldaa
