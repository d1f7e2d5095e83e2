/- More on the journal in plain Lean. -/
import Derived.Test.YtobdibhadgfldaaJPlain
namespace Go.Proofs.Ytobdibhadgfldaa.J

theorem lastT_last (l : List Act) (h : 0 < l.length) : lastT 0 l = (l[l.length - 1]'(by omega)).t := by
  have := lastT_take (l := l) (k := l.length - 1) (by omega)
  rw [show l.length - 1 + 1 = l.length by omega, List.take_length] at this
  exact this

/-- One round of Whole that goes on. -/
theorem wholes_step {b : List UInt8} {m : List Act} {n q : Nat} (hn : n = m.length) (hq : q = 18 * n) (hlt : q + 18 ≤ b.length)
    (h : wholes b = m ++ whole (b.length + 1 - n) (sums 0 m) (lastT 0 m) (b.drop q))
    (hc : (may (act ((b.drop q).take 18)) && decide (lastT 0 m ≤ (act ((b.drop q).take 18)).t) && decide (rec (act ((b.drop q).take 18)) (sums 0 m) = (b.drop q).take 18)) = true) :
    wholes b = (m ++ [act ((b.drop q).take 18)]) ++ whole (b.length + 1 - (n + 1)) (sums 0 (m ++ [act ((b.drop q).take 18)])) (lastT 0 (m ++ [act ((b.drop q).take 18)])) (b.drop (q + 18)) := by
  have e : b.length + 1 - n = (b.length + 1 - (n + 1)) + 1 := by omega
  rw [h, e, whole_yes (by rw [List.length_drop]; omega) hc, List.append_assoc, sums_snoc, lastT_snoc, List.drop_drop]
  have hr : rec (act ((b.drop q).take 18)) (sums 0 m) = (b.drop q).take 18 := by simp only [Bool.and_eq_true, decide_eq_true_eq] at hc; exact hc.2
  have hs : num (((b.drop q).take 18).drop 14) = sum (act ((b.drop q).take 18)) (sums 0 m) := by
    rw [← hr, rec_drop, num_four _ (sum_lt _ _)]
    rw [hr]
  rw [hs]
  rfl

theorem whole_length : ∀ (f s : Nat) (t : Int) (b : List UInt8), 18 * (whole f s t b).length ≤ b.length := by
  intro f
  induction f with
  | zero => intro s t b; simp [whole]
  | succ f ih =>
    intro s t b
    unfold whole
    split
    · simp
    · rename_i h
      dsimp only
      split
      · have := ih (num ((b.take 18).drop 14)) (act (b.take 18)).t (b.drop 18)
        rw [List.length_drop] at this
        rw [List.length_cons]
        omega
      · simp
theorem wholes_length (b : List UInt8) : 18 * (wholes b).length ≤ b.length := whole_length _ _ _ _

/-- Is it a journal as a whole? -/
def isAll (b : List UInt8) : Bool := decide (18 * (wholes b).length = b.length)
/-- What Get gives. -/
def getL (b : List UInt8) : List Act := if isAll b then wholes b else []
def getE (b : List UInt8) : Int := if isAll b then 0 else 370

end Go.Proofs.Ytobdibhadgfldaa.J
