/- Parts: RNNoneB. -/
import Derived.Test.YtjhbglklcddekaaGreatDoorP43
set_option linter.all false
set_option maxRecDepth 100000
set_option maxHeartbeats 16000000
namespace Go.Proofs.YtjhbglklcddekaaGreatDoor
open Go.RowKit Go.Proofs.Tryz
section
open Go.ChangeShapes Go.WideShapes Go.ChangeAt Go.RowKit
theorem NNone_closed : joinedFacts prog 4 Tryz.f4 Rows.nodeNoneSpec Rows.nodeNoneRow = true := by kernel_rfl
theorem NNone_instance : Tryz.f4.isInstance prog Rows.nodeNoneRow.origin Rows.nodeNoneRow.targs := of_decide_eq_true (by kernel_rfl)
theorem NNone_wrapper : Tryz.f4.isWrapper prog Rows.nodeNoneRow.wrapper Rows.nodeNoneRow.mainSum := by unfold Func.isWrapper; first | (rw [if_pos (by decide +kernel)]; kernel_rfl) | (rw [if_neg (by decide +kernel)]; exact ⟨rfl, rfl⟩)
end
end Go.Proofs.YtjhbglklcddekaaGreatDoor
