/- Parts: RNBootsB. -/
import Derived.Test.YtjhbglklcddekaaGreatDoorP43
set_option linter.all false
set_option maxRecDepth 100000
set_option maxHeartbeats 16000000
namespace Go.Proofs.YtjhbglklcddekaaGreatDoor
open Go.RowKit Go.Proofs.Tryz
section
open Go.ChangeShapes Go.WideShapes Go.ChangeAt Go.RowKit
theorem NBoots_closed : joinedFacts prog 3 Tryz.f3 Rows.nodeBootsSpec Rows.nodeBootsRow = true := by kernel_rfl
theorem NBoots_instance : Tryz.f3.isInstance prog Rows.nodeBootsRow.origin Rows.nodeBootsRow.targs := of_decide_eq_true (by kernel_rfl)
theorem NBoots_wrapper : Tryz.f3.isWrapper prog Rows.nodeBootsRow.wrapper Rows.nodeBootsRow.mainSum := by unfold Func.isWrapper; first | (rw [if_pos (by decide +kernel)]; kernel_rfl) | (rw [if_neg (by decide +kernel)]; exact ⟨rfl, rfl⟩)
end
end Go.Proofs.YtjhbglklcddekaaGreatDoor
