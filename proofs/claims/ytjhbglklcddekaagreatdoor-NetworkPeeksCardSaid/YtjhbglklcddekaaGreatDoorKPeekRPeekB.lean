/- Parts: RNPeekB. -/
import Derived.Test.YtjhbglklcddekaaGreatDoorV30
set_option linter.all false
set_option maxRecDepth 100000
set_option maxHeartbeats 16000000
namespace Go.Proofs.YtjhbglklcddekaaGreatDoor
open Go.RowKit Go.Proofs.Tryz
section
open Go.ChangeShapes Go.WideShapes Go.ChangeAt Go.RowKit
theorem NPeek_closed : joinedFacts prog 6 Tryz.f6 Rows.networkPeeksSpec Rows.networkPeeksRow = true := by kernel_rfl
theorem NPeek_instance : Tryz.f6.isInstance prog Rows.networkPeeksRow.origin Rows.networkPeeksRow.targs := of_decide_eq_true (by kernel_rfl)
theorem NPeek_wrapper : Tryz.f6.isWrapper prog Rows.networkPeeksRow.wrapper Rows.networkPeeksRow.mainSum := by unfold Func.isWrapper; first | (rw [if_pos (by decide +kernel)]; kernel_rfl) | (rw [if_neg (by decide +kernel)]; exact ⟨rfl, rfl⟩)
end
end Go.Proofs.YtjhbglklcddekaaGreatDoor
