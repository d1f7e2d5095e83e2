/- Parts: RNNetB. -/
import Derived.Test.YtjhbglklcddekaaGreatDoorQ38
set_option linter.all false
set_option maxRecDepth 100000
set_option maxHeartbeats 16000000
namespace Go.Proofs.YtjhbglklcddekaaGreatDoor
open Go.RowKit Go.Proofs.Tryz
section
open Go.ChangeShapes Go.WideShapes Go.ChangeAt Go.RowKit
theorem NNet_closed : joinedFacts prog 5 Tryz.f5 Rows.networkNoneSpec Rows.networkNoneRow = true := by kernel_rfl
theorem NNet_instance : Tryz.f5.isInstance prog Rows.networkNoneRow.origin Rows.networkNoneRow.targs := of_decide_eq_true (by kernel_rfl)
theorem NNet_wrapper : Tryz.f5.isWrapper prog Rows.networkNoneRow.wrapper Rows.networkNoneRow.mainSum := by unfold Func.isWrapper; first | (rw [if_pos (by decide +kernel)]; kernel_rfl) | (rw [if_neg (by decide +kernel)]; exact ⟨rfl, rfl⟩)
end
end Go.Proofs.YtjhbglklcddekaaGreatDoor
