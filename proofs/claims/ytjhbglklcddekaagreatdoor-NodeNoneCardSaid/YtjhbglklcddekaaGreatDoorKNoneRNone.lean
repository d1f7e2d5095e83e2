/- Parts: RNNone. -/
import Derived.Test.YtjhbglklcddekaaGreatDoorKNoneRNoneA
import Derived.Test.YtjhbglklcddekaaGreatDoorKNoneRNoneB
set_option linter.all false
set_option maxRecDepth 100000
set_option maxHeartbeats 16000000
namespace Go.Proofs.YtjhbglklcddekaaGreatDoor
open Go.RowKit Go.Proofs.Tryz
section
open Go.ChangeShapes Go.WideShapes Go.ChangeAt Go.RowKit
theorem NNone_row : Rows.NodeNoneSaid :=
  OpenClaim.holds_of_wide 4 Tryz.f4 rfl rfl rfl rfl rfl rfl rfl ⟨rfl, rfl, rfl, rfl, rfl⟩ rfl rfl rfl rfl rfl (by kernel_rfl) func4 NNone_closed NNone_instance NNone_wrapper
    (fun os started H enc _ => NNone_lifted os started H enc)
end
end Go.Proofs.YtjhbglklcddekaaGreatDoor
