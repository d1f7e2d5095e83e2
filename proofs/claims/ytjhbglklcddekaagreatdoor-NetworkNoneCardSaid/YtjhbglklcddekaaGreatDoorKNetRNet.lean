/- Parts: RNNet. -/
import Derived.Test.YtjhbglklcddekaaGreatDoorKNetRNetA
import Derived.Test.YtjhbglklcddekaaGreatDoorKNetRNetB
set_option linter.all false
set_option maxRecDepth 100000
set_option maxHeartbeats 16000000
namespace Go.Proofs.YtjhbglklcddekaaGreatDoor
open Go.RowKit Go.Proofs.Tryz
section
open Go.ChangeShapes Go.WideShapes Go.ChangeAt Go.RowKit
theorem NNet_row : Rows.NetworkNoneSaid :=
  OpenClaim.holds_of_wide 5 Tryz.f5 rfl rfl rfl rfl rfl rfl rfl ⟨rfl, rfl, rfl, rfl, rfl⟩ rfl rfl rfl rfl rfl (by kernel_rfl) func5 NNet_closed NNet_instance NNet_wrapper
    (fun os started H enc _ => NNet_lifted os started H enc)
end
end Go.Proofs.YtjhbglklcddekaaGreatDoor
