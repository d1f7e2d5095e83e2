/- Parts: RNPeek. -/
import Derived.Test.YtjhbglklcddekaaGreatDoorKPeekRPeekA
import Derived.Test.YtjhbglklcddekaaGreatDoorKPeekRPeekB
set_option linter.all false
set_option maxRecDepth 100000
set_option maxHeartbeats 16000000
namespace Go.Proofs.YtjhbglklcddekaaGreatDoor
open Go.RowKit Go.Proofs.Tryz
section
open Go.ChangeShapes Go.WideShapes Go.ChangeAt Go.RowKit
theorem NPeek_row : Rows.NetworkPeeksSaid :=
  OpenClaim.holds_of_wide 6 Tryz.f6 rfl rfl rfl rfl rfl rfl rfl ⟨rfl, rfl, rfl, rfl, rfl⟩ rfl rfl rfl rfl rfl (by kernel_rfl) func6 NPeek_closed NPeek_instance NPeek_wrapper
    (fun os started H enc _ => NPeek_lifted os started H enc)
end
end Go.Proofs.YtjhbglklcddekaaGreatDoor
