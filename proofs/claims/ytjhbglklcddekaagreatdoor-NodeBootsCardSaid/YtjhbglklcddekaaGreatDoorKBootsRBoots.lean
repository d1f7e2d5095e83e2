/- Parts: RNBoots. -/
import Derived.Test.YtjhbglklcddekaaGreatDoorKBootsRBootsA
import Derived.Test.YtjhbglklcddekaaGreatDoorKBootsRBootsB
set_option linter.all false
set_option maxRecDepth 100000
set_option maxHeartbeats 16000000
namespace Go.Proofs.YtjhbglklcddekaaGreatDoor
open Go.RowKit Go.Proofs.Tryz
section
open Go.ChangeShapes Go.WideShapes Go.ChangeAt Go.RowKit
theorem NBoots_row : Rows.NodeBootsSaid :=
  OpenClaim.holds_of_wide 3 Tryz.f3 rfl rfl rfl rfl rfl rfl rfl ⟨rfl, rfl, rfl, rfl, rfl⟩ rfl rfl rfl rfl rfl (by kernel_rfl) func3 NBoots_closed NBoots_instance NBoots_wrapper
    (fun os started H enc _ => NBoots_lifted os started H enc)
end
end Go.Proofs.YtjhbglklcddekaaGreatDoor
