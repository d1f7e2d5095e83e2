/- Parts: N22. -/
import Derived.Test.YtjhbglklcddekaaGreatDoorQ22
import Derived.Test.YtjhbglklcddekaaGreatDoorQ17
set_option linter.all false
set_option maxRecDepth 100000
set_option maxHeartbeats 16000000
namespace Go.Proofs.YtjhbglklcddekaaGreatDoor
open Go.RowKit Go.Proofs.Tryz
section
def qn22_0 : List Nat := [0, 1, 4, 5, 6, 7, 12]
def qn22_1 : Plan := lin [0, 4, 8, 20, 24, 28, 32, 52, 56, 60, 64, 84, 88, 92, 96, 13, 16, 37, 40, 44, 48, 69, 72, 76, 80, 101, 104, 108, 112, 116]
open Go.RowKit Nd
namespace Nd
end Nd
attribute [local irreducible] TR TC
end
end Go.Proofs.YtjhbglklcddekaaGreatDoor
