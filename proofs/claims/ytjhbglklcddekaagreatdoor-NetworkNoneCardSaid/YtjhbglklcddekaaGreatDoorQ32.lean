/- Parts: N19, N20, N21. -/
import Derived.Test.YtjhbglklcddekaaGreatDoorQ21
set_option linter.all false
set_option maxRecDepth 100000
set_option maxHeartbeats 16000000
namespace Go.Proofs.YtjhbglklcddekaaGreatDoor
open Go.RowKit Go.Proofs.Tryz
section
def qn19_0 : List Nat := [0, 1, 2, 3, 4, 5, 6, 32, 54, 77]
open Go.RowKit Nd
attribute [local irreducible] TR TC
end
section
def qn20_0 : List Nat := [0, 1, 2, 3, 4, 5, 6, 7, 20, 29, 31, 37]
open Go.RowKit Nd
attribute [local irreducible] TR TC
end
section
def qn21_0 : List Nat := [0, 1, 2, 4, 5, 6, 7, 10, 14, 24, 31, 32, 41, 55, 121]
open Go.RowKit Nd
attribute [local irreducible] TR TC
end
end Go.Proofs.YtjhbglklcddekaaGreatDoor
