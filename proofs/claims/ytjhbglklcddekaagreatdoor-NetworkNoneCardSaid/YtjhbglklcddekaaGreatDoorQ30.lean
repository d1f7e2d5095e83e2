/- Parts: N17H. -/
import Derived.Test.YtjhbglklcddekaaGreatDoorQ25
set_option linter.all false
set_option maxRecDepth 100000
set_option maxHeartbeats 16000000
namespace Go.Proofs.YtjhbglklcddekaaGreatDoor
open Go.RowKit Go.Proofs.Tryz
section
def qn17h_0 : List Nat := [0, 2, 4, 5, 6, 13, 18, 33, 34, 35, 36, 45]
def qn17h_1 : List Nat := [0, 2, 3, 4, 5, 6, 11, 35, 42, 53, 83]
def qn17h_2 : List Nat := [0, 1, 4, 5, 6, 7, 12, 65, 82]
def qn17h_3 : Plan := lin [0, 4, 8, 12, 24, 28, 32, 36, 17, 20, 41, 46, 48]
def qn17h_4 : Plan := lin [0, 4, 8, 12, 16, 24, 28, 36, 40, 44, 48, 21, 32, 53, 56, 61, 66]
def qn17h_5 : Plan := lin [0, 4, 8, 16, 20, 28, 32, 13, 26, 38, 42]
def qn17h_6 : Plan := lin [0, 4, 8, 16, 20, 13, 26, 30, 32, 36, 40, 44, 48]
def qn17h_7 : Plan := lin [0, 4, 8, 16, 20, 13, 26]
open Go.RowKit Nd
namespace Nd
end Nd
attribute [local irreducible] TR TC
end
end Go.Proofs.YtjhbglklcddekaaGreatDoor
