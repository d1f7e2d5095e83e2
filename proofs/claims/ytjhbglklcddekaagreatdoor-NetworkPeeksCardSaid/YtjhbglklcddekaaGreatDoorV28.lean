/- Parts: N23. -/
import Derived.Test.YtjhbglklcddekaaGreatDoorV26
import Derived.Test.YtjhbglklcddekaaGreatDoorV27
set_option linter.all false
set_option maxRecDepth 100000
set_option maxHeartbeats 16000000
namespace Go.Proofs.YtjhbglklcddekaaGreatDoor
open Go.RowKit Go.Proofs.Tryz
section
def qn23_0 : List Nat := [0, 1, 2, 6, 7, 8, 10, 23, 91, 97]
def qn23_1 : Plan := lin [0, 4, 8, 12, 20, 24, 28, 17, 33, 36, 41, 46, 48, 52, 56, 60, 64, 71]
def qn23_2 : Plan := lin [0, 4, 8, 12, 20, 17, 25, 30, 35, 36, 40, 47]
open Go.RowKit Nd
namespace Nd
def hostC (h : Ho) : List V := [.d (.int .u16 (num h.en.tx : Nat)), .d (.int .i64 (h.en.tx.length : Nat)), .d (.bool h.en.ack), .d (.bool h.en.data.isSome), .d (.int .u8 (bD h.en.data)), .d (.int .i64 (h.en.rx.length : Nat)), .d (.int .u16 (num h.en.rx : Nat)), .d (.list 1 (dBs h.give)), .nils 0, .d (.bool h.busy)]
def HH (h : Ho) : List (Nat × Ob) := [(910, .hbox 5 1 (dBs h.got) 8 (hostC h))]
def NB.four (n : NB) : Prop := ∃ a b c d, n.ls = [a, b, c, d]
theorem four_at {k : Nat} (hk : k < 4) (l : Lk) : ∃ a b c d, at4 k l = [a, b, c, d] := by
  rcases four_k hk with rfl | rfl | rfl | rfl <;> exact ⟨_, _, _, _, rfl⟩
end Nd
attribute [local irreducible] TR TC
end
end Go.Proofs.YtjhbglklcddekaaGreatDoor
