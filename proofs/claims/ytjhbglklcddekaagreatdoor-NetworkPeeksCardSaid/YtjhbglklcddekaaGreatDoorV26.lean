/- Parts: N17H, N18. -/
import Derived.Test.YtjhbglklcddekaaGreatDoorV21
import Derived.Test.YtjhbglklcddekaaGreatDoorV20
import Derived.Test.YtjhbglklcddekaaGreatDoorV22
import Derived.Test.YtjhbglklcddekaaGreatDoorV23
import Derived.Test.YtjhbglklcddekaaGreatDoorV24
import Derived.Test.YtjhbglklcddekaaGreatDoorV25
set_option linter.all false
set_option maxRecDepth 100000
set_option maxHeartbeats 16000000
namespace Go.Proofs.YtjhbglklcddekaaGreatDoor
open Go.RowKit Go.Proofs.Tryz
section
def qn17h_0 : List Nat := [0, 2, 4, 5, 6, 13, 18, 33, 34, 35, 36, 45]
def qn17h_1 : List Nat := [0, 2, 3, 4, 5, 6, 11, 35, 42, 53, 83]
def qn17h_2 : List Nat := [0, 1, 4, 5, 6, 7, 12, 65, 82]
def qn17h_3 : Plan := lin [0, 4, 8, 12, 24, 28, 32, 36, 17, 20, 41, 46, 48]
def qn17h_4 : Plan := lin [0, 4, 8, 12, 16, 24, 28, 36, 40, 44, 48, 21, 32, 53, 56, 61, 66]
def qn17h_5 : Plan := lin [0, 4, 8, 16, 20, 28, 32, 13, 26, 38, 42]
def qn17h_6 : Plan := lin [0, 4, 8, 16, 20, 13, 26, 30, 32, 36, 40, 44, 48]
def qn17h_7 : Plan := lin [0, 4, 8, 16, 20, 13, 26]
open Go.RowKit Nd
namespace Nd
end Nd
attribute [local irreducible] TR TC
end
section
open Go.RowKit Nd
namespace Nd
theorem Lk.take_some {l l' : Lk} {b : UInt8} (h : l.take = some (l', b)) : l.inb = some b ∧ l'.busy = l.busy ∧ (l.wire.ok → l'.wire.ok) := by
  obtain ⟨⟨tx, ack, data, rx⟩, busy, inb⟩ := l
  cases inb with
  | none => cases h
  | some x =>
    cases ack with
    | true => cases h
    | false =>
      cases h
      exact ⟨rfl, rfl, fun h => ⟨h.txl, h.last, h.first, h.rxl, h.rx0, h.rx1⟩⟩
theorem Lk.send_ok (l : Lk) (o : UInt8) (h : l.wire.ok) : (l.send o).wire.ok := by
  unfold Lk.send
  split
  · exact h
  · exact ⟨h.txl, h.last, h.first, h.rxl, h.rx0, h.rx1⟩
theorem at4_modify {k : Nat} (hk : k < 4) (l : Lk) (f : Lk → Lk) : (at4 k l).modify k f = at4 k (f l) := by
  rcases four_k hk with rfl | rfl | rfl | rfl <;> rfl
theorem at4_first {k : Nat} (hk : k < 4) (l : Lk) : ((at4 k l).findIdx? fun l => l.inb.isSome) = if l.inb.isSome then some k else none := by
  obtain ⟨s, busy, inb⟩ := l
  rcases four_k hk with rfl | rfl | rfl | rfl <;> cases inb <;> rfl
theorem whole_one (b : UInt8) : 1 < whole [b] := by
  show 1 < (if b = 0 then 9 else if b = 1 then 5 else b.toNat + 1)
  split
  · omega
  · split
    · omega
    · rename_i h0 _
      have : b.toNat ≠ 0 := fun h => h0 (UInt8.toNat_inj.1 h)
      omega
theorem whole_le (b : UInt8) : whole [b] ≤ 256 := by
  show (if b = 0 then 9 else if b = 1 then 5 else b.toNat + 1) ≤ 256
  have := b.toNat_lt
  split
  · omega
  · split <;> omega
end Nd
end
end Go.Proofs.YtjhbglklcddekaaGreatDoor
