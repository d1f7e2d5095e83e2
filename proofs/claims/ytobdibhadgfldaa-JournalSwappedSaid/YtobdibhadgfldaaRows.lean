/-
  No cell of these rows narrows 'for every input' (looked for: loops, veiled, ifaces, maps, wideKeys, modest, calm, conditions, laid).
  DERIVED. THE GIVEN ROWS OF THIS SEAT. 7 by the template 'for every input the law returns true; each argument reads behind the call as it read before'; 0 by the template 'total and deterministic' (their statements: YtobdibhadgfldaaTotals.lean).
  GIVEN WITH THE SEED: the statements are not yours to turn. If you find one false, say at which input.
  Laid BY PROGRAM, IN A SANDBOX (cutbox-rows.mjs): the forced cells as the released guide's own fill.sh prints them over the translation f4d0232d457bf462… (all of the seat's roots in one cut). By AI agents, Wed Nov 11 2026. No macro, syntax, notation, axiom, sorry.
-/
import Derived.Test.YtobdibhadgfldaaChecked
import GoSem.Claim
import GoSem.ClaimJoined
import GoSem.ClaimMapViews
import Derived.JoinedTies
import Derived.KernelRfl
namespace Go.Proofs.Ytobdibhadgfldaa
/- THE CELL 'sum', in the pinned program and in every row, IS THE sha256 OF THE DUMP (.gsa) THAT YtobdibhadgfldaaProg.lean LOADS. Nothing in Lean hashes anything: it is a label: what it is worth is what the hold of that sum in a sandbox is worth. -/
noncomputable def Try.pinned : Pinned := { name := "ytobdibhadgfldaa", sum := "f4d0232d457bf4621f78aec5c05242668c8f7a86bca7dc0a35f03a2efb55a806", checked := Try.checked }
namespace Rows
def none {H : Type} : Left H := { results := [], args := [] }

/-- 'transputerlaw37.JournalGets': WHATEVER THE INPUT: true; the input reads as it did. -/
def journalGetsSpec : ChangeSpec := { name := "journalGets", fn := fun _ => fun
  | [d] => { results := [.lit (.bool true)], args := [d] }
  | _ => none }
def journalGetsRow : OpenClaim := { program := "ytobdibhadgfldaa", sum := "f4d0232d457bf4621f78aec5c05242668c8f7a86bca7dc0a35f03a2efb55a806", func := "transputer/transputerlaw37.JournalGets", spec := "journalGets", unfollowed := true, recurses := true, apart := false }
def JournalGetsSaid : Prop := journalGetsRow.holds Try.pinned (OpenSpec.ofChange journalGetsSpec)

/-- ITS FALSE NEIGHBOUR: 'it returns false'. Refute it at one input. -/
def journalGetsWrong : ChangeSpec := { name := "journalGets", fn := fun _ => fun
  | [d] => { results := [.lit (.bool false)], args := [d] }
  | _ => none }
def JournalGetsWrongFalsely : Prop := journalGetsRow.holds Try.pinned (OpenSpec.ofChange journalGetsWrong)

/-- 'transputerlaw37.JournalBack': WHATEVER THE INPUT: true; the input reads as it did. -/
def journalBackSpec : ChangeSpec := { name := "journalBack", fn := fun _ => fun
  | [d1, d2] => { results := [.lit (.bool true)], args := [d1, d2] }
  | _ => none }
def journalBackRow : OpenClaim := { program := "ytobdibhadgfldaa", sum := "f4d0232d457bf4621f78aec5c05242668c8f7a86bca7dc0a35f03a2efb55a806", func := "transputer/transputerlaw37.JournalBack", spec := "journalBack", unfollowed := true, recurses := true, apart := false }
def JournalBackSaid : Prop := journalBackRow.holds Try.pinned (OpenSpec.ofChange journalBackSpec)

/-- ITS FALSE NEIGHBOUR: 'it returns false'. Refute it at one input. -/
def journalBackWrong : ChangeSpec := { name := "journalBack", fn := fun _ => fun
  | [d1, d2] => { results := [.lit (.bool false)], args := [d1, d2] }
  | _ => none }
def JournalBackWrongFalsely : Prop := journalBackRow.holds Try.pinned (OpenSpec.ofChange journalBackWrong)

/-- 'transputerlaw37.JournalCut': WHATEVER THE INPUT: true; the input reads as it did. -/
def journalCutSpec : ChangeSpec := { name := "journalCut", fn := fun _ => fun
  | [d1, d2, d3] => { results := [.lit (.bool true)], args := [d1, d2, d3] }
  | _ => none }
def journalCutRow : OpenClaim := { program := "ytobdibhadgfldaa", sum := "f4d0232d457bf4621f78aec5c05242668c8f7a86bca7dc0a35f03a2efb55a806", func := "transputer/transputerlaw37.JournalCut", spec := "journalCut", unfollowed := true, recurses := true, apart := false }
def JournalCutSaid : Prop := journalCutRow.holds Try.pinned (OpenSpec.ofChange journalCutSpec)

/-- ITS FALSE NEIGHBOUR: 'it returns false'. Refute it at one input. -/
def journalCutWrong : ChangeSpec := { name := "journalCut", fn := fun _ => fun
  | [d1, d2, d3] => { results := [.lit (.bool false)], args := [d1, d2, d3] }
  | _ => none }
def JournalCutWrongFalsely : Prop := journalCutRow.holds Try.pinned (OpenSpec.ofChange journalCutWrong)

/-- 'transputerlaw37.JournalTorn': WHATEVER THE INPUT: true; the input reads as it did. -/
def journalTornSpec : ChangeSpec := { name := "journalTorn", fn := fun _ => fun
  | [d1, d2, d3] => { results := [.lit (.bool true)], args := [d1, d2, d3] }
  | _ => none }
def journalTornRow : OpenClaim := { program := "ytobdibhadgfldaa", sum := "f4d0232d457bf4621f78aec5c05242668c8f7a86bca7dc0a35f03a2efb55a806", func := "transputer/transputerlaw37.JournalTorn", spec := "journalTorn", unfollowed := true, recurses := true, apart := false }
def JournalTornSaid : Prop := journalTornRow.holds Try.pinned (OpenSpec.ofChange journalTornSpec)

/-- ITS FALSE NEIGHBOUR: 'it returns false'. Refute it at one input. -/
def journalTornWrong : ChangeSpec := { name := "journalTorn", fn := fun _ => fun
  | [d1, d2, d3] => { results := [.lit (.bool false)], args := [d1, d2, d3] }
  | _ => none }
def JournalTornWrongFalsely : Prop := journalTornRow.holds Try.pinned (OpenSpec.ofChange journalTornWrong)

/-- 'transputerlaw37.JournalOrder': WHATEVER THE INPUT: true; the input reads as it did. -/
def journalOrderSpec : ChangeSpec := { name := "journalOrder", fn := fun _ => fun
  | [d] => { results := [.lit (.bool true)], args := [d] }
  | _ => none }
def journalOrderRow : OpenClaim := { program := "ytobdibhadgfldaa", sum := "f4d0232d457bf4621f78aec5c05242668c8f7a86bca7dc0a35f03a2efb55a806", func := "transputer/transputerlaw37.JournalOrder", spec := "journalOrder", unfollowed := true, recurses := true, apart := false }
def JournalOrderSaid : Prop := journalOrderRow.holds Try.pinned (OpenSpec.ofChange journalOrderSpec)

/-- ITS FALSE NEIGHBOUR: 'it returns false'. Refute it at one input. -/
def journalOrderWrong : ChangeSpec := { name := "journalOrder", fn := fun _ => fun
  | [d] => { results := [.lit (.bool false)], args := [d] }
  | _ => none }
def JournalOrderWrongFalsely : Prop := journalOrderRow.holds Try.pinned (OpenSpec.ofChange journalOrderWrong)

/-- 'transputerlaw37.JournalPuts': WHATEVER THE INPUT: true; the input reads as it did. -/
def journalPutsSpec : ChangeSpec := { name := "journalPuts", fn := fun _ => fun
  | [d] => { results := [.lit (.bool true)], args := [d] }
  | _ => none }
def journalPutsRow : OpenClaim := { program := "ytobdibhadgfldaa", sum := "f4d0232d457bf4621f78aec5c05242668c8f7a86bca7dc0a35f03a2efb55a806", func := "transputer/transputerlaw37.JournalPuts", spec := "journalPuts", unfollowed := true, recurses := true, apart := false }
def JournalPutsSaid : Prop := journalPutsRow.holds Try.pinned (OpenSpec.ofChange journalPutsSpec)

/-- ITS FALSE NEIGHBOUR: 'it returns false'. Refute it at one input. -/
def journalPutsWrong : ChangeSpec := { name := "journalPuts", fn := fun _ => fun
  | [d] => { results := [.lit (.bool false)], args := [d] }
  | _ => none }
def JournalPutsWrongFalsely : Prop := journalPutsRow.holds Try.pinned (OpenSpec.ofChange journalPutsWrong)

/-- 'transputerlaw37.JournalSwapped': WHATEVER THE INPUT: true; the input reads as it did. -/
def journalSwappedSpec : ChangeSpec := { name := "journalSwapped", fn := fun _ => fun
  | [d1, d2] => { results := [.lit (.bool true)], args := [d1, d2] }
  | _ => none }
def journalSwappedRow : OpenClaim := { program := "ytobdibhadgfldaa", sum := "f4d0232d457bf4621f78aec5c05242668c8f7a86bca7dc0a35f03a2efb55a806", func := "transputer/transputerlaw37.JournalSwapped", spec := "journalSwapped", unfollowed := true, recurses := true, apart := false }
def JournalSwappedSaid : Prop := journalSwappedRow.holds Try.pinned (OpenSpec.ofChange journalSwappedSpec)

/-- ITS FALSE NEIGHBOUR: 'it returns false'. Refute it at one input. -/
def journalSwappedWrong : ChangeSpec := { name := "journalSwapped", fn := fun _ => fun
  | [d1, d2] => { results := [.lit (.bool false)], args := [d1, d2] }
  | _ => none }
def JournalSwappedWrongFalsely : Prop := journalSwappedRow.holds Try.pinned (OpenSpec.ofChange journalSwappedWrong)

/- THE SECOND FORM. 'bulk': how many values and letters a reading holds, each counted each time it is reached (what is shared counts as often as it is met; a slice's spare places count too). A statement '..UptoSaid' is the law's where the arguments, and the package variables that the reading takes, are together of bulk at most 1048576: NARROWER than '..Said'. Prove '..Said' where nothing that the law and all that it calls make is longer than what came in: it says more and counts as full. Else prove '..UptoSaid'. A law counts once. -/
mutual
def uptoBulk {H : Type} : DataW H → Nat
  | .lit (.string bytes) => bytes.length + 1
  | .lit _ => 1
  | .nil => 1
  | .ptr d => uptoBulk d + 1
  | .slice elems spare => uptoBulkAll elems + uptoBulkAll spare + 1
  | .agg parts => uptoBulkAll parts + 1
  | .iface _ d => uptoBulk d + 1
  | .map entries => uptoBulkEntries entries + 1
  | .held _ => 1
def uptoBulkAll {H : Type} : List (DataW H) → Nat
  | [] => 0
  | d :: r => uptoBulk d + uptoBulkAll r
def uptoBulkEntries {H : Type} : List (Lit × DataW H) → Nat
  | [] => 0
  | x :: r => uptoBulkEntry x + uptoBulkEntries r
def uptoBulkEntry {H : Type} : Lit × DataW H → Nat
  | (.string bytes, d) => bytes.length + uptoBulk d + 1
  | (_, d) => uptoBulk d + 1
 end
def uptoSmall : (H : Type) → List (DataW H) → Bool := fun _ ds => decide (uptoBulkAll ds ≤ 1048576)
def OpenSpec.upto (s : _root_.Go.ChangeSpec) : _root_.Go.OpenSpec := { _root_.Go.OpenSpec.ofChange s with cond := some uptoSmall }

/-- 'transputerlaw37.JournalGets', WHERE WHAT IT READS IS OF BULK AT MOST 1048576: true; the input reads as it did. -/
def journalGetsUptoRow : OpenClaim := { program := "ytobdibhadgfldaa", sum := "f4d0232d457bf4621f78aec5c05242668c8f7a86bca7dc0a35f03a2efb55a806", func := "transputer/transputerlaw37.JournalGets", spec := "journalGets", unfollowed := true, recurses := true, apart := false, narrowed := true }
def JournalGetsUptoSaid : Prop := journalGetsUptoRow.holds Try.pinned (OpenSpec.upto journalGetsSpec)

/-- 'transputerlaw37.JournalBack', WHERE WHAT IT READS IS OF BULK AT MOST 1048576: true; the input reads as it did. -/
def journalBackUptoRow : OpenClaim := { program := "ytobdibhadgfldaa", sum := "f4d0232d457bf4621f78aec5c05242668c8f7a86bca7dc0a35f03a2efb55a806", func := "transputer/transputerlaw37.JournalBack", spec := "journalBack", unfollowed := true, recurses := true, apart := false, narrowed := true }
def JournalBackUptoSaid : Prop := journalBackUptoRow.holds Try.pinned (OpenSpec.upto journalBackSpec)

/-- 'transputerlaw37.JournalCut', WHERE WHAT IT READS IS OF BULK AT MOST 1048576: true; the input reads as it did. -/
def journalCutUptoRow : OpenClaim := { program := "ytobdibhadgfldaa", sum := "f4d0232d457bf4621f78aec5c05242668c8f7a86bca7dc0a35f03a2efb55a806", func := "transputer/transputerlaw37.JournalCut", spec := "journalCut", unfollowed := true, recurses := true, apart := false, narrowed := true }
def JournalCutUptoSaid : Prop := journalCutUptoRow.holds Try.pinned (OpenSpec.upto journalCutSpec)

/-- 'transputerlaw37.JournalTorn', WHERE WHAT IT READS IS OF BULK AT MOST 1048576: true; the input reads as it did. -/
def journalTornUptoRow : OpenClaim := { program := "ytobdibhadgfldaa", sum := "f4d0232d457bf4621f78aec5c05242668c8f7a86bca7dc0a35f03a2efb55a806", func := "transputer/transputerlaw37.JournalTorn", spec := "journalTorn", unfollowed := true, recurses := true, apart := false, narrowed := true }
def JournalTornUptoSaid : Prop := journalTornUptoRow.holds Try.pinned (OpenSpec.upto journalTornSpec)

/-- 'transputerlaw37.JournalOrder', WHERE WHAT IT READS IS OF BULK AT MOST 1048576: true; the input reads as it did. -/
def journalOrderUptoRow : OpenClaim := { program := "ytobdibhadgfldaa", sum := "f4d0232d457bf4621f78aec5c05242668c8f7a86bca7dc0a35f03a2efb55a806", func := "transputer/transputerlaw37.JournalOrder", spec := "journalOrder", unfollowed := true, recurses := true, apart := false, narrowed := true }
def JournalOrderUptoSaid : Prop := journalOrderUptoRow.holds Try.pinned (OpenSpec.upto journalOrderSpec)

/-- 'transputerlaw37.JournalPuts', WHERE WHAT IT READS IS OF BULK AT MOST 1048576: true; the input reads as it did. -/
def journalPutsUptoRow : OpenClaim := { program := "ytobdibhadgfldaa", sum := "f4d0232d457bf4621f78aec5c05242668c8f7a86bca7dc0a35f03a2efb55a806", func := "transputer/transputerlaw37.JournalPuts", spec := "journalPuts", unfollowed := true, recurses := true, apart := false, narrowed := true }
def JournalPutsUptoSaid : Prop := journalPutsUptoRow.holds Try.pinned (OpenSpec.upto journalPutsSpec)

/-- 'transputerlaw37.JournalSwapped', WHERE WHAT IT READS IS OF BULK AT MOST 1048576: true; the input reads as it did. -/
def journalSwappedUptoRow : OpenClaim := { program := "ytobdibhadgfldaa", sum := "f4d0232d457bf4621f78aec5c05242668c8f7a86bca7dc0a35f03a2efb55a806", func := "transputer/transputerlaw37.JournalSwapped", spec := "journalSwapped", unfollowed := true, recurses := true, apart := false, narrowed := true }
def JournalSwappedUptoSaid : Prop := journalSwappedUptoRow.holds Try.pinned (OpenSpec.upto journalSwappedSpec)

end Rows
end Go.Proofs.Ytobdibhadgfldaa
