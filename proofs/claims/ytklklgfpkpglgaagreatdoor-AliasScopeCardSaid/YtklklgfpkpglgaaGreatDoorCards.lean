/-
  DERIVED. GIVEN WITH THE SEED: THE CARDS: each row of YtklklgfpkpglgaaGreatDoorRows.lean that lists a variable, with what it lists TIED to the program's text (the seventh form; the later family's looks); each row that meets fmt, with fmt's text TOLD by the authors' own Lean function (tested against real Go, not proved from fmt's source: count such statements apart). THE CARD IS WHAT COUNTS. Prove the row's statement (the work); the ties are given (YtklklgfpkpglgaaGreatDoorTie.lean); close each card by the builder's one call (the guide's Derived/Test/ToyasCard.lean, 'card_holds'). Laid BY PROGRAM, IN A SANDBOX (cutbox-door.mjs). By AI agents, Wed Nov 11 2026. No macro, syntax, notation, axiom, sorry.
-/
import Derived.Test.YtklklgfpkpglgaaGreatDoorRows
import GoSem.ClaimSeven
namespace Go.Proofs.YtklklgfpkpglgaaGreatDoor
namespace Rows

/-- THE TIED CARD OF 'transputerlaw15.AliasUnique'. -/
def aliasUniqueCard : Claim7 := { stood := { row := aliasUniqueRow, standIns := [], harness := (true, "d5904b0f7d23ba05cacb2b2ad7bb2ef10c7b692f0994ca58fe1816d8cf951308"), looks := false }, kinds := [], alts := [], laidByText := true, laidKinds := [.data, .data, .data, .data, .data, .data, .data], laidTests := true, laidLooks := .later }
def AliasUniqueCardSaid : Prop := Claim7.holds Tryz.pinned (.plain (OpenSpec.ofChange aliasUniqueSpec)) aliasUniqueCard

/-- THE TIED CARD OF 'transputerlaw15.AliasAdded'. -/
def aliasAddedCard : Claim7 := { stood := { row := aliasAddedRow, standIns := [], harness := (true, "d5904b0f7d23ba05cacb2b2ad7bb2ef10c7b692f0994ca58fe1816d8cf951308"), looks := false }, kinds := [], alts := [], laidByText := true, laidKinds := [.data, .data, .data, .data, .data, .data, .data], laidTests := true, laidLooks := .later }
def AliasAddedCardSaid : Prop := Claim7.holds Tryz.pinned (.plain (OpenSpec.ofChange aliasAddedSpec)) aliasAddedCard

/-- THE TIED CARD OF 'transputerlaw15.AliasScope'. -/
def aliasScopeCard : Claim7 := { stood := { row := aliasScopeRow, standIns := [], harness := (true, "d5904b0f7d23ba05cacb2b2ad7bb2ef10c7b692f0994ca58fe1816d8cf951308"), looks := false }, kinds := [], alts := [], laidByText := true, laidKinds := [.data, .data, .data, .data, .data, .data, .data], laidTests := true, laidLooks := .later }
def AliasScopeCardSaid : Prop := Claim7.holds Tryz.pinned (.plain (OpenSpec.ofChange aliasScopeSpec)) aliasScopeCard

/-- THE SECOND FORM's CARD OF 'transputerlaw15.AliasUnique'. -/
def aliasUniqueUptoCard : Claim7 := { stood := { row := aliasUniqueUptoRow, standIns := [], harness := (true, "d5904b0f7d23ba05cacb2b2ad7bb2ef10c7b692f0994ca58fe1816d8cf951308"), looks := false }, kinds := [], alts := [], laidByText := true, laidKinds := [.data, .data, .data, .data, .data, .data, .data], laidTests := true, laidLooks := .later }
def AliasUniqueUptoCardSaid : Prop := Claim7.holds Tryz.pinned (.plain (OpenSpec.upto aliasUniqueSpec)) aliasUniqueUptoCard

/-- THE SECOND FORM's CARD OF 'transputerlaw15.AliasAdded'. -/
def aliasAddedUptoCard : Claim7 := { stood := { row := aliasAddedUptoRow, standIns := [], harness := (true, "d5904b0f7d23ba05cacb2b2ad7bb2ef10c7b692f0994ca58fe1816d8cf951308"), looks := false }, kinds := [], alts := [], laidByText := true, laidKinds := [.data, .data, .data, .data, .data, .data, .data], laidTests := true, laidLooks := .later }
def AliasAddedUptoCardSaid : Prop := Claim7.holds Tryz.pinned (.plain (OpenSpec.upto aliasAddedSpec)) aliasAddedUptoCard

/-- THE SECOND FORM's CARD OF 'transputerlaw15.AliasScope'. -/
def aliasScopeUptoCard : Claim7 := { stood := { row := aliasScopeUptoRow, standIns := [], harness := (true, "d5904b0f7d23ba05cacb2b2ad7bb2ef10c7b692f0994ca58fe1816d8cf951308"), looks := false }, kinds := [], alts := [], laidByText := true, laidKinds := [.data, .data, .data, .data, .data, .data, .data], laidTests := true, laidLooks := .later }
def AliasScopeUptoCardSaid : Prop := Claim7.holds Tryz.pinned (.plain (OpenSpec.upto aliasScopeSpec)) aliasScopeUptoCard
end Rows
end Go.Proofs.YtklklgfpkpglgaaGreatDoor
