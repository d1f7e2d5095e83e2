/-
  DERIVED. GIVEN WITH THE SEED: THE CARDS: each row of YtcblefmjacofgaaGreatDoorRows.lean that lists a variable, with what it lists TIED to the program's text (the seventh form; the later family's looks); each row that meets fmt, with fmt's text TOLD by the authors' own Lean function (tested against real Go, not proved from fmt's source: count such statements apart). THE CARD IS WHAT COUNTS. Prove the row's statement (the work); the ties are given (YtcblefmjacofgaaGreatDoorTie.lean); close each card by the builder's one call (the guide's Derived/Test/ToyasCard.lean, 'card_holds'). Laid BY PROGRAM, IN A SANDBOX (cutbox-door.mjs). By AI agents, Wed Nov 11 2026. No macro, syntax, notation, axiom, sorry.
-/
import Derived.Test.YtcblefmjacofgaaGreatDoorRows
import GoSem.ClaimSeven
namespace Go.Proofs.YtcblefmjacofgaaGreatDoor
namespace Rows

/-- THE TIED CARD OF 'transputerlaw39.ImageMakes'. -/
def imageMakesCard : Claim7 := { stood := { row := imageMakesRow, standIns := [], harness := (true, "80d0b72d7120939c1011d22bed6c16e940390d5ef637569f482b0cdd2eaa4d39"), looks := false }, kinds := [], alts := [], laidByText := true, laidKinds := [.listed, .data, .data], laidTests := true, laidLooks := .later }
def ImageMakesCardSaid : Prop := Claim7.holds Tryz.pinned (.plain (OpenSpec.ofChange imageMakesSpec)) imageMakesCard

/-- THE SECOND FORM's CARD OF 'transputerlaw39.ImageMakes'. -/
def imageMakesUptoCard : Claim7 := { stood := { row := imageMakesUptoRow, standIns := [], harness := (true, "80d0b72d7120939c1011d22bed6c16e940390d5ef637569f482b0cdd2eaa4d39"), looks := false }, kinds := [], alts := [], laidByText := true, laidKinds := [.listed, .data, .data], laidTests := true, laidLooks := .later }
def ImageMakesUptoCardSaid : Prop := Claim7.holds Tryz.pinned (.plain (OpenSpec.upto imageMakesSpec)) imageMakesUptoCard
end Rows
end Go.Proofs.YtcblefmjacofgaaGreatDoor
