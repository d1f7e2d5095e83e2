/-
  DERIVED. GIVEN WITH THE SEED: THE CARDS: each row of YtcblefmjacofgaaDoorRows.lean that lists a variable, with what it lists TIED to the program's text (the seventh form; the later family's looks); each row that meets fmt, with fmt's text TOLD by the authors' own Lean function (tested against real Go, not proved from fmt's source: count such statements apart). THE CARD IS WHAT COUNTS. Prove the row's statement (the work); the ties are given (YtcblefmjacofgaaDoorTie.lean); close each card by the builder's one call (the guide's Derived/Test/ToyasCard.lean, 'card_holds'). Laid BY PROGRAM, IN A SANDBOX (cutbox-door.mjs). By AI agents, Wed Nov 11 2026. No macro, syntax, notation, axiom, sorry.
-/
import Derived.Test.YtcblefmjacofgaaDoorRows
import GoSem.ClaimSeven
namespace Go.Proofs.YtcblefmjacofgaaDoor
namespace Rows

/-- THE TIED CARD OF 'transputerlaw39.ImageSpaces'. -/
def imageSpacesCard : Claim7 := { stood := { row := imageSpacesRow, standIns := [], harness := (true, "2731c1c6f226c2aef2109fe039b7c8a6ee2f70fcd9b6127cd3108c7443de100a"), looks := false }, kinds := [], alts := [], laidByText := true, laidKinds := [.listed, .data, .data], laidTests := true, laidLooks := .later }
def ImageSpacesCardSaid : Prop := Claim7.holds Tryd.pinned (.plain (OpenSpec.ofChange imageSpacesSpec)) imageSpacesCard

/-- THE TIED CARD OF 'transputerlaw39.ImageSplits'. -/
def imageSplitsCard : Claim7 := { stood := { row := imageSplitsRow, standIns := [], harness := (true, "2731c1c6f226c2aef2109fe039b7c8a6ee2f70fcd9b6127cd3108c7443de100a"), looks := false }, kinds := [], alts := [], laidByText := true, laidKinds := [.listed, .data, .data], laidTests := true, laidLooks := .later }
def ImageSplitsCardSaid : Prop := Claim7.holds Tryd.pinned (.plain (OpenSpec.ofChange imageSplitsSpec)) imageSplitsCard

/-- THE TIED CARD OF 'transputerlaw39.ImageBack'. -/
def imageBackCard : Claim7 := { stood := { row := imageBackRow, standIns := [], harness := (true, "2731c1c6f226c2aef2109fe039b7c8a6ee2f70fcd9b6127cd3108c7443de100a"), looks := false }, kinds := [], alts := [], laidByText := true, laidKinds := [.listed, .data, .data], laidTests := true, laidLooks := .later }
def ImageBackCardSaid : Prop := Claim7.holds Tryd.pinned (.plain (OpenSpec.ofChange imageBackSpec)) imageBackCard

/-- THE TIED CARD OF 'transputerlaw39.ImageShape'. -/
def imageShapeCard : Claim7 := { stood := { row := imageShapeRow, standIns := [], harness := (true, "2731c1c6f226c2aef2109fe039b7c8a6ee2f70fcd9b6127cd3108c7443de100a"), looks := false }, kinds := [], alts := [], laidByText := true, laidKinds := [.listed, .data, .data], laidTests := true, laidLooks := .later }
def ImageShapeCardSaid : Prop := Claim7.holds Tryd.pinned (.plain (OpenSpec.ofChange imageShapeSpec)) imageShapeCard

/-- THE TIED CARD OF 'transputerlaw39.ImagePieces'. -/
def imagePiecesCard : Claim7 := { stood := { row := imagePiecesRow, standIns := [], harness := (true, "2731c1c6f226c2aef2109fe039b7c8a6ee2f70fcd9b6127cd3108c7443de100a"), looks := false }, kinds := [], alts := [], laidByText := true, laidKinds := [.listed, .data, .data], laidTests := true, laidLooks := .later }
def ImagePiecesCardSaid : Prop := Claim7.holds Tryd.pinned (.plain (OpenSpec.ofChange imagePiecesSpec)) imagePiecesCard

/-- THE SECOND FORM's CARD OF 'transputerlaw39.ImageSpaces'. -/
def imageSpacesUptoCard : Claim7 := { stood := { row := imageSpacesUptoRow, standIns := [], harness := (true, "2731c1c6f226c2aef2109fe039b7c8a6ee2f70fcd9b6127cd3108c7443de100a"), looks := false }, kinds := [], alts := [], laidByText := true, laidKinds := [.listed, .data, .data], laidTests := true, laidLooks := .later }
def ImageSpacesUptoCardSaid : Prop := Claim7.holds Tryd.pinned (.plain (OpenSpec.upto imageSpacesSpec)) imageSpacesUptoCard

/-- THE SECOND FORM's CARD OF 'transputerlaw39.ImageSplits'. -/
def imageSplitsUptoCard : Claim7 := { stood := { row := imageSplitsUptoRow, standIns := [], harness := (true, "2731c1c6f226c2aef2109fe039b7c8a6ee2f70fcd9b6127cd3108c7443de100a"), looks := false }, kinds := [], alts := [], laidByText := true, laidKinds := [.listed, .data, .data], laidTests := true, laidLooks := .later }
def ImageSplitsUptoCardSaid : Prop := Claim7.holds Tryd.pinned (.plain (OpenSpec.upto imageSplitsSpec)) imageSplitsUptoCard

/-- THE SECOND FORM's CARD OF 'transputerlaw39.ImageBack'. -/
def imageBackUptoCard : Claim7 := { stood := { row := imageBackUptoRow, standIns := [], harness := (true, "2731c1c6f226c2aef2109fe039b7c8a6ee2f70fcd9b6127cd3108c7443de100a"), looks := false }, kinds := [], alts := [], laidByText := true, laidKinds := [.listed, .data, .data], laidTests := true, laidLooks := .later }
def ImageBackUptoCardSaid : Prop := Claim7.holds Tryd.pinned (.plain (OpenSpec.upto imageBackSpec)) imageBackUptoCard

/-- THE SECOND FORM's CARD OF 'transputerlaw39.ImageShape'. -/
def imageShapeUptoCard : Claim7 := { stood := { row := imageShapeUptoRow, standIns := [], harness := (true, "2731c1c6f226c2aef2109fe039b7c8a6ee2f70fcd9b6127cd3108c7443de100a"), looks := false }, kinds := [], alts := [], laidByText := true, laidKinds := [.listed, .data, .data], laidTests := true, laidLooks := .later }
def ImageShapeUptoCardSaid : Prop := Claim7.holds Tryd.pinned (.plain (OpenSpec.upto imageShapeSpec)) imageShapeUptoCard

/-- THE SECOND FORM's CARD OF 'transputerlaw39.ImagePieces'. -/
def imagePiecesUptoCard : Claim7 := { stood := { row := imagePiecesUptoRow, standIns := [], harness := (true, "2731c1c6f226c2aef2109fe039b7c8a6ee2f70fcd9b6127cd3108c7443de100a"), looks := false }, kinds := [], alts := [], laidByText := true, laidKinds := [.listed, .data, .data], laidTests := true, laidLooks := .later }
def ImagePiecesUptoCardSaid : Prop := Claim7.holds Tryd.pinned (.plain (OpenSpec.upto imagePiecesSpec)) imagePiecesUptoCard
end Rows
end Go.Proofs.YtcblefmjacofgaaDoor
