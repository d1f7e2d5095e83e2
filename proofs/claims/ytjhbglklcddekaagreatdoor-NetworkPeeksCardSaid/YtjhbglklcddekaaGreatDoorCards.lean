/-
  DERIVED. GIVEN WITH THE SEED: THE CARDS: each row of YtjhbglklcddekaaGreatDoorRows.lean that lists a variable, with what it lists TIED to the program's text (the seventh form; the later family's looks); each row that meets fmt, with fmt's text TOLD by the authors' own Lean function (tested against real Go, not proved from fmt's source: count such statements apart). THE CARD IS WHAT COUNTS. Prove the row's statement (the work); the ties are given (YtjhbglklcddekaaGreatDoorTie.lean); close each card by the builder's one call (the guide's Derived/Test/ToyasCard.lean, 'card_holds'). Laid BY PROGRAM, IN A SANDBOX (cutbox-door.mjs). By AI agents, Wed Nov 11 2026. No macro, syntax, notation, axiom, sorry.
-/
import Derived.Test.YtjhbglklcddekaaGreatDoorRows
import GoSem.ClaimSeven
namespace Go.Proofs.YtjhbglklcddekaaGreatDoor
namespace Rows

/-- THE TIED CARD OF 'transputerlaw34.NodeBoots'. -/
def nodeBootsCard : Claim7 := { stood := { row := nodeBootsRow, standIns := [], harness := (true, "c36efb96e6fe6a9728a6523e555cf689aa176c78f5afa1b77e980bb8dfa49e7c"), looks := false }, kinds := [], alts := [], laidByText := true, laidKinds := [.listed, .data, .data], laidTests := true, laidLooks := .later }
def NodeBootsCardSaid : Prop := Claim7.holds Tryz.pinned (.plain (OpenSpec.ofChange nodeBootsSpec)) nodeBootsCard

/-- THE TIED CARD OF 'transputerlaw34.NodeNone'. -/
def nodeNoneCard : Claim7 := { stood := { row := nodeNoneRow, standIns := [], harness := (true, "c36efb96e6fe6a9728a6523e555cf689aa176c78f5afa1b77e980bb8dfa49e7c"), looks := false }, kinds := [], alts := [], laidByText := true, laidKinds := [.listed, .data, .data], laidTests := true, laidLooks := .later }
def NodeNoneCardSaid : Prop := Claim7.holds Tryz.pinned (.plain (OpenSpec.ofChange nodeNoneSpec)) nodeNoneCard

/-- THE TIED CARD OF 'transputerlaw36.NetworkNone'. -/
def networkNoneCard : Claim7 := { stood := { row := networkNoneRow, standIns := [], harness := (true, "c36efb96e6fe6a9728a6523e555cf689aa176c78f5afa1b77e980bb8dfa49e7c"), looks := false }, kinds := [], alts := [], laidByText := true, laidKinds := [.listed, .data, .data], laidTests := true, laidLooks := .later }
def NetworkNoneCardSaid : Prop := Claim7.holds Tryz.pinned (.plain (OpenSpec.ofChange networkNoneSpec)) networkNoneCard

/-- THE TIED CARD OF 'transputerlaw36.NetworkPeeks'. -/
def networkPeeksCard : Claim7 := { stood := { row := networkPeeksRow, standIns := [], harness := (true, "c36efb96e6fe6a9728a6523e555cf689aa176c78f5afa1b77e980bb8dfa49e7c"), looks := false }, kinds := [], alts := [], laidByText := true, laidKinds := [.listed, .data, .data], laidTests := true, laidLooks := .later }
def NetworkPeeksCardSaid : Prop := Claim7.holds Tryz.pinned (.plain (OpenSpec.ofChange networkPeeksSpec)) networkPeeksCard

/-- THE SECOND FORM's CARD OF 'transputerlaw34.NodeBoots'. -/
def nodeBootsUptoCard : Claim7 := { stood := { row := nodeBootsUptoRow, standIns := [], harness := (true, "c36efb96e6fe6a9728a6523e555cf689aa176c78f5afa1b77e980bb8dfa49e7c"), looks := false }, kinds := [], alts := [], laidByText := true, laidKinds := [.listed, .data, .data], laidTests := true, laidLooks := .later }
def NodeBootsUptoCardSaid : Prop := Claim7.holds Tryz.pinned (.plain (OpenSpec.upto nodeBootsSpec)) nodeBootsUptoCard

/-- THE SECOND FORM's CARD OF 'transputerlaw34.NodeNone'. -/
def nodeNoneUptoCard : Claim7 := { stood := { row := nodeNoneUptoRow, standIns := [], harness := (true, "c36efb96e6fe6a9728a6523e555cf689aa176c78f5afa1b77e980bb8dfa49e7c"), looks := false }, kinds := [], alts := [], laidByText := true, laidKinds := [.listed, .data, .data], laidTests := true, laidLooks := .later }
def NodeNoneUptoCardSaid : Prop := Claim7.holds Tryz.pinned (.plain (OpenSpec.upto nodeNoneSpec)) nodeNoneUptoCard

/-- THE SECOND FORM's CARD OF 'transputerlaw36.NetworkNone'. -/
def networkNoneUptoCard : Claim7 := { stood := { row := networkNoneUptoRow, standIns := [], harness := (true, "c36efb96e6fe6a9728a6523e555cf689aa176c78f5afa1b77e980bb8dfa49e7c"), looks := false }, kinds := [], alts := [], laidByText := true, laidKinds := [.listed, .data, .data], laidTests := true, laidLooks := .later }
def NetworkNoneUptoCardSaid : Prop := Claim7.holds Tryz.pinned (.plain (OpenSpec.upto networkNoneSpec)) networkNoneUptoCard

/-- THE SECOND FORM's CARD OF 'transputerlaw36.NetworkPeeks'. -/
def networkPeeksUptoCard : Claim7 := { stood := { row := networkPeeksUptoRow, standIns := [], harness := (true, "c36efb96e6fe6a9728a6523e555cf689aa176c78f5afa1b77e980bb8dfa49e7c"), looks := false }, kinds := [], alts := [], laidByText := true, laidKinds := [.listed, .data, .data], laidTests := true, laidLooks := .later }
def NetworkPeeksUptoCardSaid : Prop := Claim7.holds Tryz.pinned (.plain (OpenSpec.upto networkPeeksSpec)) networkPeeksUptoCard
end Rows
end Go.Proofs.YtjhbglklcddekaaGreatDoor
