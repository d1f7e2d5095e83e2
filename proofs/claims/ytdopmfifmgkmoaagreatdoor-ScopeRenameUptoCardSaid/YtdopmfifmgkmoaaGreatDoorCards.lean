/-
  DERIVED. GIVEN WITH THE SEED: THE CARDS: each row of YtdopmfifmgkmoaaGreatDoorRows.lean that lists a variable, with what it lists TIED to the program's text (the seventh form; the later family's looks); each row that meets fmt, with fmt's text TOLD by the authors' own Lean function (tested against real Go, not proved from fmt's source: count such statements apart). THE CARD IS WHAT COUNTS. Prove the row's statement (the work); the ties are given (YtdopmfifmgkmoaaGreatDoorTie.lean); close each card by the builder's one call (the guide's Derived/Test/ToyasCard.lean, 'card_holds'). Laid BY PROGRAM, IN A SANDBOX (cutbox-door.mjs). By AI agents, Wed Nov 11 2026. No macro, syntax, notation, axiom, sorry.
-/
import Derived.Test.YtdopmfifmgkmoaaGreatDoorRows
import GoSem.ClaimSeven
namespace Go.Proofs.YtdopmfifmgkmoaaGreatDoor
namespace Rows

/-- THE TIED CARD OF 'transputerlaw12.ScopeFree'. -/
def scopeFreeCard : Claim7 := { stood := { row := scopeFreeRow, standIns := [], harness := (true, "b440625fb9e69dae789f49371fd638ccc8307a23ae25ce7cf657fe02a4ab3313"), looks := false }, kinds := [], alts := [], laidByText := true, laidKinds := [.data, .data, .data, .data, .data, .data, .data], laidTests := true, laidLooks := .later }
def ScopeFreeCardSaid : Prop := Claim7.holds Tryz.pinned (.plain (OpenSpec.ofChange scopeFreeSpec)) scopeFreeCard

/-- THE TIED CARD OF 'transputerlaw12.ScopeCheck'. -/
def scopeCheckCard : Claim7 := { stood := { row := scopeCheckRow, standIns := [], harness := (true, "b440625fb9e69dae789f49371fd638ccc8307a23ae25ce7cf657fe02a4ab3313"), looks := false }, kinds := [], alts := [], laidByText := true, laidKinds := [.data, .data, .data, .data, .data, .data, .data], laidTests := true, laidLooks := .later }
def ScopeCheckCardSaid : Prop := Claim7.holds Tryz.pinned (.plain (OpenSpec.ofChange scopeCheckSpec)) scopeCheckCard

/-- THE TIED CARD OF 'transputerlaw12.ScopeUnique'. -/
def scopeUniqueCard : Claim7 := { stood := { row := scopeUniqueRow, standIns := [], harness := (true, "b440625fb9e69dae789f49371fd638ccc8307a23ae25ce7cf657fe02a4ab3313"), looks := false }, kinds := [], alts := [], laidByText := true, laidKinds := [.data, .data, .data, .data, .data, .data, .data], laidTests := true, laidLooks := .later }
def ScopeUniqueCardSaid : Prop := Claim7.holds Tryz.pinned (.plain (OpenSpec.ofChange scopeUniqueSpec)) scopeUniqueCard

/-- THE TIED CARD OF 'transputerlaw12.ScopeAlike'. -/
def scopeAlikeCard : Claim7 := { stood := { row := scopeAlikeRow, standIns := [], harness := (true, "b440625fb9e69dae789f49371fd638ccc8307a23ae25ce7cf657fe02a4ab3313"), looks := false }, kinds := [], alts := [], laidByText := true, laidKinds := [.data, .data, .data, .data, .data, .data, .data], laidTests := true, laidLooks := .later }
def ScopeAlikeCardSaid : Prop := Claim7.holds Tryz.pinned (.plain (OpenSpec.ofChange scopeAlikeSpec)) scopeAlikeCard

/-- THE TIED CARD OF 'transputerlaw12.ScopeNames'. -/
def scopeNamesCard : Claim7 := { stood := { row := scopeNamesRow, standIns := [], harness := (true, "b440625fb9e69dae789f49371fd638ccc8307a23ae25ce7cf657fe02a4ab3313"), looks := false }, kinds := [], alts := [], laidByText := true, laidKinds := [.data, .data, .data, .data, .data, .data, .data], laidTests := true, laidLooks := .later }
def ScopeNamesCardSaid : Prop := Claim7.holds Tryz.pinned (.plain (OpenSpec.ofChange scopeNamesSpec)) scopeNamesCard

/-- THE TIED CARD OF 'transputerlaw12.ScopeNew'. -/
def scopeNewCard : Claim7 := { stood := { row := scopeNewRow, standIns := [], harness := (true, "b440625fb9e69dae789f49371fd638ccc8307a23ae25ce7cf657fe02a4ab3313"), looks := false }, kinds := [], alts := [], laidByText := true, laidKinds := [.data, .data, .data, .data, .data, .data, .data], laidTests := true, laidLooks := .later }
def ScopeNewCardSaid : Prop := Claim7.holds Tryz.pinned (.plain (OpenSpec.ofChange scopeNewSpec)) scopeNewCard

/-- THE TIED CARD OF 'transputerlaw12.ScopeRename'. -/
def scopeRenameCard : Claim7 := { stood := { row := scopeRenameRow, standIns := [], harness := (true, "b440625fb9e69dae789f49371fd638ccc8307a23ae25ce7cf657fe02a4ab3313"), looks := false }, kinds := [], alts := [], laidByText := true, laidKinds := [.data, .data, .data, .data, .data, .data, .data], laidTests := true, laidLooks := .later }
def ScopeRenameCardSaid : Prop := Claim7.holds Tryz.pinned (.plain (OpenSpec.ofChange scopeRenameSpec)) scopeRenameCard

/-- THE SECOND FORM's CARD OF 'transputerlaw12.ScopeFree'. -/
def scopeFreeUptoCard : Claim7 := { stood := { row := scopeFreeUptoRow, standIns := [], harness := (true, "b440625fb9e69dae789f49371fd638ccc8307a23ae25ce7cf657fe02a4ab3313"), looks := false }, kinds := [], alts := [], laidByText := true, laidKinds := [.data, .data, .data, .data, .data, .data, .data], laidTests := true, laidLooks := .later }
def ScopeFreeUptoCardSaid : Prop := Claim7.holds Tryz.pinned (.plain (OpenSpec.upto scopeFreeSpec)) scopeFreeUptoCard

/-- THE SECOND FORM's CARD OF 'transputerlaw12.ScopeCheck'. -/
def scopeCheckUptoCard : Claim7 := { stood := { row := scopeCheckUptoRow, standIns := [], harness := (true, "b440625fb9e69dae789f49371fd638ccc8307a23ae25ce7cf657fe02a4ab3313"), looks := false }, kinds := [], alts := [], laidByText := true, laidKinds := [.data, .data, .data, .data, .data, .data, .data], laidTests := true, laidLooks := .later }
def ScopeCheckUptoCardSaid : Prop := Claim7.holds Tryz.pinned (.plain (OpenSpec.upto scopeCheckSpec)) scopeCheckUptoCard

/-- THE SECOND FORM's CARD OF 'transputerlaw12.ScopeUnique'. -/
def scopeUniqueUptoCard : Claim7 := { stood := { row := scopeUniqueUptoRow, standIns := [], harness := (true, "b440625fb9e69dae789f49371fd638ccc8307a23ae25ce7cf657fe02a4ab3313"), looks := false }, kinds := [], alts := [], laidByText := true, laidKinds := [.data, .data, .data, .data, .data, .data, .data], laidTests := true, laidLooks := .later }
def ScopeUniqueUptoCardSaid : Prop := Claim7.holds Tryz.pinned (.plain (OpenSpec.upto scopeUniqueSpec)) scopeUniqueUptoCard

/-- THE SECOND FORM's CARD OF 'transputerlaw12.ScopeAlike'. -/
def scopeAlikeUptoCard : Claim7 := { stood := { row := scopeAlikeUptoRow, standIns := [], harness := (true, "b440625fb9e69dae789f49371fd638ccc8307a23ae25ce7cf657fe02a4ab3313"), looks := false }, kinds := [], alts := [], laidByText := true, laidKinds := [.data, .data, .data, .data, .data, .data, .data], laidTests := true, laidLooks := .later }
def ScopeAlikeUptoCardSaid : Prop := Claim7.holds Tryz.pinned (.plain (OpenSpec.upto scopeAlikeSpec)) scopeAlikeUptoCard

/-- THE SECOND FORM's CARD OF 'transputerlaw12.ScopeNames'. -/
def scopeNamesUptoCard : Claim7 := { stood := { row := scopeNamesUptoRow, standIns := [], harness := (true, "b440625fb9e69dae789f49371fd638ccc8307a23ae25ce7cf657fe02a4ab3313"), looks := false }, kinds := [], alts := [], laidByText := true, laidKinds := [.data, .data, .data, .data, .data, .data, .data], laidTests := true, laidLooks := .later }
def ScopeNamesUptoCardSaid : Prop := Claim7.holds Tryz.pinned (.plain (OpenSpec.upto scopeNamesSpec)) scopeNamesUptoCard

/-- THE SECOND FORM's CARD OF 'transputerlaw12.ScopeNew'. -/
def scopeNewUptoCard : Claim7 := { stood := { row := scopeNewUptoRow, standIns := [], harness := (true, "b440625fb9e69dae789f49371fd638ccc8307a23ae25ce7cf657fe02a4ab3313"), looks := false }, kinds := [], alts := [], laidByText := true, laidKinds := [.data, .data, .data, .data, .data, .data, .data], laidTests := true, laidLooks := .later }
def ScopeNewUptoCardSaid : Prop := Claim7.holds Tryz.pinned (.plain (OpenSpec.upto scopeNewSpec)) scopeNewUptoCard

/-- THE SECOND FORM's CARD OF 'transputerlaw12.ScopeRename'. -/
def scopeRenameUptoCard : Claim7 := { stood := { row := scopeRenameUptoRow, standIns := [], harness := (true, "b440625fb9e69dae789f49371fd638ccc8307a23ae25ce7cf657fe02a4ab3313"), looks := false }, kinds := [], alts := [], laidByText := true, laidKinds := [.data, .data, .data, .data, .data, .data, .data], laidTests := true, laidLooks := .later }
def ScopeRenameUptoCardSaid : Prop := Claim7.holds Tryz.pinned (.plain (OpenSpec.upto scopeRenameSpec)) scopeRenameUptoCard
end Rows
end Go.Proofs.YtdopmfifmgkmoaaGreatDoor
