/- The tied card of ScopeRename's second form: the law returns true at every input whose bulk is at most 1048576, without any condition. -/
import Derived.Test.YtdopmfifmgkmoaaGreatDoorKRenameB
import Derived.Test.YtdopmfifmgkmoaaGreatDoorCards
import Derived.Test.YtdopmfifmgkmoaaGreatDoorTie
import Derived.SevenTiedAt
set_option linter.all false
set_option maxRecDepth 100000
set_option maxHeartbeats 16000000
namespace Go.Proofs.YtdopmfifmgkmoaaGreatDoor
open Go.RowKit Go.Proofs.Tryz
section
theorem sRename_holds:Rows.ScopeRenameUptoCardSaid:=
 Claim7.holds_tied_plain_at .later [] [.data,.data,.data,.data,.data,.data,.data] true (true,"b440625fb9e69dae789f49371fd638ccc8307a23ae25ce7cf657fe02a4ab3313") false
  md3 (fun _ h=>by cases h) (by kernel_rfl) (fun _ h=>by cases h) scopeRenameUpto_row_tie rfl ⟨rfl,rfl⟩ (by kernel_rfl) rfl
  (fun f fn hf hfn=>by
    obtain rfl:f=9:=(Option.some.inj ((show prog.funcNamed "transputer/transputerlaw12.ScopeRename"=some 9 by kernel_rfl).symm.trans hf)).symm;obtain rfl:fn=Tryz.f9:=(Option.some.inj (func9.symm.trans hfn)).symm;exact⟨by kernel_rfl,fun j t ht=>by
     rw[Tryz.params9]at ht;rcases j with _|_|j
     ·obtain rfl:=(Option.some.inj ht);kernel_rfl
     ·obtain rfl:=(Option.some.inj ht);kernel_rfl
     ·simp at ht⟩)
  (by kernel_rfl)
end
end Go.Proofs.YtdopmfifmgkmoaaGreatDoor
