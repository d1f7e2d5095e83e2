/- ScopeNames answers true at every input and leaves its arguments as they were: its tied card (ScopeNamesCardSaid) holds, without any condition. -/
import Derived.Test.YtdopmfifmgkmoaaGreatDoorKNamesB
import Derived.Test.YtdopmfifmgkmoaaGreatDoorP6
import Derived.Test.YtdopmfifmgkmoaaGreatDoorP5
import Derived.Test.YtdopmfifmgkmoaaGreatDoorP16
import Derived.Test.YtdopmfifmgkmoaaGreatDoorP15
import Derived.Test.YtdopmfifmgkmoaaGreatDoorProg
import Derived.Test.YtdopmfifmgkmoaaGreatDoorP53
import Derived.Test.YtdopmfifmgkmoaaGreatDoorP43
import Derived.Test.YtdopmfifmgkmoaaGreatDoorP31
import Derived.Test.YtdopmfifmgkmoaaGreatDoorP47
import Derived.Test.YtdopmfifmgkmoaaGreatDoorP41
import Derived.Test.YtdopmfifmgkmoaaGreatDoorP52
import Derived.Test.YtdopmfifmgkmoaaGreatDoorP51
import Derived.Test.YtdopmfifmgkmoaaGreatDoorCards
import Derived.Test.YtdopmfifmgkmoaaGreatDoorTie
import Derived.SevenTiedAt
set_option linter.all false
set_option maxRecDepth 100000
set_option maxHeartbeats 16000000
namespace Go.Proofs.YtdopmfifmgkmoaaGreatDoor
open Go.RowKit Go.Proofs.Tryz
section
theorem sNames_holds:Rows.ScopeNamesCardSaid:=
 Claim7.holds_tied_plain_at .later [] [.data,.data,.data,.data,.data,.data,.data] true (true,"b440625fb9e69dae789f49371fd638ccc8307a23ae25ce7cf657fe02a4ab3313") false
  mj1 (fun _ h=>by cases h) (by kernel_rfl) (fun _ h=>by cases h) scopeNames_row_tie rfl ⟨rfl,rfl⟩ (by kernel_rfl) rfl
  (fun f fn hf hfn=>by
    obtain rfl:f=7:=(Option.some.inj ((show prog.funcNamed "transputer/transputerlaw12.ScopeNames"=some 7 by kernel_rfl).symm.trans hf)).symm
    obtain rfl:fn=Tryz.f7:=(Option.some.inj (func7.symm.trans hfn)).symm
    exact⟨by kernel_rfl,fun j t ht=>by
     rw[Tryz.params7]at ht
     rcases j with _|_|j
     ·obtain rfl:=(Option.some.inj ht);kernel_rfl
     ·obtain rfl:=(Option.some.inj ht);kernel_rfl
     ·simp at ht⟩)
  (by kernel_rfl)
end
end Go.Proofs.YtdopmfifmgkmoaaGreatDoor
