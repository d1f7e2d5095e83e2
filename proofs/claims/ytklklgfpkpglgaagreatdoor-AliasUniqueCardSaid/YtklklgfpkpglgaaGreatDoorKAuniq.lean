/- The tied card of AliasUnique: the law returns true at every input, without any condition. -/
import Derived.Test.YtklklgfpkpglgaaGreatDoorKAuniqB
import Derived.Test.YtklklgfpkpglgaaGreatDoorCards
import Derived.Test.YtklklgfpkpglgaaGreatDoorTie
import Derived.SevenTiedAt
set_option linter.all false
set_option maxRecDepth 100000
set_option maxHeartbeats 16000000
namespace Go.Proofs.YtklklgfpkpglgaaGreatDoor
open Go.RowKit Go.Proofs.Tryz
section
theorem sAuniq_holds:Rows.AliasUniqueCardSaid:=
 Claim7.holds_tied_plain_at .later [] [.data,.data,.data,.data,.data,.data,.data] true (true,"d5904b0f7d23ba05cacb2b2ad7bb2ef10c7b692f0994ca58fe1816d8cf951308") false
  mw8 (fun _ h=>by cases h) (by kernel_rfl) (fun _ h=>by cases h) aliasUnique_row_tie rfl ⟨rfl,rfl⟩ (by kernel_rfl) rfl
  (fun f fn hf hfn=>by
    obtain rfl:f=3:=(Option.some.inj ((show prog.funcNamed "transputer/transputerlaw15.AliasUnique"=some 3 by kernel_rfl).symm.trans hf)).symm;obtain rfl:fn=Tryz.f3:=(Option.some.inj (func3.symm.trans hfn)).symm;exact⟨by kernel_rfl,fun j t ht=>by
     rw[Tryz.params3]at ht;rcases j with _|j
     ·obtain rfl:=(Option.some.inj ht);kernel_rfl
     ·simp at ht⟩)
  (by kernel_rfl)
end
end Go.Proofs.YtklklgfpkpglgaaGreatDoor
