/- The tied card of AliasScope: the law returns true at every input, without any condition. -/
import Derived.Test.YtklklgfpkpglgaaGreatDoorKAscopeB
import Derived.Test.YtklklgfpkpglgaaGreatDoorCards
import Derived.Test.YtklklgfpkpglgaaGreatDoorTie
import Derived.SevenTiedAt
set_option linter.all false
set_option maxRecDepth 100000
set_option maxHeartbeats 0
namespace Go.Proofs.YtklklgfpkpglgaaGreatDoor
open Go.RowKit Go.Proofs.Tryz
section
theorem sAscope_holds:Rows.AliasScopeCardSaid:=
 Claim7.holds_tied_plain_at .later [] [.data,.data,.data,.data,.data,.data,.data] true (true,"d5904b0f7d23ba05cacb2b2ad7bb2ef10c7b692f0994ca58fe1816d8cf951308") false
  ml7 (λ_ h=>by cases h) (by kernel_rfl) (λ_ h=>by cases h) aliasScope_row_tie rfl ⟨rfl,rfl⟩ (by kernel_rfl) rfl
  (λf fn hf hfn=>by
    obtain rfl:f=5:=(Option.some.inj ((show prog.funcNamed "transputer/transputerlaw15.AliasScope"=some 5 by kernel_rfl).symm.trans hf)).symm;obtain rfl:fn=Tryz.f5:=(Option.some.inj (func5.symm.trans hfn)).symm;exact⟨by kernel_rfl,λj t ht=>by
     rw[Tryz.params5]at ht;rcases j with _|j
     ·obtain rfl:=(Option.some.inj ht);kernel_rfl
     ·simp at ht⟩)
  (by kernel_rfl)
end
end Go.Proofs.YtklklgfpkpglgaaGreatDoor
