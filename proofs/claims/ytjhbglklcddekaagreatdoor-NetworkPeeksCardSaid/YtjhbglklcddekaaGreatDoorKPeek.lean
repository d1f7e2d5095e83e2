/- The tied card of NetworkPeeks: the law returns true at every input, without any condition. -/
import Derived.Test.YtjhbglklcddekaaGreatDoorKPeekRPeek
import Derived.Test.YtjhbglklcddekaaGreatDoorCards
import Derived.Test.YtjhbglklcddekaaGreatDoorTie
import Derived.SevenTiedAt
set_option linter.all false
set_option maxRecDepth 100000
set_option maxHeartbeats 16000000
namespace Go.Proofs.YtjhbglklcddekaaGreatDoor
open Go.RowKit Go.Proofs.Tryz
section
theorem networkPeeks_holds : Rows.NetworkPeeksCardSaid :=
  Claim7.holds_tied_plain_at .later [] [.listed, .data, .data] true (true, "c36efb96e6fe6a9728a6523e555cf689aa176c78f5afa1b77e980bb8dfa49e7c") false
    NPeek_row (fun _ h => by cases h) (by kernel_rfl) (fun _ h => by cases h) networkPeeks_row_tie rfl ⟨rfl, rfl⟩ (by kernel_rfl) rfl
    (fun f fn hf hfn => by
      obtain rfl : f = 6 := (Option.some.inj ((show prog.funcNamed "transputer/transputerlaw36.NetworkPeeks" = some 6 by kernel_rfl).symm.trans hf)).symm
      obtain rfl : fn = Tryz.f6 := (Option.some.inj (func6.symm.trans hfn)).symm
      exact ⟨by kernel_rfl, fun j t ht => by
        rw [Tryz.params6] at ht
        rcases j with _ | _ | j
        · obtain rfl := (Option.some.inj ht); kernel_rfl
        · obtain rfl := (Option.some.inj ht); kernel_rfl
        · simp at ht⟩)
    (by kernel_rfl)
end
end Go.Proofs.YtjhbglklcddekaaGreatDoor
