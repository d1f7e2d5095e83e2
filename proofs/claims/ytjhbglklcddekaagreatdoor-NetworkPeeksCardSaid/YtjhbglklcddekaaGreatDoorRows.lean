/-
  NARROWER THAN 'FOR EVERY INPUT', by the rows' own cells (each row's printed sentence says how): NodeBoots: laid · NodeNone: laid · NetworkNone: laid · NetworkPeeks: laid.
  DERIVED. THE GIVEN ROWS OF THIS SEAT. 4 by the template 'for every input the law returns true; each argument reads behind the call as it read before'; 0 by the template 'total and deterministic' (their statements: YtjhbglklcddekaaGreatDoorTotals.lean).
  GIVEN WITH THE SEED: the statements are not yours to turn. If you find one false, say at which input.
  Laid BY PROGRAM, IN A SANDBOX (cutbox-rows.mjs): the forced cells as the released guide's own fill.sh prints them over the translation aa980907a2ced4c2… (all of the seat's roots in one cut). By AI agents, Wed Nov 11 2026. No macro, syntax, notation, axiom, sorry.
-/
import Derived.Test.YtjhbglklcddekaaGreatDoorChecked
import GoSem.Claim
import GoSem.ClaimJoined
import GoSem.ClaimMapViews
import Derived.JoinedTies
import Derived.KernelRfl
namespace Go.Proofs.YtjhbglklcddekaaGreatDoor
/- THE CELL 'sum', in the pinned program and in every row, IS THE sha256 OF THE DUMP (.gsa) THAT YtjhbglklcddekaaGreatDoorProg.lean LOADS. Nothing in Lean hashes anything: it is a label: what it is worth is what the hold of that sum in a sandbox is worth. -/
noncomputable def Tryz.pinned : Pinned := { name := "ytjhbglklcddekaagreatdoor", sum := "aa980907a2ced4c2da4ab6e5ed7dc9150e316b307a9fb1e2a92d5a5ce95b30ae", checked := Tryz.checked }
namespace Rows
def none {H : Type} : Left H := { results := [], args := [] }

/- WHAT THE LISTED PACKAGE-LEVEL VARIABLES READ AS WHEN THE CALL BEGINS. Each datum BY PROGRAM (the guide's laid-datum.mjs) off the statement by which the dump's own 'gosem.cut.vars' lays the variable. In a bare row this is a premise. The card (YtjhbglklcddekaaGreatDoorCards.lean) ties it to the program's text. -/
def laid_unicode_White_Space {H : Type} : DataW H := .ptr (.agg [.slice [.agg [.lit (.int .u16 9), .lit (.int .u16 13), .lit (.int .u16 1)], .agg [.lit (.int .u16 32), .lit (.int .u16 133), .lit (.int .u16 101)], .agg [.lit (.int .u16 160), .lit (.int .u16 5760), .lit (.int .u16 5600)], .agg [.lit (.int .u16 8192), .lit (.int .u16 8202), .lit (.int .u16 1)], .agg [.lit (.int .u16 8232), .lit (.int .u16 8233), .lit (.int .u16 1)], .agg [.lit (.int .u16 8239), .lit (.int .u16 8287), .lit (.int .u16 48)], .agg [.lit (.int .u16 12288), .lit (.int .u16 12288), .lit (.int .u16 1)]] [], .nil, .lit (.int .i64 2)])
def laid_strings_asciiSpace {H : Type} : DataW H := .agg [.lit (.int .u8 0), .lit (.int .u8 0), .lit (.int .u8 0), .lit (.int .u8 0), .lit (.int .u8 0), .lit (.int .u8 0), .lit (.int .u8 0), .lit (.int .u8 0), .lit (.int .u8 0), .lit (.int .u8 1), .lit (.int .u8 1), .lit (.int .u8 1), .lit (.int .u8 1), .lit (.int .u8 1), .lit (.int .u8 0), .lit (.int .u8 0), .lit (.int .u8 0), .lit (.int .u8 0), .lit (.int .u8 0), .lit (.int .u8 0), .lit (.int .u8 0), .lit (.int .u8 0), .lit (.int .u8 0), .lit (.int .u8 0), .lit (.int .u8 0), .lit (.int .u8 0), .lit (.int .u8 0), .lit (.int .u8 0), .lit (.int .u8 0), .lit (.int .u8 0), .lit (.int .u8 0), .lit (.int .u8 0), .lit (.int .u8 1), .lit (.int .u8 0), .lit (.int .u8 0), .lit (.int .u8 0), .lit (.int .u8 0), .lit (.int .u8 0), .lit (.int .u8 0), .lit (.int .u8 0), .lit (.int .u8 0), .lit (.int .u8 0), .lit (.int .u8 0), .lit (.int .u8 0), .lit (.int .u8 0), .lit (.int .u8 0), .lit (.int .u8 0), .lit (.int .u8 0), .lit (.int .u8 0), .lit (.int .u8 0), .lit (.int .u8 0), .lit (.int .u8 0), .lit (.int .u8 0), .lit (.int .u8 0), .lit (.int .u8 0), .lit (.int .u8 0), .lit (.int .u8 0), .lit (.int .u8 0), .lit (.int .u8 0), .lit (.int .u8 0), .lit (.int .u8 0), .lit (.int .u8 0), .lit (.int .u8 0), .lit (.int .u8 0), .lit (.int .u8 0), .lit (.int .u8 0), .lit (.int .u8 0), .lit (.int .u8 0), .lit (.int .u8 0), .lit (.int .u8 0), .lit (.int .u8 0), .lit (.int .u8 0), .lit (.int .u8 0), .lit (.int .u8 0), .lit (.int .u8 0), .lit (.int .u8 0), .lit (.int .u8 0), .lit (.int .u8 0), .lit (.int .u8 0), .lit (.int .u8 0), .lit (.int .u8 0), .lit (.int .u8 0), .lit (.int .u8 0), .lit (.int .u8 0), .lit (.int .u8 0), .lit (.int .u8 0), .lit (.int .u8 0), .lit (.int .u8 0), .lit (.int .u8 0), .lit (.int .u8 0), .lit (.int .u8 0), .lit (.int .u8 0), .lit (.int .u8 0), .lit (.int .u8 0), .lit (.int .u8 0), .lit (.int .u8 0), .lit (.int .u8 0), .lit (.int .u8 0), .lit (.int .u8 0), .lit (.int .u8 0), .lit (.int .u8 0), .lit (.int .u8 0), .lit (.int .u8 0), .lit (.int .u8 0), .lit (.int .u8 0), .lit (.int .u8 0), .lit (.int .u8 0), .lit (.int .u8 0), .lit (.int .u8 0), .lit (.int .u8 0), .lit (.int .u8 0), .lit (.int .u8 0), .lit (.int .u8 0), .lit (.int .u8 0), .lit (.int .u8 0), .lit (.int .u8 0), .lit (.int .u8 0), .lit (.int .u8 0), .lit (.int .u8 0), .lit (.int .u8 0), .lit (.int .u8 0), .lit (.int .u8 0), .lit (.int .u8 0), .lit (.int .u8 0), .lit (.int .u8 0), .lit (.int .u8 0), .lit (.int .u8 0), .lit (.int .u8 0), .lit (.int .u8 0), .lit (.int .u8 0), .lit (.int .u8 0), .lit (.int .u8 0), .lit (.int .u8 0), .lit (.int .u8 0), .lit (.int .u8 0), .lit (.int .u8 0), .lit (.int .u8 0), .lit (.int .u8 0), .lit (.int .u8 0), .lit (.int .u8 0), .lit (.int .u8 0), .lit (.int .u8 0), .lit (.int .u8 0), .lit (.int .u8 0), .lit (.int .u8 0), .lit (.int .u8 0), .lit (.int .u8 0), .lit (.int .u8 0), .lit (.int .u8 0), .lit (.int .u8 0), .lit (.int .u8 0), .lit (.int .u8 0), .lit (.int .u8 0), .lit (.int .u8 0), .lit (.int .u8 0), .lit (.int .u8 0), .lit (.int .u8 0), .lit (.int .u8 0), .lit (.int .u8 0), .lit (.int .u8 0), .lit (.int .u8 0), .lit (.int .u8 0), .lit (.int .u8 0), .lit (.int .u8 0), .lit (.int .u8 0), .lit (.int .u8 0), .lit (.int .u8 0), .lit (.int .u8 0), .lit (.int .u8 0), .lit (.int .u8 0), .lit (.int .u8 0), .lit (.int .u8 0), .lit (.int .u8 0), .lit (.int .u8 0), .lit (.int .u8 0), .lit (.int .u8 0), .lit (.int .u8 0), .lit (.int .u8 0), .lit (.int .u8 0), .lit (.int .u8 0), .lit (.int .u8 0), .lit (.int .u8 0), .lit (.int .u8 0), .lit (.int .u8 0), .lit (.int .u8 0), .lit (.int .u8 0), .lit (.int .u8 0), .lit (.int .u8 0), .lit (.int .u8 0), .lit (.int .u8 0), .lit (.int .u8 0), .lit (.int .u8 0), .lit (.int .u8 0), .lit (.int .u8 0), .lit (.int .u8 0), .lit (.int .u8 0), .lit (.int .u8 0), .lit (.int .u8 0), .lit (.int .u8 0), .lit (.int .u8 0), .lit (.int .u8 0), .lit (.int .u8 0), .lit (.int .u8 0), .lit (.int .u8 0), .lit (.int .u8 0), .lit (.int .u8 0), .lit (.int .u8 0), .lit (.int .u8 0), .lit (.int .u8 0), .lit (.int .u8 0), .lit (.int .u8 0), .lit (.int .u8 0), .lit (.int .u8 0), .lit (.int .u8 0), .lit (.int .u8 0), .lit (.int .u8 0), .lit (.int .u8 0), .lit (.int .u8 0), .lit (.int .u8 0), .lit (.int .u8 0), .lit (.int .u8 0), .lit (.int .u8 0), .lit (.int .u8 0), .lit (.int .u8 0), .lit (.int .u8 0), .lit (.int .u8 0), .lit (.int .u8 0), .lit (.int .u8 0), .lit (.int .u8 0), .lit (.int .u8 0), .lit (.int .u8 0), .lit (.int .u8 0), .lit (.int .u8 0), .lit (.int .u8 0), .lit (.int .u8 0), .lit (.int .u8 0), .lit (.int .u8 0), .lit (.int .u8 0), .lit (.int .u8 0), .lit (.int .u8 0), .lit (.int .u8 0), .lit (.int .u8 0), .lit (.int .u8 0), .lit (.int .u8 0), .lit (.int .u8 0), .lit (.int .u8 0), .lit (.int .u8 0), .lit (.int .u8 0), .lit (.int .u8 0), .lit (.int .u8 0), .lit (.int .u8 0), .lit (.int .u8 0), .lit (.int .u8 0), .lit (.int .u8 0), .lit (.int .u8 0), .lit (.int .u8 0)]
def laid_transputer_instr_functions {H : Type} : DataW H := .agg [.lit (.string [106]), .lit (.string [108, 100, 108, 112]), .lit (.string []), .lit (.string [108, 100, 110, 108]), .lit (.string [108, 100, 99]), .lit (.string [108, 100, 110, 108, 112]), .lit (.string []), .lit (.string [108, 100, 108]), .lit (.string [97, 100, 99]), .lit (.string [99, 97, 108, 108]), .lit (.string [99, 106]), .lit (.string [97, 106, 119]), .lit (.string [101, 113, 99]), .lit (.string [115, 116, 108]), .lit (.string [115, 116, 110, 108]), .lit (.string [])]

/-- 'transputerlaw34.NodeBoots': WHATEVER THE INPUT: true; the input reads as it did. -/
def nodeBootsSpec : ChangeSpec := { name := "nodeBoots", fn := fun _ => fun
  | [d1, d2, d3] => { results := [.lit (.bool true)], args := [d1, d2, d3] }
  | _ => none }
def nodeBootsRow : OpenClaim := { program := "ytjhbglklcddekaagreatdoor", sum := "aa980907a2ced4c2da4ab6e5ed7dc9150e316b307a9fb1e2a92d5a5ce95b30ae", func := "transputer/transputerlaw34.NodeBoots", spec := "nodeBoots", inPlace := ["internal/bytealg.IndexByteString"], unfollowed := true, recurses := true, named := ["transputer/instr.functions", "strings.asciiSpace", "unicode.White_Space", "math/bits.overflowError"], plainKeys := false, apart := false, laid := [("unicode.White_Space", laid_unicode_White_Space), ("strings.asciiSpace", laid_strings_asciiSpace), ("transputer/instr.functions", laid_transputer_instr_functions)] }
def NodeBootsSaid : Prop := nodeBootsRow.holds Tryz.pinned (OpenSpec.ofChange nodeBootsSpec)

/-- ITS FALSE NEIGHBOUR: 'it returns false'. Refute it at one input. -/
def nodeBootsWrong : ChangeSpec := { name := "nodeBoots", fn := fun _ => fun
  | [d1, d2, d3] => { results := [.lit (.bool false)], args := [d1, d2, d3] }
  | _ => none }
def NodeBootsWrongFalsely : Prop := nodeBootsRow.holds Tryz.pinned (OpenSpec.ofChange nodeBootsWrong)

/-- 'transputerlaw34.NodeNone': WHATEVER THE INPUT: true; the input reads as it did. -/
def nodeNoneSpec : ChangeSpec := { name := "nodeNone", fn := fun _ => fun
  | [d] => { results := [.lit (.bool true)], args := [d] }
  | _ => none }
def nodeNoneRow : OpenClaim := { program := "ytjhbglklcddekaagreatdoor", sum := "aa980907a2ced4c2da4ab6e5ed7dc9150e316b307a9fb1e2a92d5a5ce95b30ae", func := "transputer/transputerlaw34.NodeNone", spec := "nodeNone", inPlace := ["internal/bytealg.IndexByteString"], unfollowed := true, recurses := true, named := ["transputer/instr.functions", "strings.asciiSpace", "unicode.White_Space", "math/bits.overflowError"], plainKeys := false, apart := false, laid := [("unicode.White_Space", laid_unicode_White_Space), ("strings.asciiSpace", laid_strings_asciiSpace), ("transputer/instr.functions", laid_transputer_instr_functions)] }
def NodeNoneSaid : Prop := nodeNoneRow.holds Tryz.pinned (OpenSpec.ofChange nodeNoneSpec)

/-- ITS FALSE NEIGHBOUR: 'it returns false'. Refute it at one input. -/
def nodeNoneWrong : ChangeSpec := { name := "nodeNone", fn := fun _ => fun
  | [d] => { results := [.lit (.bool false)], args := [d] }
  | _ => none }
def NodeNoneWrongFalsely : Prop := nodeNoneRow.holds Tryz.pinned (OpenSpec.ofChange nodeNoneWrong)

/-- 'transputerlaw36.NetworkNone': WHATEVER THE INPUT: true; the input reads as it did. -/
def networkNoneSpec : ChangeSpec := { name := "networkNone", fn := fun _ => fun
  | [d1, d2, d3] => { results := [.lit (.bool true)], args := [d1, d2, d3] }
  | _ => none }
def networkNoneRow : OpenClaim := { program := "ytjhbglklcddekaagreatdoor", sum := "aa980907a2ced4c2da4ab6e5ed7dc9150e316b307a9fb1e2a92d5a5ce95b30ae", func := "transputer/transputerlaw36.NetworkNone", spec := "networkNone", inPlace := ["internal/bytealg.IndexByteString"], unfollowed := true, recurses := true, named := ["transputer/instr.functions", "strings.asciiSpace", "unicode.White_Space", "math/bits.overflowError"], plainKeys := false, apart := false, laid := [("unicode.White_Space", laid_unicode_White_Space), ("strings.asciiSpace", laid_strings_asciiSpace), ("transputer/instr.functions", laid_transputer_instr_functions)] }
def NetworkNoneSaid : Prop := networkNoneRow.holds Tryz.pinned (OpenSpec.ofChange networkNoneSpec)

/-- ITS FALSE NEIGHBOUR: 'it returns false'. Refute it at one input. -/
def networkNoneWrong : ChangeSpec := { name := "networkNone", fn := fun _ => fun
  | [d1, d2, d3] => { results := [.lit (.bool false)], args := [d1, d2, d3] }
  | _ => none }
def NetworkNoneWrongFalsely : Prop := networkNoneRow.holds Tryz.pinned (OpenSpec.ofChange networkNoneWrong)

/-- 'transputerlaw36.NetworkPeeks': WHATEVER THE INPUT: true; the input reads as it did. -/
def networkPeeksSpec : ChangeSpec := { name := "networkPeeks", fn := fun _ => fun
  | [d1, d2] => { results := [.lit (.bool true)], args := [d1, d2] }
  | _ => none }
def networkPeeksRow : OpenClaim := { program := "ytjhbglklcddekaagreatdoor", sum := "aa980907a2ced4c2da4ab6e5ed7dc9150e316b307a9fb1e2a92d5a5ce95b30ae", func := "transputer/transputerlaw36.NetworkPeeks", spec := "networkPeeks", inPlace := ["internal/bytealg.IndexByteString"], unfollowed := true, recurses := true, named := ["transputer/instr.functions", "strings.asciiSpace", "unicode.White_Space", "math/bits.overflowError"], plainKeys := false, apart := false, laid := [("unicode.White_Space", laid_unicode_White_Space), ("strings.asciiSpace", laid_strings_asciiSpace), ("transputer/instr.functions", laid_transputer_instr_functions)] }
def NetworkPeeksSaid : Prop := networkPeeksRow.holds Tryz.pinned (OpenSpec.ofChange networkPeeksSpec)

/-- ITS FALSE NEIGHBOUR: 'it returns false'. Refute it at one input. -/
def networkPeeksWrong : ChangeSpec := { name := "networkPeeks", fn := fun _ => fun
  | [d1, d2] => { results := [.lit (.bool false)], args := [d1, d2] }
  | _ => none }
def NetworkPeeksWrongFalsely : Prop := networkPeeksRow.holds Tryz.pinned (OpenSpec.ofChange networkPeeksWrong)

/- THE SECOND FORM. 'bulk': how many values and letters a reading holds, each counted each time it is reached (what is shared counts as often as it is met; a slice's spare places count too). A statement '..UptoSaid' is the law's where the arguments, and the package variables that the reading takes, are together of bulk at most 1048576: NARROWER than '..Said'. Prove '..Said' where nothing that the law and all that it calls make is longer than what came in: it says more and counts as full. Else prove '..UptoSaid'. A law counts once. -/
mutual
def uptoBulk {H : Type} : DataW H → Nat
  | .lit (.string bytes) => bytes.length + 1
  | .lit _ => 1
  | .nil => 1
  | .ptr d => uptoBulk d + 1
  | .slice elems spare => uptoBulkAll elems + uptoBulkAll spare + 1
  | .agg parts => uptoBulkAll parts + 1
  | .iface _ d => uptoBulk d + 1
  | .map entries => uptoBulkEntries entries + 1
  | .held _ => 1
def uptoBulkAll {H : Type} : List (DataW H) → Nat
  | [] => 0
  | d :: r => uptoBulk d + uptoBulkAll r
def uptoBulkEntries {H : Type} : List (Lit × DataW H) → Nat
  | [] => 0
  | x :: r => uptoBulkEntry x + uptoBulkEntries r
def uptoBulkEntry {H : Type} : Lit × DataW H → Nat
  | (.string bytes, d) => bytes.length + uptoBulk d + 1
  | (_, d) => uptoBulk d + 1
 end
def uptoSmall : (H : Type) → List (DataW H) → Bool := fun _ ds => decide (uptoBulkAll ds ≤ 1048576)
def OpenSpec.upto (s : _root_.Go.ChangeSpec) : _root_.Go.OpenSpec := { _root_.Go.OpenSpec.ofChange s with cond := some uptoSmall }

/-- 'transputerlaw34.NodeBoots', WHERE WHAT IT READS IS OF BULK AT MOST 1048576: true; the input reads as it did. -/
def nodeBootsUptoRow : OpenClaim := { program := "ytjhbglklcddekaagreatdoor", sum := "aa980907a2ced4c2da4ab6e5ed7dc9150e316b307a9fb1e2a92d5a5ce95b30ae", func := "transputer/transputerlaw34.NodeBoots", spec := "nodeBoots", inPlace := ["internal/bytealg.IndexByteString"], unfollowed := true, recurses := true, named := ["transputer/instr.functions", "strings.asciiSpace", "unicode.White_Space", "math/bits.overflowError"], plainKeys := false, apart := false, laid := [("unicode.White_Space", laid_unicode_White_Space), ("strings.asciiSpace", laid_strings_asciiSpace), ("transputer/instr.functions", laid_transputer_instr_functions)], narrowed := true }
def NodeBootsUptoSaid : Prop := nodeBootsUptoRow.holds Tryz.pinned (OpenSpec.upto nodeBootsSpec)

/-- 'transputerlaw34.NodeNone', WHERE WHAT IT READS IS OF BULK AT MOST 1048576: true; the input reads as it did. -/
def nodeNoneUptoRow : OpenClaim := { program := "ytjhbglklcddekaagreatdoor", sum := "aa980907a2ced4c2da4ab6e5ed7dc9150e316b307a9fb1e2a92d5a5ce95b30ae", func := "transputer/transputerlaw34.NodeNone", spec := "nodeNone", inPlace := ["internal/bytealg.IndexByteString"], unfollowed := true, recurses := true, named := ["transputer/instr.functions", "strings.asciiSpace", "unicode.White_Space", "math/bits.overflowError"], plainKeys := false, apart := false, laid := [("unicode.White_Space", laid_unicode_White_Space), ("strings.asciiSpace", laid_strings_asciiSpace), ("transputer/instr.functions", laid_transputer_instr_functions)], narrowed := true }
def NodeNoneUptoSaid : Prop := nodeNoneUptoRow.holds Tryz.pinned (OpenSpec.upto nodeNoneSpec)

/-- 'transputerlaw36.NetworkNone', WHERE WHAT IT READS IS OF BULK AT MOST 1048576: true; the input reads as it did. -/
def networkNoneUptoRow : OpenClaim := { program := "ytjhbglklcddekaagreatdoor", sum := "aa980907a2ced4c2da4ab6e5ed7dc9150e316b307a9fb1e2a92d5a5ce95b30ae", func := "transputer/transputerlaw36.NetworkNone", spec := "networkNone", inPlace := ["internal/bytealg.IndexByteString"], unfollowed := true, recurses := true, named := ["transputer/instr.functions", "strings.asciiSpace", "unicode.White_Space", "math/bits.overflowError"], plainKeys := false, apart := false, laid := [("unicode.White_Space", laid_unicode_White_Space), ("strings.asciiSpace", laid_strings_asciiSpace), ("transputer/instr.functions", laid_transputer_instr_functions)], narrowed := true }
def NetworkNoneUptoSaid : Prop := networkNoneUptoRow.holds Tryz.pinned (OpenSpec.upto networkNoneSpec)

/-- 'transputerlaw36.NetworkPeeks', WHERE WHAT IT READS IS OF BULK AT MOST 1048576: true; the input reads as it did. -/
def networkPeeksUptoRow : OpenClaim := { program := "ytjhbglklcddekaagreatdoor", sum := "aa980907a2ced4c2da4ab6e5ed7dc9150e316b307a9fb1e2a92d5a5ce95b30ae", func := "transputer/transputerlaw36.NetworkPeeks", spec := "networkPeeks", inPlace := ["internal/bytealg.IndexByteString"], unfollowed := true, recurses := true, named := ["transputer/instr.functions", "strings.asciiSpace", "unicode.White_Space", "math/bits.overflowError"], plainKeys := false, apart := false, laid := [("unicode.White_Space", laid_unicode_White_Space), ("strings.asciiSpace", laid_strings_asciiSpace), ("transputer/instr.functions", laid_transputer_instr_functions)], narrowed := true }
def NetworkPeeksUptoSaid : Prop := networkPeeksUptoRow.holds Tryz.pinned (OpenSpec.upto networkPeeksSpec)

end Rows
end Go.Proofs.YtjhbglklcddekaaGreatDoor
