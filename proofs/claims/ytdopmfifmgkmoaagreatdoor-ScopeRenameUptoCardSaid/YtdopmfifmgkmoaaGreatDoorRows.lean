/-
  NARROWER THAN 'FOR EVERY INPUT', by the rows' own cells (each row's printed sentence says how): ScopeFree: loops, laid · ScopeCheck: loops, laid · ScopeUnique: loops, laid · ScopeAlike: loops, laid · ScopeNames: loops, laid · ScopeNew: loops, laid · ScopeRename: loops, laid.
  DERIVED. THE GIVEN ROWS OF THIS SEAT. 7 by the template 'for every input the law returns true; each argument reads behind the call as it read before'; 0 by the template 'total and deterministic' (their statements: YtdopmfifmgkmoaaGreatDoorTotals.lean).
  GIVEN WITH THE SEED: the statements are not yours to turn. If you find one false, say at which input.
  Laid BY PROGRAM, IN A SANDBOX (cutbox-rows.mjs): the forced cells as the released guide's own fill.sh prints them over the translation c69e02bb893282df… (all of the seat's roots in one cut). By AI agents, Wed Nov 11 2026. No macro, syntax, notation, axiom, sorry.
-/
import Derived.Test.YtdopmfifmgkmoaaGreatDoorChecked
import GoSem.Claim
import GoSem.ClaimJoined
import GoSem.ClaimMapViews
import Derived.JoinedTies
import Derived.KernelRfl
namespace Go.Proofs.YtdopmfifmgkmoaaGreatDoor
/- THE CELL 'sum', in the pinned program and in every row, IS THE sha256 OF THE DUMP (.gsa) THAT YtdopmfifmgkmoaaGreatDoorProg.lean LOADS. Nothing in Lean hashes anything: it is a label: what it is worth is what the hold of that sum in a sandbox is worth. -/
noncomputable def Tryz.pinned : Pinned := { name := "ytdopmfifmgkmoaagreatdoor", sum := "c69e02bb893282dfbd9005c050d9055cad3af032034983debbb3d1a49f246f27", checked := Tryz.checked }
namespace Rows
def none {H : Type} : Left H := { results := [], args := [] }

/- WHAT THE LISTED PACKAGE-LEVEL VARIABLES READ AS WHEN THE CALL BEGINS. Each datum BY PROGRAM (the guide's laid-datum.mjs) off the statement by which the dump's own 'gosem.cut.vars' lays the variable. In a bare row this is a premise. The card (YtdopmfifmgkmoaaGreatDoorCards.lean) ties it to the program's text. -/
def laid_math_bits_deBruijn32tab {H : Type} : DataW H := .agg [.lit (.int .u8 0), .lit (.int .u8 1), .lit (.int .u8 28), .lit (.int .u8 2), .lit (.int .u8 29), .lit (.int .u8 14), .lit (.int .u8 24), .lit (.int .u8 3), .lit (.int .u8 30), .lit (.int .u8 22), .lit (.int .u8 20), .lit (.int .u8 15), .lit (.int .u8 25), .lit (.int .u8 17), .lit (.int .u8 4), .lit (.int .u8 8), .lit (.int .u8 31), .lit (.int .u8 27), .lit (.int .u8 13), .lit (.int .u8 23), .lit (.int .u8 21), .lit (.int .u8 19), .lit (.int .u8 16), .lit (.int .u8 7), .lit (.int .u8 26), .lit (.int .u8 12), .lit (.int .u8 18), .lit (.int .u8 6), .lit (.int .u8 11), .lit (.int .u8 5), .lit (.int .u8 10), .lit (.int .u8 9)]
def laid_math_bits_deBruijn64tab {H : Type} : DataW H := .agg [.lit (.int .u8 0), .lit (.int .u8 1), .lit (.int .u8 56), .lit (.int .u8 2), .lit (.int .u8 57), .lit (.int .u8 49), .lit (.int .u8 28), .lit (.int .u8 3), .lit (.int .u8 61), .lit (.int .u8 58), .lit (.int .u8 42), .lit (.int .u8 50), .lit (.int .u8 38), .lit (.int .u8 29), .lit (.int .u8 17), .lit (.int .u8 4), .lit (.int .u8 62), .lit (.int .u8 47), .lit (.int .u8 59), .lit (.int .u8 36), .lit (.int .u8 45), .lit (.int .u8 43), .lit (.int .u8 51), .lit (.int .u8 22), .lit (.int .u8 53), .lit (.int .u8 39), .lit (.int .u8 33), .lit (.int .u8 30), .lit (.int .u8 24), .lit (.int .u8 18), .lit (.int .u8 12), .lit (.int .u8 5), .lit (.int .u8 63), .lit (.int .u8 55), .lit (.int .u8 48), .lit (.int .u8 27), .lit (.int .u8 60), .lit (.int .u8 41), .lit (.int .u8 37), .lit (.int .u8 16), .lit (.int .u8 46), .lit (.int .u8 35), .lit (.int .u8 44), .lit (.int .u8 21), .lit (.int .u8 52), .lit (.int .u8 32), .lit (.int .u8 23), .lit (.int .u8 11), .lit (.int .u8 54), .lit (.int .u8 26), .lit (.int .u8 40), .lit (.int .u8 15), .lit (.int .u8 34), .lit (.int .u8 20), .lit (.int .u8 31), .lit (.int .u8 10), .lit (.int .u8 25), .lit (.int .u8 14), .lit (.int .u8 19), .lit (.int .u8 9), .lit (.int .u8 13), .lit (.int .u8 8), .lit (.int .u8 7), .lit (.int .u8 6)]
def laid_internal_strconv_uint64pow10 {H : Type} : DataW H := .agg [.lit (.int .u64 1), .lit (.int .u64 10), .lit (.int .u64 100), .lit (.int .u64 1000), .lit (.int .u64 10000), .lit (.int .u64 100000), .lit (.int .u64 1000000), .lit (.int .u64 10000000), .lit (.int .u64 100000000), .lit (.int .u64 1000000000), .lit (.int .u64 10000000000), .lit (.int .u64 100000000000), .lit (.int .u64 1000000000000), .lit (.int .u64 10000000000000), .lit (.int .u64 100000000000000), .lit (.int .u64 1000000000000000), .lit (.int .u64 10000000000000000), .lit (.int .u64 100000000000000000), .lit (.int .u64 1000000000000000000), .lit (.int .u64 10000000000000000000)]
def laid_transputer_types_primitive {H : Type} : DataW H := .agg [.agg [.lit (.int .u8 1), .lit (.string [73, 78, 84]), .lit (.int .i64 4)], .agg [.lit (.int .u8 2), .lit (.string [66, 89, 84, 69]), .lit (.int .i64 1)], .agg [.lit (.int .u8 3), .lit (.string [66, 79, 79, 76]), .lit (.int .i64 1)]]
def laid_transputer_syntax_one {H : Type} : DataW H := .agg [.lit (.int .i64 1), .lit (.int .i64 1)]
def laid_transputer_syntax_some {H : Type} : DataW H := .agg [.lit (.int .i64 1), .lit (.int .i64 8)]
def laid_transputer_syntax_all {H : Type} : DataW H := .agg [.lit (.int .i64 0), .lit (.int .i64 2048)]

/-- 'transputerlaw12.ScopeFree': WHATEVER THE INPUT: true; the input reads as it did. -/
def scopeFreeSpec : ChangeSpec := { name := "scopeFree", fn := fun _ => fun
  | [d] => { results := [.lit (.bool true)], args := [d] }
  | _ => none }
def scopeFreeRow : OpenClaim := { program := "ytdopmfifmgkmoaagreatdoor", sum := "c69e02bb893282dfbd9005c050d9055cad3af032034983debbb3d1a49f246f27", func := "transputer/transputerlaw12.ScopeFree", spec := "scopeFree", inPlace := ["internal/bytealg.IndexByteString", "internal/bytealg.IndexString"], unfollowed := true, recurses := true, named := ["transputer/syntax.all", "transputer/syntax.one", "transputer/syntax.some", "internal/bytealg.MaxLen", "transputer/types.primitive", "internal/strconv.uint64pow10", "math/bits.deBruijn32tab", "math/bits.deBruijn64tab"], loops := true, apart := false, laid := [("math/bits.deBruijn32tab", laid_math_bits_deBruijn32tab), ("math/bits.deBruijn64tab", laid_math_bits_deBruijn64tab), ("internal/strconv.uint64pow10", laid_internal_strconv_uint64pow10), ("transputer/types.primitive", laid_transputer_types_primitive), ("transputer/syntax.one", laid_transputer_syntax_one), ("transputer/syntax.some", laid_transputer_syntax_some), ("transputer/syntax.all", laid_transputer_syntax_all)] }
def ScopeFreeSaid : Prop := scopeFreeRow.holds Tryz.pinned (OpenSpec.ofChange scopeFreeSpec)

/-- ITS FALSE NEIGHBOUR: 'it returns false'. Refute it at one input. -/
def scopeFreeWrong : ChangeSpec := { name := "scopeFree", fn := fun _ => fun
  | [d] => { results := [.lit (.bool false)], args := [d] }
  | _ => none }
def ScopeFreeWrongFalsely : Prop := scopeFreeRow.holds Tryz.pinned (OpenSpec.ofChange scopeFreeWrong)

/-- 'transputerlaw12.ScopeCheck': WHATEVER THE INPUT: true; the input reads as it did. -/
def scopeCheckSpec : ChangeSpec := { name := "scopeCheck", fn := fun _ => fun
  | [d1, d2] => { results := [.lit (.bool true)], args := [d1, d2] }
  | _ => none }
def scopeCheckRow : OpenClaim := { program := "ytdopmfifmgkmoaagreatdoor", sum := "c69e02bb893282dfbd9005c050d9055cad3af032034983debbb3d1a49f246f27", func := "transputer/transputerlaw12.ScopeCheck", spec := "scopeCheck", inPlace := ["internal/bytealg.IndexByteString", "internal/bytealg.IndexString"], unfollowed := true, recurses := true, named := ["transputer/syntax.all", "transputer/syntax.one", "transputer/syntax.some", "internal/bytealg.MaxLen", "transputer/types.primitive", "internal/strconv.uint64pow10", "math/bits.deBruijn32tab", "math/bits.deBruijn64tab"], loops := true, apart := false, laid := [("math/bits.deBruijn32tab", laid_math_bits_deBruijn32tab), ("math/bits.deBruijn64tab", laid_math_bits_deBruijn64tab), ("internal/strconv.uint64pow10", laid_internal_strconv_uint64pow10), ("transputer/types.primitive", laid_transputer_types_primitive), ("transputer/syntax.one", laid_transputer_syntax_one), ("transputer/syntax.some", laid_transputer_syntax_some), ("transputer/syntax.all", laid_transputer_syntax_all)] }
def ScopeCheckSaid : Prop := scopeCheckRow.holds Tryz.pinned (OpenSpec.ofChange scopeCheckSpec)

/-- ITS FALSE NEIGHBOUR: 'it returns false'. Refute it at one input. -/
def scopeCheckWrong : ChangeSpec := { name := "scopeCheck", fn := fun _ => fun
  | [d1, d2] => { results := [.lit (.bool false)], args := [d1, d2] }
  | _ => none }
def ScopeCheckWrongFalsely : Prop := scopeCheckRow.holds Tryz.pinned (OpenSpec.ofChange scopeCheckWrong)

/-- 'transputerlaw12.ScopeUnique': WHATEVER THE INPUT: true; the input reads as it did. -/
def scopeUniqueSpec : ChangeSpec := { name := "scopeUnique", fn := fun _ => fun
  | [d] => { results := [.lit (.bool true)], args := [d] }
  | _ => none }
def scopeUniqueRow : OpenClaim := { program := "ytdopmfifmgkmoaagreatdoor", sum := "c69e02bb893282dfbd9005c050d9055cad3af032034983debbb3d1a49f246f27", func := "transputer/transputerlaw12.ScopeUnique", spec := "scopeUnique", inPlace := ["internal/bytealg.IndexByteString", "internal/bytealg.IndexString"], unfollowed := true, recurses := true, named := ["transputer/syntax.all", "transputer/syntax.one", "transputer/syntax.some", "internal/bytealg.MaxLen", "transputer/types.primitive", "internal/strconv.uint64pow10", "math/bits.deBruijn32tab", "math/bits.deBruijn64tab"], loops := true, apart := false, laid := [("math/bits.deBruijn32tab", laid_math_bits_deBruijn32tab), ("math/bits.deBruijn64tab", laid_math_bits_deBruijn64tab), ("internal/strconv.uint64pow10", laid_internal_strconv_uint64pow10), ("transputer/types.primitive", laid_transputer_types_primitive), ("transputer/syntax.one", laid_transputer_syntax_one), ("transputer/syntax.some", laid_transputer_syntax_some), ("transputer/syntax.all", laid_transputer_syntax_all)] }
def ScopeUniqueSaid : Prop := scopeUniqueRow.holds Tryz.pinned (OpenSpec.ofChange scopeUniqueSpec)

/-- ITS FALSE NEIGHBOUR: 'it returns false'. Refute it at one input. -/
def scopeUniqueWrong : ChangeSpec := { name := "scopeUnique", fn := fun _ => fun
  | [d] => { results := [.lit (.bool false)], args := [d] }
  | _ => none }
def ScopeUniqueWrongFalsely : Prop := scopeUniqueRow.holds Tryz.pinned (OpenSpec.ofChange scopeUniqueWrong)

/-- 'transputerlaw12.ScopeAlike': WHATEVER THE INPUT: true; the input reads as it did. -/
def scopeAlikeSpec : ChangeSpec := { name := "scopeAlike", fn := fun _ => fun
  | [d1, d2] => { results := [.lit (.bool true)], args := [d1, d2] }
  | _ => none }
def scopeAlikeRow : OpenClaim := { program := "ytdopmfifmgkmoaagreatdoor", sum := "c69e02bb893282dfbd9005c050d9055cad3af032034983debbb3d1a49f246f27", func := "transputer/transputerlaw12.ScopeAlike", spec := "scopeAlike", inPlace := ["internal/bytealg.IndexByteString", "internal/bytealg.IndexString"], unfollowed := true, recurses := true, named := ["transputer/syntax.all", "transputer/syntax.one", "transputer/syntax.some", "internal/bytealg.MaxLen", "transputer/types.primitive", "internal/strconv.uint64pow10", "math/bits.deBruijn32tab", "math/bits.deBruijn64tab"], loops := true, apart := false, laid := [("math/bits.deBruijn32tab", laid_math_bits_deBruijn32tab), ("math/bits.deBruijn64tab", laid_math_bits_deBruijn64tab), ("internal/strconv.uint64pow10", laid_internal_strconv_uint64pow10), ("transputer/types.primitive", laid_transputer_types_primitive), ("transputer/syntax.one", laid_transputer_syntax_one), ("transputer/syntax.some", laid_transputer_syntax_some), ("transputer/syntax.all", laid_transputer_syntax_all)] }
def ScopeAlikeSaid : Prop := scopeAlikeRow.holds Tryz.pinned (OpenSpec.ofChange scopeAlikeSpec)

/-- ITS FALSE NEIGHBOUR: 'it returns false'. Refute it at one input. -/
def scopeAlikeWrong : ChangeSpec := { name := "scopeAlike", fn := fun _ => fun
  | [d1, d2] => { results := [.lit (.bool false)], args := [d1, d2] }
  | _ => none }
def ScopeAlikeWrongFalsely : Prop := scopeAlikeRow.holds Tryz.pinned (OpenSpec.ofChange scopeAlikeWrong)

/-- 'transputerlaw12.ScopeNames': WHATEVER THE INPUT: true; the input reads as it did. -/
def scopeNamesSpec : ChangeSpec := { name := "scopeNames", fn := fun _ => fun
  | [d1, d2] => { results := [.lit (.bool true)], args := [d1, d2] }
  | _ => none }
def scopeNamesRow : OpenClaim := { program := "ytdopmfifmgkmoaagreatdoor", sum := "c69e02bb893282dfbd9005c050d9055cad3af032034983debbb3d1a49f246f27", func := "transputer/transputerlaw12.ScopeNames", spec := "scopeNames", inPlace := ["internal/bytealg.IndexByteString", "internal/bytealg.IndexString"], unfollowed := true, recurses := true, named := ["transputer/syntax.all", "transputer/syntax.one", "transputer/syntax.some", "internal/bytealg.MaxLen", "transputer/types.primitive", "internal/strconv.uint64pow10", "math/bits.deBruijn32tab", "math/bits.deBruijn64tab"], loops := true, apart := false, laid := [("math/bits.deBruijn32tab", laid_math_bits_deBruijn32tab), ("math/bits.deBruijn64tab", laid_math_bits_deBruijn64tab), ("internal/strconv.uint64pow10", laid_internal_strconv_uint64pow10), ("transputer/types.primitive", laid_transputer_types_primitive), ("transputer/syntax.one", laid_transputer_syntax_one), ("transputer/syntax.some", laid_transputer_syntax_some), ("transputer/syntax.all", laid_transputer_syntax_all)] }
def ScopeNamesSaid : Prop := scopeNamesRow.holds Tryz.pinned (OpenSpec.ofChange scopeNamesSpec)

/-- ITS FALSE NEIGHBOUR: 'it returns false'. Refute it at one input. -/
def scopeNamesWrong : ChangeSpec := { name := "scopeNames", fn := fun _ => fun
  | [d1, d2] => { results := [.lit (.bool false)], args := [d1, d2] }
  | _ => none }
def ScopeNamesWrongFalsely : Prop := scopeNamesRow.holds Tryz.pinned (OpenSpec.ofChange scopeNamesWrong)

/-- 'transputerlaw12.ScopeNew': WHATEVER THE INPUT: true; the input reads as it did. -/
def scopeNewSpec : ChangeSpec := { name := "scopeNew", fn := fun _ => fun
  | [d] => { results := [.lit (.bool true)], args := [d] }
  | _ => none }
def scopeNewRow : OpenClaim := { program := "ytdopmfifmgkmoaagreatdoor", sum := "c69e02bb893282dfbd9005c050d9055cad3af032034983debbb3d1a49f246f27", func := "transputer/transputerlaw12.ScopeNew", spec := "scopeNew", inPlace := ["internal/bytealg.IndexByteString", "internal/bytealg.IndexString"], unfollowed := true, recurses := true, named := ["transputer/syntax.all", "transputer/syntax.one", "transputer/syntax.some", "internal/bytealg.MaxLen", "transputer/types.primitive", "internal/strconv.uint64pow10", "math/bits.deBruijn32tab", "math/bits.deBruijn64tab"], loops := true, apart := false, laid := [("math/bits.deBruijn32tab", laid_math_bits_deBruijn32tab), ("math/bits.deBruijn64tab", laid_math_bits_deBruijn64tab), ("internal/strconv.uint64pow10", laid_internal_strconv_uint64pow10), ("transputer/types.primitive", laid_transputer_types_primitive), ("transputer/syntax.one", laid_transputer_syntax_one), ("transputer/syntax.some", laid_transputer_syntax_some), ("transputer/syntax.all", laid_transputer_syntax_all)] }
def ScopeNewSaid : Prop := scopeNewRow.holds Tryz.pinned (OpenSpec.ofChange scopeNewSpec)

/-- ITS FALSE NEIGHBOUR: 'it returns false'. Refute it at one input. -/
def scopeNewWrong : ChangeSpec := { name := "scopeNew", fn := fun _ => fun
  | [d] => { results := [.lit (.bool false)], args := [d] }
  | _ => none }
def ScopeNewWrongFalsely : Prop := scopeNewRow.holds Tryz.pinned (OpenSpec.ofChange scopeNewWrong)

/-- 'transputerlaw12.ScopeRename': WHATEVER THE INPUT: true; the input reads as it did. -/
def scopeRenameSpec : ChangeSpec := { name := "scopeRename", fn := fun _ => fun
  | [d1, d2] => { results := [.lit (.bool true)], args := [d1, d2] }
  | _ => none }
def scopeRenameRow : OpenClaim := { program := "ytdopmfifmgkmoaagreatdoor", sum := "c69e02bb893282dfbd9005c050d9055cad3af032034983debbb3d1a49f246f27", func := "transputer/transputerlaw12.ScopeRename", spec := "scopeRename", inPlace := ["internal/bytealg.IndexByteString", "internal/bytealg.IndexString"], unfollowed := true, recurses := true, named := ["transputer/syntax.all", "transputer/syntax.one", "transputer/syntax.some", "internal/bytealg.MaxLen", "transputer/types.primitive", "internal/strconv.uint64pow10", "math/bits.deBruijn32tab", "math/bits.deBruijn64tab"], loops := true, apart := false, laid := [("math/bits.deBruijn32tab", laid_math_bits_deBruijn32tab), ("math/bits.deBruijn64tab", laid_math_bits_deBruijn64tab), ("internal/strconv.uint64pow10", laid_internal_strconv_uint64pow10), ("transputer/types.primitive", laid_transputer_types_primitive), ("transputer/syntax.one", laid_transputer_syntax_one), ("transputer/syntax.some", laid_transputer_syntax_some), ("transputer/syntax.all", laid_transputer_syntax_all)] }
def ScopeRenameSaid : Prop := scopeRenameRow.holds Tryz.pinned (OpenSpec.ofChange scopeRenameSpec)

/-- ITS FALSE NEIGHBOUR: 'it returns false'. Refute it at one input. -/
def scopeRenameWrong : ChangeSpec := { name := "scopeRename", fn := fun _ => fun
  | [d1, d2] => { results := [.lit (.bool false)], args := [d1, d2] }
  | _ => none }
def ScopeRenameWrongFalsely : Prop := scopeRenameRow.holds Tryz.pinned (OpenSpec.ofChange scopeRenameWrong)

/- THE SECOND FORM. 'bulk': how many values and letters a reading holds, each counted each time it is reached (what is shared counts as often as it is met; a slice's spare places count too). A statement '..UptoSaid' is the law's where the arguments, and the package variables that the reading takes, are together of bulk at most 1048576: NARROWER than '..Said'. Prove '..Said' where nothing that the law and all that it calls make is longer than what came in: it says more and counts as full. Else prove '..UptoSaid'. A law counts once. -/
mutual
def uptoBulk {H : Type} : DataW H → Nat
  | .lit (.string bytes) => bytes.length + 1
  | .lit _ => 1
  | .nil => 1
  | .ptr d => uptoBulk d + 1
  | .slice elems spare => uptoBulkAll elems + uptoBulkAll spare + 1
  | .agg parts => uptoBulkAll parts + 1
  | .iface _ d => uptoBulk d + 1
  | .map entries => uptoBulkEntries entries + 1
  | .held _ => 1
def uptoBulkAll {H : Type} : List (DataW H) → Nat
  | [] => 0
  | d :: r => uptoBulk d + uptoBulkAll r
def uptoBulkEntries {H : Type} : List (Lit × DataW H) → Nat
  | [] => 0
  | x :: r => uptoBulkEntry x + uptoBulkEntries r
def uptoBulkEntry {H : Type} : Lit × DataW H → Nat
  | (.string bytes, d) => bytes.length + uptoBulk d + 1
  | (_, d) => uptoBulk d + 1
 end
def uptoSmall : (H : Type) → List (DataW H) → Bool := fun _ ds => decide (uptoBulkAll ds ≤ 1048576)
def OpenSpec.upto (s : _root_.Go.ChangeSpec) : _root_.Go.OpenSpec := { _root_.Go.OpenSpec.ofChange s with cond := some uptoSmall }

/-- 'transputerlaw12.ScopeFree', WHERE WHAT IT READS IS OF BULK AT MOST 1048576: true; the input reads as it did. -/
def scopeFreeUptoRow : OpenClaim := { program := "ytdopmfifmgkmoaagreatdoor", sum := "c69e02bb893282dfbd9005c050d9055cad3af032034983debbb3d1a49f246f27", func := "transputer/transputerlaw12.ScopeFree", spec := "scopeFree", inPlace := ["internal/bytealg.IndexByteString", "internal/bytealg.IndexString"], unfollowed := true, recurses := true, named := ["transputer/syntax.all", "transputer/syntax.one", "transputer/syntax.some", "internal/bytealg.MaxLen", "transputer/types.primitive", "internal/strconv.uint64pow10", "math/bits.deBruijn32tab", "math/bits.deBruijn64tab"], loops := true, apart := false, laid := [("math/bits.deBruijn32tab", laid_math_bits_deBruijn32tab), ("math/bits.deBruijn64tab", laid_math_bits_deBruijn64tab), ("internal/strconv.uint64pow10", laid_internal_strconv_uint64pow10), ("transputer/types.primitive", laid_transputer_types_primitive), ("transputer/syntax.one", laid_transputer_syntax_one), ("transputer/syntax.some", laid_transputer_syntax_some), ("transputer/syntax.all", laid_transputer_syntax_all)], narrowed := true }
def ScopeFreeUptoSaid : Prop := scopeFreeUptoRow.holds Tryz.pinned (OpenSpec.upto scopeFreeSpec)

/-- 'transputerlaw12.ScopeCheck', WHERE WHAT IT READS IS OF BULK AT MOST 1048576: true; the input reads as it did. -/
def scopeCheckUptoRow : OpenClaim := { program := "ytdopmfifmgkmoaagreatdoor", sum := "c69e02bb893282dfbd9005c050d9055cad3af032034983debbb3d1a49f246f27", func := "transputer/transputerlaw12.ScopeCheck", spec := "scopeCheck", inPlace := ["internal/bytealg.IndexByteString", "internal/bytealg.IndexString"], unfollowed := true, recurses := true, named := ["transputer/syntax.all", "transputer/syntax.one", "transputer/syntax.some", "internal/bytealg.MaxLen", "transputer/types.primitive", "internal/strconv.uint64pow10", "math/bits.deBruijn32tab", "math/bits.deBruijn64tab"], loops := true, apart := false, laid := [("math/bits.deBruijn32tab", laid_math_bits_deBruijn32tab), ("math/bits.deBruijn64tab", laid_math_bits_deBruijn64tab), ("internal/strconv.uint64pow10", laid_internal_strconv_uint64pow10), ("transputer/types.primitive", laid_transputer_types_primitive), ("transputer/syntax.one", laid_transputer_syntax_one), ("transputer/syntax.some", laid_transputer_syntax_some), ("transputer/syntax.all", laid_transputer_syntax_all)], narrowed := true }
def ScopeCheckUptoSaid : Prop := scopeCheckUptoRow.holds Tryz.pinned (OpenSpec.upto scopeCheckSpec)

/-- 'transputerlaw12.ScopeUnique', WHERE WHAT IT READS IS OF BULK AT MOST 1048576: true; the input reads as it did. -/
def scopeUniqueUptoRow : OpenClaim := { program := "ytdopmfifmgkmoaagreatdoor", sum := "c69e02bb893282dfbd9005c050d9055cad3af032034983debbb3d1a49f246f27", func := "transputer/transputerlaw12.ScopeUnique", spec := "scopeUnique", inPlace := ["internal/bytealg.IndexByteString", "internal/bytealg.IndexString"], unfollowed := true, recurses := true, named := ["transputer/syntax.all", "transputer/syntax.one", "transputer/syntax.some", "internal/bytealg.MaxLen", "transputer/types.primitive", "internal/strconv.uint64pow10", "math/bits.deBruijn32tab", "math/bits.deBruijn64tab"], loops := true, apart := false, laid := [("math/bits.deBruijn32tab", laid_math_bits_deBruijn32tab), ("math/bits.deBruijn64tab", laid_math_bits_deBruijn64tab), ("internal/strconv.uint64pow10", laid_internal_strconv_uint64pow10), ("transputer/types.primitive", laid_transputer_types_primitive), ("transputer/syntax.one", laid_transputer_syntax_one), ("transputer/syntax.some", laid_transputer_syntax_some), ("transputer/syntax.all", laid_transputer_syntax_all)], narrowed := true }
def ScopeUniqueUptoSaid : Prop := scopeUniqueUptoRow.holds Tryz.pinned (OpenSpec.upto scopeUniqueSpec)

/-- 'transputerlaw12.ScopeAlike', WHERE WHAT IT READS IS OF BULK AT MOST 1048576: true; the input reads as it did. -/
def scopeAlikeUptoRow : OpenClaim := { program := "ytdopmfifmgkmoaagreatdoor", sum := "c69e02bb893282dfbd9005c050d9055cad3af032034983debbb3d1a49f246f27", func := "transputer/transputerlaw12.ScopeAlike", spec := "scopeAlike", inPlace := ["internal/bytealg.IndexByteString", "internal/bytealg.IndexString"], unfollowed := true, recurses := true, named := ["transputer/syntax.all", "transputer/syntax.one", "transputer/syntax.some", "internal/bytealg.MaxLen", "transputer/types.primitive", "internal/strconv.uint64pow10", "math/bits.deBruijn32tab", "math/bits.deBruijn64tab"], loops := true, apart := false, laid := [("math/bits.deBruijn32tab", laid_math_bits_deBruijn32tab), ("math/bits.deBruijn64tab", laid_math_bits_deBruijn64tab), ("internal/strconv.uint64pow10", laid_internal_strconv_uint64pow10), ("transputer/types.primitive", laid_transputer_types_primitive), ("transputer/syntax.one", laid_transputer_syntax_one), ("transputer/syntax.some", laid_transputer_syntax_some), ("transputer/syntax.all", laid_transputer_syntax_all)], narrowed := true }
def ScopeAlikeUptoSaid : Prop := scopeAlikeUptoRow.holds Tryz.pinned (OpenSpec.upto scopeAlikeSpec)

/-- 'transputerlaw12.ScopeNames', WHERE WHAT IT READS IS OF BULK AT MOST 1048576: true; the input reads as it did. -/
def scopeNamesUptoRow : OpenClaim := { program := "ytdopmfifmgkmoaagreatdoor", sum := "c69e02bb893282dfbd9005c050d9055cad3af032034983debbb3d1a49f246f27", func := "transputer/transputerlaw12.ScopeNames", spec := "scopeNames", inPlace := ["internal/bytealg.IndexByteString", "internal/bytealg.IndexString"], unfollowed := true, recurses := true, named := ["transputer/syntax.all", "transputer/syntax.one", "transputer/syntax.some", "internal/bytealg.MaxLen", "transputer/types.primitive", "internal/strconv.uint64pow10", "math/bits.deBruijn32tab", "math/bits.deBruijn64tab"], loops := true, apart := false, laid := [("math/bits.deBruijn32tab", laid_math_bits_deBruijn32tab), ("math/bits.deBruijn64tab", laid_math_bits_deBruijn64tab), ("internal/strconv.uint64pow10", laid_internal_strconv_uint64pow10), ("transputer/types.primitive", laid_transputer_types_primitive), ("transputer/syntax.one", laid_transputer_syntax_one), ("transputer/syntax.some", laid_transputer_syntax_some), ("transputer/syntax.all", laid_transputer_syntax_all)], narrowed := true }
def ScopeNamesUptoSaid : Prop := scopeNamesUptoRow.holds Tryz.pinned (OpenSpec.upto scopeNamesSpec)

/-- 'transputerlaw12.ScopeNew', WHERE WHAT IT READS IS OF BULK AT MOST 1048576: true; the input reads as it did. -/
def scopeNewUptoRow : OpenClaim := { program := "ytdopmfifmgkmoaagreatdoor", sum := "c69e02bb893282dfbd9005c050d9055cad3af032034983debbb3d1a49f246f27", func := "transputer/transputerlaw12.ScopeNew", spec := "scopeNew", inPlace := ["internal/bytealg.IndexByteString", "internal/bytealg.IndexString"], unfollowed := true, recurses := true, named := ["transputer/syntax.all", "transputer/syntax.one", "transputer/syntax.some", "internal/bytealg.MaxLen", "transputer/types.primitive", "internal/strconv.uint64pow10", "math/bits.deBruijn32tab", "math/bits.deBruijn64tab"], loops := true, apart := false, laid := [("math/bits.deBruijn32tab", laid_math_bits_deBruijn32tab), ("math/bits.deBruijn64tab", laid_math_bits_deBruijn64tab), ("internal/strconv.uint64pow10", laid_internal_strconv_uint64pow10), ("transputer/types.primitive", laid_transputer_types_primitive), ("transputer/syntax.one", laid_transputer_syntax_one), ("transputer/syntax.some", laid_transputer_syntax_some), ("transputer/syntax.all", laid_transputer_syntax_all)], narrowed := true }
def ScopeNewUptoSaid : Prop := scopeNewUptoRow.holds Tryz.pinned (OpenSpec.upto scopeNewSpec)

/-- 'transputerlaw12.ScopeRename', WHERE WHAT IT READS IS OF BULK AT MOST 1048576: true; the input reads as it did. -/
def scopeRenameUptoRow : OpenClaim := { program := "ytdopmfifmgkmoaagreatdoor", sum := "c69e02bb893282dfbd9005c050d9055cad3af032034983debbb3d1a49f246f27", func := "transputer/transputerlaw12.ScopeRename", spec := "scopeRename", inPlace := ["internal/bytealg.IndexByteString", "internal/bytealg.IndexString"], unfollowed := true, recurses := true, named := ["transputer/syntax.all", "transputer/syntax.one", "transputer/syntax.some", "internal/bytealg.MaxLen", "transputer/types.primitive", "internal/strconv.uint64pow10", "math/bits.deBruijn32tab", "math/bits.deBruijn64tab"], loops := true, apart := false, laid := [("math/bits.deBruijn32tab", laid_math_bits_deBruijn32tab), ("math/bits.deBruijn64tab", laid_math_bits_deBruijn64tab), ("internal/strconv.uint64pow10", laid_internal_strconv_uint64pow10), ("transputer/types.primitive", laid_transputer_types_primitive), ("transputer/syntax.one", laid_transputer_syntax_one), ("transputer/syntax.some", laid_transputer_syntax_some), ("transputer/syntax.all", laid_transputer_syntax_all)], narrowed := true }
def ScopeRenameUptoSaid : Prop := scopeRenameUptoRow.holds Tryz.pinned (OpenSpec.upto scopeRenameSpec)

end Rows
end Go.Proofs.YtdopmfifmgkmoaaGreatDoor
