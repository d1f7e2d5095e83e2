/- Parts: IPlain, IPlain2, IPlain3, To, G1, G2, G8. -/
import Derived.Lib.Bytealg
import Derived.Lib.Fields
import Derived.Test.YtcblefmjacofgaaGreatDoorA4
set_option linter.all false
set_option linter.unusedVariables false
set_option linter.unusedSimpArgs false
namespace Go.Proofs.YtcblefmjacofgaaGreatDoor.I
def hexB : List UInt8 := [48, 49, 50, 51, 52, 53, 54, 55, 56, 57, 65, 66, 67, 68, 69, 70]
def digit (c : UInt8) : Int := Lib.indexByte hexB c
def opsB : List UInt8 := [10, 48, 48, 32, 114, 101, 118, 32, 50, 50, 32, 32, 48, 49, 32, 108, 98, 32, 49, 49, 32, 32, 48, 50, 32, 98, 115, 117, 98, 32, 50, 49, 32, 32, 48, 51, 32, 101, 110, 100, 112, 32, 49, 48, 32, 32, 48, 52, 32, 100, 105, 102, 102, 32, 50, 49, 32, 32, 48, 53, 32, 97, 100, 100, 32, 50, 49, 32, 32, 48, 54, 32, 103, 99, 97, 108, 108, 32, 49, 49, 32, 32, 48, 55, 32, 105, 110, 32, 51, 48, 32, 32, 48, 56, 32, 112, 114, 111, 100, 32, 50, 49, 10, 48, 57, 32, 103, 116, 32, 50, 49, 32, 32, 48, 65, 32, 119, 115, 117, 98, 32, 50, 49, 32, 32, 48, 66, 32, 111, 117, 116, 32, 51, 48, 32, 32, 48, 67, 32, 115, 117, 98, 32, 50, 49, 32, 32, 48, 68, 32, 115, 116, 97, 114, 116, 112, 32, 50, 48, 32, 32, 48, 69, 32, 111, 117, 116, 98, 121, 116, 101, 32, 50, 48, 32, 32, 48, 70, 32, 111, 117, 116, 119, 111, 114, 100, 32, 50, 48, 32, 32, 49, 48, 32, 115, 101, 116, 101, 114, 114, 32, 48, 48, 10, 49, 50, 32, 114, 101, 115, 101, 116, 99, 104, 32, 49, 49, 32, 32, 49, 51, 32, 99, 115, 117, 98, 48, 32, 50, 49, 32, 32, 49, 53, 32, 115, 116, 111, 112, 112, 32, 48, 48, 32, 32, 49, 54, 32, 108, 97, 100, 100, 32, 51, 49, 32, 32, 49, 57, 32, 110, 111, 114, 109, 32, 50, 51, 32, 32, 49, 65, 32, 108, 100, 105, 118, 32, 51, 50, 32, 32, 49, 66, 32, 108, 100, 112, 105, 32, 49, 49, 32, 32, 49, 68, 32, 120, 100, 98, 108, 101, 32, 49, 50, 10, 49, 69, 32, 108, 100, 112, 114, 105, 32, 48, 49, 32, 32, 49, 70, 32, 114, 101, 109, 32, 50, 49, 32, 32, 50, 48, 32, 114, 101, 116, 32, 48, 48, 32, 32, 50, 49, 32, 108, 101, 110, 100, 32, 50, 48, 32, 32, 50, 50, 32, 108, 100, 116, 105, 109, 101, 114, 32, 48, 49, 32, 32, 50, 57, 32, 116, 101, 115, 116, 101, 114, 114, 32, 48, 49, 32, 32, 50, 66, 32, 116, 105, 110, 32, 49, 48, 32, 32, 50, 67, 32, 100, 105, 118, 32, 50, 49, 10, 50, 69, 32, 100, 105, 115, 116, 32, 51, 49, 32, 32, 50, 70, 32, 100, 105, 115, 99, 32, 51, 49, 32, 32, 51, 48, 32, 100, 105, 115, 115, 32, 50, 49, 32, 32, 51, 49, 32, 108, 109, 117, 108, 32, 51, 50, 32, 32, 51, 50, 32, 110, 111, 116, 32, 49, 49, 32, 32, 51, 51, 32, 120, 111, 114, 32, 50, 49, 32, 32, 51, 52, 32, 98, 99, 110, 116, 32, 49, 49, 32, 32, 51, 53, 32, 108, 115, 104, 114, 32, 51, 50, 32, 32, 51, 54, 32, 108, 115, 104, 108, 32, 51, 50, 10, 51, 55, 32, 108, 115, 117, 109, 32, 51, 50, 32, 32, 51, 56, 32, 108, 115, 117, 98, 32, 51, 49, 32, 32, 51, 57, 32, 114, 117, 110, 112, 32, 49, 48, 32, 32, 51, 65, 32, 120, 119, 111, 114, 100, 32, 50, 49, 32, 32, 51, 66, 32, 115, 98, 32, 50, 48, 32, 32, 51, 67, 32, 103, 97, 106, 119, 32, 49, 49, 32, 32, 51, 70, 32, 119, 99, 110, 116, 32, 49, 50, 32, 32, 52, 48, 32, 115, 104, 114, 32, 50, 49, 32, 32, 52, 49, 32, 115, 104, 108, 32, 50, 49, 10, 52, 50, 32, 109, 105, 110, 116, 32, 48, 49, 32, 32, 52, 51, 32, 97, 108, 116, 32, 48, 48, 32, 32, 52, 52, 32, 97, 108, 116, 119, 116, 32, 48, 48, 32, 32, 52, 53, 32, 97, 108, 116, 101, 110, 100, 32, 48, 48, 32, 32, 52, 54, 32, 97, 110, 100, 32, 50, 49, 32, 32, 52, 55, 32, 101, 110, 98, 116, 32, 50, 49, 32, 32, 52, 56, 32, 101, 110, 98, 99, 32, 50, 49, 32, 32, 52, 57, 32, 101, 110, 98, 115, 32, 49, 49, 32, 32, 52, 65, 32, 109, 111, 118, 101, 32, 51, 48, 10, 52, 66, 32, 111, 114, 32, 50, 49, 32, 32, 52, 67, 32, 99, 115, 110, 103, 108, 32, 50, 49, 32, 32, 52, 68, 32, 99, 99, 110, 116, 49, 32, 50, 49, 32, 32, 52, 69, 32, 116, 97, 108, 116, 32, 48, 48, 32, 32, 52, 70, 32, 108, 100, 105, 102, 102, 32, 51, 50, 32, 32, 53, 49, 32, 116, 97, 108, 116, 119, 116, 32, 48, 48, 32, 32, 53, 50, 32, 115, 117, 109, 32, 50, 49, 32, 32, 53, 51, 32, 109, 117, 108, 32, 50, 49, 10, 53, 52, 32, 115, 116, 116, 105, 109, 101, 114, 32, 49, 48, 32, 32, 53, 53, 32, 115, 116, 111, 112, 101, 114, 114, 32, 48, 48, 32, 32, 53, 54, 32, 99, 119, 111, 114, 100, 32, 50, 49, 32, 32, 53, 55, 32, 99, 108, 114, 104, 97, 108, 116, 101, 114, 114, 32, 48, 48, 32, 32, 53, 56, 32, 115, 101, 116, 104, 97, 108, 116, 101, 114, 114, 32, 48, 48, 32, 32, 53, 57, 32, 116, 101, 115, 116, 104, 97, 108, 116, 101, 114, 114, 32, 48, 49, 10]
def words : List (List UInt8) := Lib.fields opsB
def usesB : List UInt8 := [48, 48, 32, 48, 49, 32, 46, 46, 32, 49, 49, 32, 48, 49, 32, 49, 49, 32, 46, 46, 32, 48, 49, 32, 49, 49, 32, 51, 49, 32, 49, 48, 32, 48, 48, 32, 49, 49, 32, 49, 48, 32, 50, 48]
def fns : List (List UInt8) := [[106], [108, 100, 108, 112], [], [108, 100, 110, 108], [108, 100, 99], [108, 100, 110, 108, 112], [], [108, 100, 108], [97, 100, 99], [99, 97, 108, 108], [99, 106], [97, 106, 119], [101, 113, 99], [115, 116, 108], [115, 116, 110, 108], []]
structure Row where
  code : Int
  name : List UInt8
  takes : Int
  leaves : Int
  deriving DecidableEq, Inhabited
def row (a b c : List UInt8) : Row := ⟨16 * digit (a.getD 0 0) + digit (a.getD 1 0), b, digit (c.getD 0 0), digit (c.getD 1 0)⟩
def rowAt (k : Nat) : Row := row (words.getD (3 * k) []) (words.getD (3 * k + 1) []) (words.getD (3 * k + 2) [])
def nRows : Nat := 74
def rows : List Row := (List.range nRows).map rowAt
set_option maxRecDepth 100000 in
theorem words_length : words.length = 3 * nRows := by decide +kernel
def twoAt (k : Nat) : Bool := (words.getD (3 * k) []).length == 2 && (words.getD (3 * k + 2) []).length == 2
set_option maxRecDepth 100000 in
theorem two_all : (List.range nRows).all twoAt = true := by decide +kernel
theorem two_at {k : Nat} (h : k < nRows) : (words.getD (3 * k) []).length = 2 ∧ (words.getD (3 * k + 2) []).length = 2 := by
  have := List.all_eq_true.1 two_all k (List.mem_range.2 h)
  simpa [twoAt] using this
def ascii : Bool := opsB.all fun b => decide (b.toNat < 128)
set_option maxRecDepth 100000 in
theorem ops_ascii : ascii = true := by decide +kernel
theorem indexByte_ge (l : List UInt8) (c : UInt8) : -1 ≤ Lib.indexByte l c ∧ Lib.indexByte l c < l.length := by
  induction l with
  | nil => simp [Lib.indexByte]
  | cons x l ih =>
    simp only [Lib.indexByte, List.length_cons]
    split
    · omega
    · split <;> omega
theorem digit_bd (c : UInt8) : -1 ≤ digit c ∧ digit c ≤ 15 := by
  have h := indexByte_ge hexB c
  have hl : hexB.length = 16 := rfl
  unfold digit
  omega
def isOp (a : Int) : Bool := rows.any fun r => r.code == a
def mayI (f a : Int) : Bool := (decide (f < 16) && !(fns.getD f.toNat []).isEmpty) || (f == 15 && isOp a)
def nib (fn : Nat) (v : Int) : UInt8 := UInt8.ofNat (fn * 16 + (v % 16).toNat)
def putP : Nat → Nat → Int → List UInt8
  | 0, _, _ => []
  | f + 1, fn, v => (if 15 < v then putP f 2 (v / 16) else []) ++ [nib fn v]
def putB (fn : Nat) (v : Int) : List UInt8 := (if v < 0 then putP 8 6 ((-1 - v) / 16) else if 15 < v then putP 8 2 (v / 16) else []) ++ [nib fn v]
def validI (fn : Int) : Bool := decide (fn ≤ 15) && fn != 2 && fn != 6
theorem putP_le (f : Nat) : ∀ fn v, (putP f fn v).length ≤ f := by
  induction f with
  | zero => intro fn v; exact Nat.le_refl _
  | succ f ih =>
    intro fn v
    have := ih 2 (v / 16)
    simp only [putP, List.length_append, List.length_singleton]
    split
    · omega
    · simp
theorem putB_le (fn : Nat) (v : Int) : (putB fn v).length ≤ 9 := by
  have h1 := putP_le 8 6 ((-1 - v) / 16)
  have h2 := putP_le 8 2 (v / 16)
  simp only [putB, List.length_append, List.length_singleton]
  split
  · omega
  · split
    · omega
    · simp
def lenI (fn : Nat) (v : Int) : Nat := if validI fn then (putB fn v).length else 0
end Go.Proofs.YtcblefmjacofgaaGreatDoor.I
namespace Go.Proofs.YtcblefmjacofgaaGreatDoor.I
structure Line where
  lab : List UInt8
  fn : Nat
  arg : Int
  tgt : List UInt8
  frm : List UInt8
  deriving DecidableEq, Inhabited
def lower (s : List UInt8) : Bool := s.all (fun c => decide (97 ≤ c.toNat) && decide (c.toNat ≤ 122)) && !s.isEmpty && decide (s.length ≤ 32)
def okLine (x : Line) : Bool := decide (x.fn ≤ 15) && decide (-2147483648 ≤ x.arg) && decide (x.arg ≤ 2147483647) && (x.lab.isEmpty || lower x.lab) && x.frm.isEmpty &&
  (if x.tgt.isEmpty then mayI x.fn x.arg else lower x.tgt && x.arg == 0 && decide (x.fn < 15)) && x.fn != 2 && x.fn != 6
def place (l : List Line) (s : List UInt8) : Nat := l.findIdx fun x => x.lab == s
def operand (l : List Line) (at' : List Int) (i : Nat) (x : Line) : Int := if x.tgt.isEmpty then x.arg else at'.getD (place l x.tgt) 0 - at'.getD (i + 1) 0
def lens1 (l : List Line) (at' lens : List Int) : List Int := (List.range l.length).map fun i => max (lens.getD i 0) ((putB (l.getD i default).fn (operand l at' i (l.getD i default))).length)
def ats : Int → List Int → List Int
  | a, [] => [a]
  | a, n :: r => a :: ats (a + n) r
def pass (l : List Line) (s : List Int × List Int) : List Int × List Int := (lens1 l s.2 s.1, ats 0 (lens1 l s.2 s.1))
def passes (l : List Line) : Nat → List Int × List Int
  | 0 => (List.replicate l.length 0, List.replicate (l.length + 1) 0)
  | k + 1 => pass l (passes l k)
def code (l : List Line) (at' : List Int) : List UInt8 := (List.range l.length).flatMap fun i => putB (l.getD i default).fn (operand l at' i (l.getD i default))
def str (l : List Nat) : List UInt8 := l.map UInt8.ofNat
def sLoop : List UInt8 := [108, 111, 111, 112]
def sFwd : List UInt8 := [102, 111, 114, 119, 97, 114, 100]
def sRun : List UInt8 := [114, 117, 110]
def ln (f : Nat) (a : Int) : Line := ⟨[], f, a, [], []⟩
def lj (f : Nat) (t : List UInt8) : Line := ⟨[], f, 0, t, []⟩
def bootL : List Line := [
  ln 11 8, ln 13 0, ln 13 0, ln 13 1,
  ⟨sLoop, 1, 2, [], []⟩, ln 7 1, ln 4 4, ln 15 7,
  ln 1 3, ln 7 1, ln 4 8, ln 15 7,
  ln 7 2, lj 10 sRun, ln 7 2, ln 12 1, lj 10 sFwd,
  ln 7 3, ln 7 1, ln 7 4, ln 15 7, lj 0 sLoop,
  ⟨sFwd, 1, 5, [], []⟩, ln 7 1, ln 7 4, ln 15 7,
  ln 1 5, ln 7 3, ln 7 4, ln 15 11, lj 0 sLoop,
  ⟨sRun, 7, 4, [], []⟩, ln 7 3, ln 15 60, ln 15 0, ln 15 6]
def bootB : List UInt8 := [0x28, 0xB8, 0xD0, 0xD0, 0xD1, 0x12, 0x71, 0x44, 0xF7, 0x13, 0x71, 0x48, 0xF7, 0x72, 0x21, 0xA3, 0x72, 0xC1, 0xA6, 0x73, 0x71, 0x74, 0xF7, 0x61, 0x0C, 0x15, 0x71, 0x74, 0xF7, 0x15, 0x73, 0x74, 0xFB, 0x61, 0x02, 0x74, 0x73, 0x23, 0xFC, 0xF0, 0xF6]
set_option maxRecDepth 100000 in
theorem boot_ok : bootL.all okLine = true := by decide +kernel
def changed (l : List Line) (k : Nat) : Bool := (passes l (k + 1)).1 != (passes l k).1
set_option maxRecDepth 100000 in
theorem boot_passes : changed bootL 0 = true ∧ changed bootL 1 = true ∧ changed bootL 2 = false := by decide +kernel
set_option maxRecDepth 100000 in
theorem boot_code : code bootL (passes bootL 3).2 = bootB.drop 1 := by decide +kernel
def labelsOk (l : List Line) : Bool := (List.range l.length).all fun i => ((l.getD i default).lab.isEmpty || place l (l.getD i default).lab == i) && ((l.getD i default).tgt.isEmpty || decide (place l (l.getD i default).tgt < l.length))
set_option maxRecDepth 100000 in
theorem boot_labels : labelsOk bootL = true := by decide +kernel
end Go.Proofs.YtcblefmjacofgaaGreatDoor.I
namespace Go.Proofs.YtcblefmjacofgaaGreatDoor.I
structure Cmd where
  k : Nat
  ad : Int
  to : Int
  b : List UInt8
  deriving DecidableEq, Inhabited
structure Cmd.Wf (c : Cmd) : Prop where
  k : c.k ≤ 255
  a0 : -2147483648 ≤ c.ad
  a1 : c.ad ≤ 2147483647
  t0 : -2147483648 ≤ c.to
  t1 : c.to ≤ 2147483647
def mayC (c : Cmd) : Bool :=
  if c.k = 0 then decide (c.ad % 4 = 0) && decide (c.b.length = 0)
  else if c.k = 1 then decide (c.to = 0) && decide (c.b.length ≤ 65536)
  else if c.k = 2 then decide ((c.ad + 2147483648) < 16) && decide (c.ad % 4 = 0) && decide (c.to = 0) && decide (c.b.length ≤ 64)
  else false
def word (v : Int) : List UInt8 := [UInt8.ofNat (v % 4294967296).toNat, UInt8.ofNat ((v % 4294967296).toNat / 256), UInt8.ofNat ((v % 4294967296).toNat / 65536), UInt8.ofNat ((v % 4294967296).toNat / 16777216)]
def oneC (c : Cmd) : List UInt8 := word c.k ++ word c.ad ++ word (if c.k = 0 then c.to else (c.b.length : Nat)) ++ c.b
def sizeC (l : List Cmd) : Nat := (l.map fun c => 12 + c.b.length).sum
def putC (l : List Cmd) : List UInt8 × Int := if l.all mayC then (if sizeC l ≤ 1048576 then (l.flatMap oneC, 0) else ([], 3)) else ([], 2)
def num4 (l : List UInt8) : Nat := (l.getD 0 0).toNat + 256 * (l.getD 1 0).toNat + 65536 * (l.getD 2 0).toNat + 16777216 * (l.getD 3 0).toNat
def i32 (n : Nat) : Int := ((n : Int) + 2147483648) % 4294967296 - 2147483648
def getC : Nat → List UInt8 → Option (List Cmd × List UInt8)
  | 0, _ => none
  | f + 1, b =>
    if b.length < 12 then none
    else if 2 < num4 b then none
    else if num4 b = 0 then
      if mayC ⟨0, i32 (num4 (b.drop 4)), i32 (num4 (b.drop 8)), []⟩ then some ([⟨0, i32 (num4 (b.drop 4)), i32 (num4 (b.drop 8)), []⟩], b.drop 12) else none
    else if b.length - 12 < num4 (b.drop 8) then none
    else if mayC ⟨num4 b, i32 (num4 (b.drop 4)), 0, (b.drop 12).take (num4 (b.drop 8))⟩ then
      match getC f ((b.drop 12).drop (num4 (b.drop 8))) with
      | some (l, r) => some (⟨num4 b, i32 (num4 (b.drop 4)), 0, (b.drop 12).take (num4 (b.drop 8))⟩ :: l, r)
      | none => none
    else none
def getCs (b : List UInt8) : Option (List Cmd × List UInt8) := getC (b.length + 1) b
theorem word_length (v : Int) : (word v).length = 4 := rfl
theorem sizeC_append (a b : List Cmd) : sizeC (a ++ b) = sizeC a + sizeC b := by simp [sizeC]
theorem oneC_length (c : Cmd) : (oneC c).length = 12 + c.b.length := by simp [oneC, word_length]; omega
theorem ones_length (l : List Cmd) : (l.flatMap oneC).length = sizeC l := by
  induction l with
  | nil => rfl
  | cons c l ih => rw [List.flatMap_cons, List.length_append, ih, oneC_length]; simp [sizeC]
end Go.Proofs.YtcblefmjacofgaaGreatDoor.I
namespace Go.Proofs.YtcblefmjacofgaaGreatDoor
open Go.RowKit
namespace To
structure Port where
  node : Int
  link : Int
deriving DecidableEq
structure Wire where
  a : Port
  b : Port
deriving DecidableEq
structure Topo where
  nodes : Int
  wires : List Wire
  host : Port
def peer : List Wire → Port → Option Port
  | [], _ => none
  | w :: ws, p => if w.a = p then some w.b else if w.b = p then some w.a else peer ws p
end To
def dPort (p : To.Port) : D := .agg [.int .i64 p.node, .int .i64 p.link]
def dWire (w : To.Wire) : D := .agg [.int .i64 w.a.node, .int .i64 w.a.link, .int .i64 w.b.node, .int .i64 w.b.link]
def dTopo (t : To.Topo) : D := .agg [.int .i64 t.nodes, .list 4 (t.wires.map dWire), .int .i64 t.host.node, .int .i64 t.host.link]
theorem port_eq {a b : To.Port} : a = b ↔ (a.node = b.node ∧ a.link = b.link ∧ True) := by
  cases a; cases b; simp
theorem peer_hit (l : List To.Wire) (p : To.Port) (k : Nat) (hk : k < l.length) : To.peer (l.drop k) p = if l[k].a = p then some l[k].b else if l[k].b = p then some l[k].a else To.peer (l.drop (k + 1)) p := by
  rw [List.drop_eq_getElem_cons hk]
  rfl
namespace To
def ports (t : Topo) : List Port := t.host :: t.wires.flatMap fun w => [w.a, w.b]
def meet (ws : List Wire) (l : List Port) (p : Port) : List Port := match peer ws p with
  | some q => if l.all (fun x => x.node != q.node) then l ++ [q] else l
  | none => l
def visit (ws : List Wire) (l : List Port) (n : Int) (k : Nat) : List Port := (List.range' k (4 - k)).foldl (fun l (k : Nat) => meet ws l ⟨n, k⟩) l
def bfs (ws : List Wire) : Nat → Nat → List Port → List Port
  | 0, _, l => l
  | f + 1, i, l => match l[i]? with
    | some p => bfs ws f (i + 1) (visit ws l p.node 0)
    | none => l
def order (t : Topo) : List Port := bfs t.wires 9 0 [t.host]
def inR (n : Int) (p : Port) : Prop := 0 ≤ p.node ∧ p.node < n
structure Sound (t : Topo) : Prop where
  n : 1 ≤ t.nodes ∧ t.nodes ≤ 8
  host : inR t.nodes t.host
  wires : ∀ w ∈ t.wires, inR t.nodes w.a ∧ inR t.nodes w.b
  len : t.wires.length ≤ 32
structure Good (n : Int) (l : List Port) : Prop where
  apart : (l.map (·.node)).Nodup
  range : ∀ p ∈ l, inR n p
theorem peer_range {n : Int} : ∀ {ws : List Wire} {p q : Port}, (∀ w ∈ ws, inR n w.a ∧ inR n w.b) → peer ws p = some q → inR n q
  | [], _, _, _, h => by simp [peer] at h
  | w :: ws, p, q, hw, h => by
    unfold peer at h
    split at h
    · cases h; exact (hw w List.mem_cons_self).2
    · split at h
      · cases h; exact (hw w List.mem_cons_self).1
      · exact peer_range (fun w hm => hw w (List.mem_cons_of_mem _ hm)) h
theorem Good.meet {n : Int} {ws : List Wire} (hw : ∀ w ∈ ws, inR n w.a ∧ inR n w.b) {l : List Port} (h : Good n l) (p : Port) : Good n (meet ws l p) := by
  unfold To.meet
  split
  · rename_i q hq
    split
    · rename_i hall
      refine ⟨?_, fun x hx => ?_⟩
      · rw [List.map_append, List.nodup_append]
        refine ⟨h.apart, by simp, fun a ha b hb => ?_⟩
        simp at hb
        subst hb
        obtain ⟨y, hy, rfl⟩ := List.mem_map.1 ha
        have := List.all_eq_true.1 hall y hy
        simpa using this
      · rcases List.mem_append.1 hx with hx | hx
        · exact h.range x hx
        · simp at hx; subst hx; exact peer_range hw hq
    · exact h
  · exact h
theorem range_len : ∀ (n : Nat) (l : List Int), l.Nodup → (∀ x ∈ l, 0 ≤ x ∧ x < (n : Int)) → l.length ≤ n := by
  intro n
  induction n with
  | zero => intro l _ h; cases l with | nil => simp | cons x l => have := h x List.mem_cons_self; omega
  | succ n ih =>
    intro l hnd h
    have h1 := ih (l.erase (n : Int)) (hnd.erase _) (fun x hx => by
      have hm := (hnd.mem_erase_iff).1 hx
      have := h x hm.2
      have := hm.1
      omega)
    have := List.length_erase (a := (n : Int)) (l := l)
    split at this <;> omega
theorem Good.len {n : Int} {l : List Port} (h : Good n l) (hn : n ≤ 8) (h0 : 0 ≤ n) : l.length ≤ 8 := by
  have := range_len n.toNat (l.map (·.node)) h.apart (fun x hx => by
    obtain ⟨p, hp, rfl⟩ := List.mem_map.1 hx
    have := h.range p hp
    unfold inR at this
    omega)
  simp at this
  omega
theorem visit_step (ws : List Wire) (l : List Port) (n : Int) (k : Nat) (hk : k < 4) : visit ws l n k = visit ws (meet ws l ⟨n, k⟩) n (k + 1) := by
  unfold visit
  rw [show 4 - k = (4 - (k + 1)) + 1 by omega, List.range'_succ]
  rfl
theorem visit_done (ws : List Wire) (l : List Port) (n : Int) : visit ws l n 4 = l := rfl
theorem pairs_len (l : List Wire) (k : Nat) : ((l.take k).flatMap fun w => [w.a, w.b]).length + 1 ≤ 1 + 2 * k := by
  have : ∀ l : List Wire, (l.flatMap fun w => [w.a, w.b]).length = 2 * l.length := by
    intro l
    induction l with
    | nil => rfl
    | cons w l ih => simp [ih]; omega
  rw [this]
  have := List.length_take_le k l
  omega
theorem meet_grows (ws : List Wire) (l : List Port) (p : Port) : ∃ m, meet ws l p = l ++ m := by
  unfold meet
  split
  · split
    · exact ⟨_, rfl⟩
    · exact ⟨[], by simp⟩
  · exact ⟨[], by simp⟩
theorem meet_eq (ws : List Wire) (l : List Port) (p : Port) : meet ws l p = if ((peer ws p).isSome && l.all (fun x => x.node != ((peer ws p).getD ⟨0, 0⟩).node)) then l ++ [(peer ws p).getD ⟨0, 0⟩] else l := by
  unfold meet
  cases peer ws p <;> rfl
theorem bfs_step (ws : List Wire) (f i : Nat) (l : List Port) (h : i < l.length) : bfs ws (f + 1) i l = bfs ws f (i + 1) (visit ws l l[i].node 0) := by
  simp [bfs, h]
theorem bfs_done (ws : List Wire) (f i : Nat) (l : List Port) (h : l.length ≤ i) : bfs ws f i l = l := by
  cases f with
  | zero => rfl
  | succ f => simp [bfs, h]
end To
theorem get_take {α : Type} (l : List α) {k : Nat} (h : k < l.length) : l.take k ++ [l[k]] = l.take (k + 1) := by
  rw [List.take_succ_eq_append_getElem h]
namespace To
def okPort (n : Int) (p : Port) : Prop := 0 ≤ p.node ∧ p.node < n ∧ 0 ≤ p.link ∧ p.link < 4
instance (n : Int) (p : Port) : Decidable (okPort n p) := by unfold okPort; infer_instance
def May (t : Topo) : Prop := 1 ≤ t.nodes ∧ t.nodes ≤ 8 ∧ t.wires.length ≤ 32 ∧ (∀ p ∈ ports t, okPort t.nodes p) ∧ (ports t).Nodup ∧ (∀ w ∈ t.wires, w.a.node ≠ w.b.node) ∧ ((order t).length : Int) = t.nodes
instance (t : Topo) : Decidable (May t) := by unfold May; infer_instance
theorem sound_of {t : Topo} (h1 : 1 ≤ t.nodes) (h2 : t.nodes ≤ 8) (h3 : t.wires.length ≤ 32) (h4 : ∀ p ∈ ports t, okPort t.nodes p) : Sound t where
  n := ⟨h1, h2⟩
  host := by have := h4 t.host (by simp [ports]); exact ⟨this.1, this.2.1⟩
  wires := fun w hw => by
    have ha := h4 w.a (by unfold ports; simp only [List.mem_cons, List.mem_flatMap]; exact Or.inr ⟨w, hw, by simp⟩)
    have hb := h4 w.b (by unfold ports; simp only [List.mem_cons, List.mem_flatMap]; exact Or.inr ⟨w, hw, by simp⟩)
    exact ⟨⟨ha.1, ha.2.1⟩, ⟨hb.1, hb.2.1⟩⟩
  len := h3
theorem May.sound {t : Topo} (h : May t) : Sound t := sound_of h.1 h.2.1 h.2.2.1 h.2.2.2.1
def up (t : Topo) (n : Int) : Port := ((order t).find? fun p => p.node = n).getD ⟨0, 0⟩
theorem ports_len (t : Topo) : (ports t).length = 1 + 2 * t.wires.length := by
  unfold ports
  have : ∀ l : List Wire, (l.flatMap fun w => [w.a, w.b]).length = 2 * l.length := by
    intro l
    induction l with
    | nil => rfl
    | cons w l ih => simp [ih]; omega
  rw [List.length_cons, this]
  omega
end To
namespace To
def kid (t : Topo) (n : Int) (k : Nat) : Bool := (peer t.wires ⟨n, k⟩).isSome && (((peer t.wires ⟨n, k⟩).getD ⟨0, 0⟩).node != t.host.node && decide (up t ((peer t.wires ⟨n, k⟩).getD ⟨0, 0⟩).node = (peer t.wires ⟨n, k⟩).getD ⟨0, 0⟩))
def kids (t : Topo) (n : Int) : List Nat := (List.range 4).filter (kid t n)
def children (t : Topo) (n : Int) : List Nat × Int := if May t then if n < 0 ∨ t.nodes ≤ n then ([], 4) else (kids t n, 0) else ([], 2)
end To
namespace To
def Par (ws : List Wire) (l : List Port) : Prop := ∀ j (h : j < l.length), 0 < j → ∃ (i : Nat) (hi : i < j) (k : Nat), k < 4 ∧ peer ws ⟨(l[i]'(by omega)).node, k⟩ = some l[j]
theorem Par.meet {ws : List Wire} {l : List Port} (h : Par ws l) {i k : Nat} (hi : i < l.length) (hk : k < 4) : Par ws (meet ws l ⟨l[i].node, k⟩) := by
  unfold To.meet
  split
  · rename_i q hq
    split
    · intro j hj h0
      simp only [List.length_append, List.length_cons, List.length_nil] at hj
      by_cases hjl : j < l.length
      · obtain ⟨i', hi', k', h1, h2⟩ := h j hjl h0
        refine ⟨i', hi', k', h1, ?_⟩
        rw [List.getElem_append_left (by omega), List.getElem_append_left hjl]
        exact h2
      · have : j = l.length := by omega
        subst this
        refine ⟨i, hi, k, hk, ?_⟩
        rw [List.getElem_append_left hi, List.getElem_append_right (Nat.le_refl _)]
        simpa using hq
    · exact h
  · exact h
theorem visit_ext (ws : List Wire) (n : Int) : ∀ (ks : List Nat) (l : List Port), ∃ m, ks.foldl (fun l (k : Nat) => meet ws l ⟨n, k⟩) l = l ++ m
  | [], l => ⟨[], by simp⟩
  | k :: ks, l => by
    obtain ⟨m1, h1⟩ := meet_grows ws l ⟨n, k⟩
    obtain ⟨m2, h2⟩ := visit_ext ws n ks (meet ws l ⟨n, k⟩)
    exact ⟨m1 ++ m2, by rw [List.foldl_cons, h2, h1, List.append_assoc]⟩
theorem Par.visits {ws : List Wire} : ∀ (ks : List Nat) {l : List Port} (_ : Par ws l) {i : Nat} (hi : i < l.length) {n : Int} (_ : l[i].node = n), (∀ k ∈ ks, k < 4) → Par ws (ks.foldl (fun l (k : Nat) => To.meet ws l ⟨n, k⟩) l)
  | [], _, h, _, _, _, _, _ => h
  | k :: ks, l, h, i, hi, n, hn, hk => by
    obtain ⟨m, hm⟩ := meet_grows ws l ⟨n, k⟩
    have h1 := h.meet (k := k) hi (hk k List.mem_cons_self)
    rw [hn] at h1
    have hlt : i < (To.meet ws l ⟨n, k⟩).length := by rw [hm, List.length_append]; omega
    refine Par.visits ks h1 hlt ?_ (fun k' h' => hk k' (List.mem_cons_of_mem _ h'))
    have : (To.meet ws l ⟨n, k⟩)[i] = l[i] := by simp only [hm]; exact List.getElem_append_left hi
    rw [this]
    exact hn
theorem Par.bfs {ws : List Wire} : ∀ (f i : Nat) {l : List Port}, Par ws l → Par ws (To.bfs ws f i l)
  | 0, _, _, h => h
  | f + 1, i, l, h => by
    unfold To.bfs
    split
    · rename_i p hp
      obtain ⟨hi, e⟩ := List.getElem?_eq_some_iff.1 hp
      refine Par.bfs f (i + 1) ?_
      unfold visit
      exact Par.visits _ h hi (by rw [e]) (fun k hk => by have := List.mem_range'.1 hk; omega)
    · exact h
theorem bfs_ext (ws : List Wire) : ∀ (f i : Nat) (l : List Port), ∃ m, bfs ws f i l = l ++ m
  | 0, _, l => ⟨[], by simp [bfs]⟩
  | f + 1, i, l => by
    unfold bfs
    split
    · obtain ⟨m1, h1⟩ := visit_ext ws (by assumption : Port).node (List.range' 0 (4 - 0)) l
      obtain ⟨m2, h2⟩ := bfs_ext ws f (i + 1) (visit ws l (by assumption : Port).node 0)
      refine ⟨m1 ++ m2, ?_⟩
      rw [h2]
      unfold visit
      rw [h1, List.append_assoc]
    · exact ⟨[], by simp⟩
theorem order_par (t : Topo) : Par t.wires (order t) := Par.bfs 9 0 (fun j hj h0 => by simp at hj; omega)
theorem order_zero (t : Topo) : ∃ m, order t = t.host :: m := by
  obtain ⟨m, h⟩ := bfs_ext t.wires 9 0 [t.host]
  exact ⟨m, h⟩
theorem order_good {t : Topo} (hs : Sound t) : Good t.nodes (order t) := by
  have key : ∀ f i l, Good t.nodes l → Good t.nodes (bfs t.wires f i l) := by
    intro f
    induction f with
    | zero => intro i l h; exact h
    | succ f ih =>
      intro i l h
      unfold bfs
      split
      · refine ih _ _ ?_
        rename_i p _
        unfold visit
        have key2 : ∀ (ks : List Nat) (l : List Port), Good t.nodes l → Good t.nodes (ks.foldl (fun l (k : Nat) => meet t.wires l ⟨p.node, k⟩) l) := by
          intro ks
          induction ks with
          | nil => intro l h; exact h
          | cons k ks ihk => intro l h; exact ihk _ (h.meet hs.wires _)
        exact key2 _ _ h
      · exact h
  exact key 9 0 [t.host] ⟨by simp, fun p hp => by simp at hp; subst hp; exact hs.host⟩
theorem peer_mem : ∀ {ws : List Wire} {p q : Port}, peer ws p = some q → q ∈ ws.flatMap fun w => [w.a, w.b]
  | [], _, _, h => by simp [peer] at h
  | w :: ws, p, q, h => by
    unfold peer at h
    rw [List.flatMap_cons]
    split at h
    · cases h; simp
    · split at h
      · cases h; simp
      · exact List.mem_append_right _ (peer_mem h)
theorem peer_inj : ∀ {ws : List Wire} (_ : (ws.flatMap fun w => [w.a, w.b]).Nodup) {p p' q : Port}, peer ws p = some q → peer ws p' = some q → p = p'
  | [], _, _, _, _, h, _ => by simp [peer] at h
  | w :: ws, hn, p, p', q, h, h' => by
    rw [List.flatMap_cons, List.nodup_append] at hn
    obtain ⟨h1, h2, h3⟩ := hn
    have hab : w.a ≠ w.b := by simpa using h1
    have na : ∀ x, peer ws x ≠ some w.a := fun x hx => h3 w.a (by simp) w.a (peer_mem hx) rfl
    have nb : ∀ x, peer ws x ≠ some w.b := fun x hx => h3 w.b (by simp) w.b (peer_mem hx) rfl
    unfold peer at h h'
    by_cases c1 : w.a = p
    · rw [if_pos c1] at h
      cases h
      by_cases c2 : w.a = p'
      · rw [← c1, ← c2]
      · rw [if_neg c2] at h'
        by_cases c3 : w.b = p'
        · rw [if_pos c3] at h'; exact absurd (Option.some.inj h') hab
        · rw [if_neg c3] at h'; exact absurd h' (nb _)
    · rw [if_neg c1] at h
      by_cases c3 : w.b = p
      · rw [if_pos c3] at h
        cases h
        by_cases c2 : w.a = p'
        · rw [if_pos c2] at h'; exact absurd (Option.some.inj h').symm hab
        · rw [if_neg c2] at h'
          by_cases c4 : w.b = p'
          · rw [← c3, ← c4]
          · rw [if_neg c4] at h'; exact absurd h' (na _)
      · rw [if_neg c3] at h
        by_cases c2 : w.a = p'
        · rw [if_pos c2] at h'; cases h'; exact absurd h (nb _)
        · rw [if_neg c2] at h'
          by_cases c4 : w.b = p'
          · rw [if_pos c4] at h'; cases h'; exact absurd h (na _)
          · rw [if_neg c4] at h'
            exact peer_inj h2 h h'
theorem all_nodes {t : Topo} (h : May t) {n : Int} (h0 : 0 ≤ n) (h1 : n < t.nodes) : ∃ p ∈ order t, p.node = n := by
  have hg := order_good h.sound
  refine Classical.byContradiction fun hc => ?_
  have := range_len t.nodes.toNat (n :: (order t).map (·.node)) (List.nodup_cons.2 ⟨fun hm => hc (by
    obtain ⟨p, q1, q2⟩ := List.mem_map.1 hm
    exact ⟨p, q1, q2⟩), hg.apart⟩) (fun x hx => by
    rcases List.mem_cons.1 hx with rfl | hx
    · omega
    · obtain ⟨p, q1, rfl⟩ := List.mem_map.1 hx
      have := hg.range p q1
      unfold inR at this
      omega)
  have hl := h.2.2.2.2.2.2
  simp at this
  omega
theorem up_mem {t : Topo} (h : May t) {n : Int} (h0 : 0 ≤ n) (h1 : n < t.nodes) : up t n ∈ order t ∧ (up t n).node = n := by
  obtain ⟨p, q1, q2⟩ := all_nodes h h0 h1
  unfold up
  cases hf : (order t).find? (fun p => p.node = n) with
  | none => have := List.find?_eq_none.1 hf p q1; simp [q2] at this
  | some q =>
    exact ⟨List.mem_of_find?_eq_some hf, by simpa using List.find?_some hf⟩
theorem kid_spec {t : Topo} (h : May t) {i k : Nat} (hi : i < (order t).length) (hk : kid t (order t)[i].node k = true) : ∃ q j, peer t.wires ⟨(order t)[i].node, k⟩ = some q ∧ i < j ∧ ∃ hj : j < (order t).length, (order t)[j] = q := by
  have hg := order_good h.sound
  unfold kid at hk
  simp only [Bool.and_eq_true, bne_iff_ne, ne_eq, decide_eq_true_eq, Option.isSome_iff_exists] at hk
  obtain ⟨⟨q, hq⟩, h1, h2⟩ := hk
  rw [hq] at h1 h2
  simp only [Option.getD_some] at h1 h2
  have hr := peer_range h.sound.wires hq
  obtain ⟨hm, _⟩ := up_mem h hr.1 hr.2
  rw [h2] at hm
  obtain ⟨j, hj, e⟩ := List.mem_iff_getElem.1 hm
  have hj0 : 0 < j := by
    rcases Nat.eq_zero_or_pos j with rfl | hp
    · obtain ⟨m, hz⟩ := order_zero t
      exfalso
      apply h1
      rw [← e]
      simp [hz]
    · exact hp
  obtain ⟨i', hi', k', _, h4⟩ := order_par t j hj hj0
  rw [e] at h4
  have hnd : (t.wires.flatMap fun w => [w.a, w.b]).Nodup := (List.nodup_cons.1 h.2.2.2.2.1).2
  have := peer_inj hnd hq h4
  simp only [Port.mk.injEq] at this
  have hii : i = i' := by
    have hlt : i' < (order t).length := by omega
    have h5 : ((order t).map (·.node))[i]'(by simpa using hi) = ((order t).map (·.node))[i']'(by simpa using hlt) := by simp [this.1]
    exact (List.getElem_inj hg.apart).1 h5
  exact ⟨q, j, hq, by omega, hj, e⟩
end To
end Go.Proofs.YtcblefmjacofgaaGreatDoor
namespace Go.Proofs.YtcblefmjacofgaaGreatDoor
open Go.RowKit
namespace Im
structure Obj where
  code : List UInt8
  entry : Int
  below : Int
  above : Int
def okMem (n : Int) : Prop := 1024 ≤ n ∧ n ≤ 65536 ∧ n % 4 = 0
instance (n : Int) : Decidable (okMem n) := by unfold okMem; infer_instance
def okObj (o : Obj) : Prop := 1 ≤ o.code.length ∧ o.code.length ≤ 32768 ∧ 0 ≤ o.entry ∧ o.entry < (o.code.length : Int) ∧ 0 ≤ o.below ∧ o.below ≤ 16384 ∧ 0 ≤ o.above ∧ o.above ≤ 16384
instance (o : Obj) : Decidable (okObj o) := by unfold okObj; infer_instance
def fits (n : Int) (o : Obj) : Prop := 512 + (o.code.length : Int) ≤ n - o.below * 4 - o.above * 4
instance (n : Int) (o : Obj) : Decidable (fits n o) := by unfold fits; infer_instance
def workspace (n : Int) (o : Obj) : Int × Int := if okMem n ∧ okObj o then if fits n o then (-2147483648 + (n - o.below * 4), 0) else (0, 9) else (0, 2)
def piecesF : Nat → List UInt8 → List (List UInt8)
  | 0, _ => []
  | f + 1, b => if b.length = 0 then [] else b.take 64 :: piecesF f (b.drop 64)
def pieces (b : List UInt8) : List (List UInt8) := piecesF b.length b
theorem piecesF_eq : ∀ (f g : Nat) (b : List UInt8), b.length ≤ f → b.length ≤ g → piecesF f b = piecesF g b
  | 0, 0, _, _, _ => rfl
  | 0, g + 1, b, h, _ => by unfold piecesF; rw [if_pos (by omega)]
  | f + 1, 0, b, _, h => by unfold piecesF; rw [if_pos (by omega)]
  | f + 1, g + 1, b, h1, h2 => by
    unfold piecesF
    split
    · rfl
    · rw [piecesF_eq f g _ (by rw [List.length_drop]; omega) (by rw [List.length_drop]; omega)]
theorem pieces_nil {b : List UInt8} (h : b.length = 0) : pieces b = [] := by unfold pieces; rw [h]; rfl
theorem pieces_step {b : List UInt8} (h : 0 < b.length) : pieces b = b.take 64 :: pieces (b.drop 64) := by
  unfold pieces
  obtain ⟨f, hf⟩ : ∃ f, b.length = f + 1 := ⟨b.length - 1, by omega⟩
  rw [hf]
  conv => lhs; unfold piecesF
  rw [if_neg (by omega), piecesF_eq f (b.drop 64).length _ (by rw [List.length_drop]; omega) (Nat.le_refl _)]
def fwd (k : Nat) (b : List UInt8) : List I.Cmd := (pieces b).map fun p => ⟨2, -2147483648 + 4 * (k : Int), 0, p⟩
def child (t : To.Topo) (n : Int) (k : Nat) : Int := ((To.peer t.wires ⟨n, k⟩).getD ⟨0, 0⟩).node
def tr (t : To.Topo) (front : List UInt8) (last : Int → I.Cmd) : Nat → Int → List UInt8
  | 0, _ => []
  | f + 1, n => front ++ (I.putC (((To.kids t n).flatMap fun k => fwd k (tr t front last f (child t n k))) ++ [last n])).1
def obj (l : List Obj) (n : Int) : Obj := l.getD n.toNat ⟨[], 0, 0, 0⟩
def loadC (l : List Obj) (n : Int) : I.Cmd := ⟨1, -2147483136, 0, (obj l n).code⟩
def runC (size : Int) (l : List Obj) (n : Int) : I.Cmd := ⟨0, (workspace size (obj l n)).1, -2147483136 + (obj l n).entry, []⟩
def load (t : To.Topo) (l : List Obj) (n : Int) : List UInt8 := tr t I.bootB (loadC l) 9 n
def start (t : To.Topo) (size : Int) (l : List Obj) (n : Int) : List UInt8 := tr t [] (runC size l) 9 n
def check (t : To.Topo) (node size : Int) (l : List Obj) : Int :=
  if ¬ (To.May t ∧ okMem size ∧ (l.length : Int) = t.nodes ∧ ∀ o ∈ l, okObj o) then 2 else if node < 0 ∨ t.nodes ≤ node then 4 else if ¬ ∀ o ∈ l, fits size o then 9 else 0
def loadE (t : To.Topo) (node size : Int) (l : List Obj) : List UInt8 × Int := if check t node size l = 0 then (load t l node, 0) else ([], check t node size l)
def startE (t : To.Topo) (node size : Int) (l : List Obj) : List UInt8 × Int := if check t node size l = 0 then (start t size l node, 0) else ([], check t node size l)
def makeE (t : To.Topo) (size : Int) (l : List Obj) : List UInt8 × Int := if check t 0 size l = 0 then (load t l t.host.node ++ start t size l t.host.node, 0) else ([], check t 0 size l)
def lnk (c : I.Cmd) : Int := (c.ad + 2147483648) / 4
def got (l : List I.Cmd) (k : Nat) : List UInt8 := (l.filter fun c => c.k == 2 && lnk c == (k : Int)).flatMap (·.b)
def known (ks : List Nat) (l : List I.Cmd) : Bool := l.all fun c => !(c.k == 2) || ks.any fun k => lnk c == (k : Int)
def recvs (rec : Int → List UInt8 → List (List I.Cmd) → Option (List (List I.Cmd))) (t : To.Topo) (n : Int) (l : List I.Cmd) : List Nat → List (List I.Cmd) → Option (List (List I.Cmd))
  | [], out => some out
  | k :: ks, out => match rec (child t n k) (got l k) out with
    | some out' => recvs rec t n l ks out'
    | none => none
def recv (t : To.Topo) : Nat → Int → List UInt8 → List (List I.Cmd) → Option (List (List I.Cmd))
  | 0, _, _, _ => none
  | f + 1, n, b, out =>
    if b.take 41 = I.bootB then
      match I.getCs (b.drop 41) with
      | some (l, []) => if known (To.kids t n) l then recvs (recv t f) t n l (To.kids t n) (out.set n.toNat l) else none
      | _ => none
    else none
def split (t : To.Topo) (b : List UInt8) : List (List I.Cmd) × Int := if To.May t then match recv t 9 t.host.node b (List.replicate t.nodes.toNat []) with | some out => (out, 0) | none => ([], 380) else ([], 2)
theorem putC_len (l : List I.Cmd) : (I.putC l).1.length ≤ 1048576 := by
  unfold I.putC
  split
  · split
    · dsimp only; rw [I.ones_length]; assumption
    · simp
  · simp
theorem tr_len (t : To.Topo) (front : List UInt8) (last : Int → I.Cmd) (hf : front.length ≤ 1000) : ∀ f n, (tr t front last f n).length ≤ 1049576
  | 0, _ => by simp [tr]
  | f + 1, n => by
    unfold tr
    rw [List.length_append]
    have := putC_len (((To.kids t n).flatMap fun k => fwd k (tr t front last f (child t n k))) ++ [last n])
    omega
theorem pieces_len : ∀ (f : Nat) (b : List UInt8), (piecesF f b).length ≤ b.length
  | 0, b => by simp [piecesF]
  | f + 1, b => by
    unfold piecesF
    split
    · simp
    · have := pieces_len f (b.drop 64)
      rw [List.length_cons]
      rw [List.length_drop] at this
      omega
theorem fwd_len (k : Nat) (b : List UInt8) : (fwd k b).length ≤ b.length := by unfold fwd pieces; rw [List.length_map]; exact pieces_len _ _
theorem fwd_wf {k : Nat} (hk : k < 4) (b : List UInt8) : ∀ c ∈ fwd k b, c.Wf := fun c hc => by
  unfold fwd at hc
  obtain ⟨p, _, rfl⟩ := List.mem_map.1 hc
  exact ⟨by dsimp only; omega, by dsimp only; omega, by dsimp only; omega, by dsimp only; omega, by dsimp only; omega⟩
theorem fwd_step {k : Nat} {b : List UInt8} (h : 0 < b.length) : fwd k b = ⟨2, -2147483648 + 4 * (k : Int), 0, b.take 64⟩ :: fwd k (b.drop 64) := by unfold fwd; rw [pieces_step h]; rfl
theorem kids_lt {t : To.Topo} {n : Int} {k : Nat} (h : k ∈ To.kids t n) : k < 4 := by
  unfold To.kids at h
  have := (List.mem_filter.1 h).1
  simpa using this
theorem kids_len (t : To.Topo) (n : Int) : (To.kids t n).length ≤ 4 := by
  unfold To.kids
  refine Nat.le_trans (List.length_filter_le _ _) ?_
  simp
theorem child_at {t : To.Topo} (h : To.May t) {i k : Nat} (hi : i < (To.order t).length) (hk : k ∈ To.kids t (To.order t)[i].node) : ∃ j, i < j ∧ ∃ hj : j < (To.order t).length, (To.order t)[j].node = child t (To.order t)[i].node k := by
  have hk' := (List.mem_filter.1 hk).2
  obtain ⟨q, j, h1, h2, h3, h4⟩ := To.kid_spec h hi hk'
  exact ⟨j, h2, h3, by unfold child; rw [h1, h4]; rfl⟩
end Im
end Go.Proofs.YtcblefmjacofgaaGreatDoor
namespace Go.Proofs.YtcblefmjacofgaaGreatDoor.I
theorem num4_lt' (b : List UInt8) : num4 b < 4294967296 := by
  unfold num4
  have h0 := (b.getD 0 0).toNat_lt
  have h1 := (b.getD 1 0).toNat_lt
  have h2 := (b.getD 2 0).toNat_lt
  have h3 := (b.getD 3 0).toNat_lt
  omega
theorem word_num {v : Int} {b : List UInt8} (hb : 4 ≤ b.length) (hv : v % 4294967296 = (num4 b : Int)) : word v = b.take 4 := by
  obtain ⟨b0, b1, b2, b3, r, rfl⟩ : ∃ b0 b1 b2 b3 r, b = b0 :: b1 :: b2 :: b3 :: r := by
    match b, hb with
    | b0 :: b1 :: b2 :: b3 :: r, _ => exact ⟨b0, b1, b2, b3, r, rfl⟩
  have e : (v % 4294967296).toNat = b0.toNat + 256 * b1.toNat + 65536 * b2.toNat + 16777216 * b3.toNat := by
    rw [hv]
    simp [num4]
    omega
  have h0 := b0.toNat_lt
  have h1 := b1.toNat_lt
  have h2 := b2.toNat_lt
  have h3 := b3.toNat_lt
  unfold word
  rw [e]
  simp only [List.take_succ_cons, List.take_zero, List.cons.injEq, and_true]
  refine ⟨UInt8.toNat_inj.1 ?_, UInt8.toNat_inj.1 ?_, UInt8.toNat_inj.1 ?_, UInt8.toNat_inj.1 ?_⟩ <;>
  · simp only [UInt8.toNat_ofNat']
    omega
theorem i32_mod {n : Nat} (h : n < 4294967296) : i32 n % 4294967296 = (n : Int) := by unfold i32; omega
theorem i32_rng (n : Nat) : -2147483648 ≤ i32 n ∧ i32 n ≤ 2147483647 := by unfold i32; omega
theorem nat_mod {n : Nat} (h : n < 4294967296) : (n : Int) % 4294967296 = (n : Int) := by omega
theorem cut12 (b : List UInt8) : b.take 4 ++ ((b.drop 4).take 4 ++ ((b.drop 8).take 4 ++ b.drop 12)) = b := by
  have h1 := List.take_append_drop 4 b
  have h2 := List.take_append_drop 4 (b.drop 4)
  have h3 := List.take_append_drop 4 (b.drop 8)
  rw [List.drop_drop] at h2 h3
  rw [h3, h2, h1]
theorem getC_enc : ∀ (f : Nat) (b : List UInt8) (l : List Cmd) (r : List UInt8), getC f b = some (l, r) → b = l.flatMap oneC ++ r ∧ ∀ c ∈ l, mayC c = true ∧ c.Wf
  | 0, _, _, _, h => by cases h
  | f + 1, b, l, r, h => by
    unfold getC at h
    split at h
    · cases h
    rename_i h12
    have w0 : ∀ v : Int, v % 4294967296 = (num4 b : Int) → word v = b.take 4 := fun v hv => word_num (by omega) hv
    have w1 : word (i32 (num4 (b.drop 4))) = (b.drop 4).take 4 := word_num (by rw [List.length_drop]; omega) (i32_mod (num4_lt' _))
    have w2 : ∀ v : Int, v % 4294967296 = (num4 (b.drop 8) : Int) → word v = (b.drop 8).take 4 := fun v hv => word_num (by rw [List.length_drop]; omega) hv
    have hk := num4_lt' b
    have hn := num4_lt' (b.drop 8)
    have r1 := i32_rng (num4 (b.drop 4))
    have r2 := i32_rng (num4 (b.drop 8))
    split at h
    · cases h
    rename_i h2
    split at h
    · rename_i h0
      split at h
      · rename_i hm
        cases h
        refine ⟨?_, fun c hc => ?_⟩
        · simp only [List.flatMap_cons, List.flatMap_nil, List.append_nil, oneC, if_pos]
          rw [w0 _ (by rw [h0]; rfl), w1, w2 _ (i32_mod hn)]
          simp only [List.append_nil, List.append_assoc]
          exact (cut12 b).symm
        · rw [List.mem_singleton] at hc
          subst hc
          exact ⟨hm, ⟨by dsimp only; omega, r1.1, r1.2, r2.1, r2.2⟩⟩
      · cases h
    · rename_i h0
      split at h
      · cases h
      rename_i hlen
      split at h
      · rename_i hm
        split at h
        · rename_i l' r' hg
          cases h
          obtain ⟨e, hall⟩ := getC_enc f _ _ _ hg
          refine ⟨?_, fun c hc => ?_⟩
          · rw [List.flatMap_cons, List.append_assoc, ← e]
            simp only [oneC, if_neg h0, List.append_assoc]
            have hl : ((b.drop 12).take (num4 (b.drop 8))).length = num4 (b.drop 8) := by rw [List.length_take, List.length_drop]; omega
            rw [hl, w0 _ (nat_mod hk), w1, w2 _ (nat_mod hn), List.take_append_drop]
            exact (cut12 b).symm
          · rcases List.mem_cons.1 hc with rfl | hc
            · exact ⟨hm, ⟨by dsimp only; omega, r1.1, r1.2, by dsimp only; omega, by dsimp only; omega⟩⟩
            · exact hall c hc
        · cases h
      · cases h
theorem getCs_enc {b : List UInt8} {l : List Cmd} {r : List UInt8} (h : getCs b = some (l, r)) : b = l.flatMap oneC ++ r ∧ ∀ c ∈ l, mayC c = true ∧ c.Wf := getC_enc _ b l r h
end Go.Proofs.YtcblefmjacofgaaGreatDoor.I
namespace Go.Proofs.YtcblefmjacofgaaGreatDoor
theorem Im.got_len (l : List I.Cmd) (k : Nat) : (Im.got l k).length ≤ I.sizeC l := by
  unfold Im.got
  induction l with
  | nil => simp
  | cons c l ih =>
    have e : I.sizeC (c :: l) = 12 + c.b.length + I.sizeC l := by simp [I.sizeC]
    rw [e, List.filter_cons]
    split
    · rw [List.flatMap_cons, List.length_append]; omega
    · omega
theorem Im.got_take (l : List I.Cmd) (k i : Nat) (hi : i < l.length) : Im.got (l.take (i + 1)) k = if l[i].k == 2 && Im.lnk l[i] == (k : Int) then Im.got (l.take i) k ++ l[i].b else Im.got (l.take i) k := by
  unfold Im.got
  rw [← get_take _ hi, List.filter_append, List.flatMap_append, List.filter_cons, List.filter_nil]
  split
  · simp
  · simp
theorem I.sizeC_take (l : List I.Cmd) (i : Nat) : I.sizeC (l.take i) ≤ I.sizeC l := by
  conv => rhs; rw [← List.take_append_drop i l]
  rw [I.sizeC_append]
  omega
theorem Im.fwd_shape {c : I.Cmd} (h : I.mayC c = true) (hw : c.Wf) (hk : c.k = 2) : ∃ j : Nat, j < 4 ∧ c = ⟨2, -2147483648 + 4 * (j : Int), 0, c.b⟩ := by
  obtain ⟨k, ad, tv, b⟩ := c
  have h0 := hw.a0
  dsimp only at hk h0
  subst hk
  have h' : decide ((ad + 2147483648) < 16) && decide (ad % 4 = 0) && decide (tv = 0) && decide (b.length ≤ 64) := h
  simp only [Bool.and_eq_true, decide_eq_true_eq] at h'
  obtain ⟨⟨⟨h1, h2⟩, h3⟩, _⟩ := h'
  refine ⟨((ad + 2147483648) / 4).toNat, by omega, ?_⟩
  subst h3
  rw [show -2147483648 + 4 * ((((ad + 2147483648) / 4).toNat : Nat) : Int) = ad by omega]
theorem Im.fwd_lnk (j : Nat) (b : List UInt8) : Im.lnk ⟨2, -2147483648 + 4 * (j : Int), 0, b⟩ = (j : Int) := by
  unfold Im.lnk
  dsimp only
  omega
end Go.Proofs.YtcblefmjacofgaaGreatDoor
namespace Go.Proofs.YtcblefmjacofgaaGreatDoor.Im
theorem place {t : To.Topo} (hm : To.May t) {n : Int} (h0 : 0 ≤ n) (h1 : n < t.nodes) : ∃ (i : Nat) (hi : i < (To.order t).length), (To.order t)[i].node = n := by
  obtain ⟨p, q1, q2⟩ := To.all_nodes hm h0 h1
  obtain ⟨i, hi, rfl⟩ := List.mem_iff_getElem.1 q1
  exact ⟨i, hi, q2⟩
theorem order_le {t : To.Topo} (hm : To.May t) : (To.order t).length ≤ 8 := (To.order_good hm.sound).len hm.sound.n.2 (by have := hm.sound.n.1; omega)
structure Fine (t : To.Topo) (size : Int) (l : List Obj) : Prop where
  may : To.May t
  mem : okMem size
  len : (l.length : Int) = t.nodes
  objs : ∀ o ∈ l, okObj o
  fit : ∀ o ∈ l, fits size o
theorem fine_of {t : To.Topo} {node size : Int} {l : List Obj} (h : check t node size l = 0) : Fine t size l := by
  unfold check at h
  split at h
  · cases h
  · rename_i h1
    have h1 := Classical.not_not.1 h1
    split at h
    · cases h
    · split at h
      · cases h
      · rename_i h3
        exact ⟨h1.1, h1.2.1, h1.2.2.1, h1.2.2.2, Classical.not_not.1 h3⟩
theorem obj_or {l : List Obj} (n : Int) : obj l n ∈ l ∨ obj l n = ⟨[], 0, 0, 0⟩ := by
  unfold obj
  rw [List.getD_eq_getElem?_getD]
  cases h : l[n.toNat]? with
  | none => exact .inr rfl
  | some o => exact .inl (List.mem_of_getElem? h)
variable {t : To.Topo} {size : Int} {l : List Obj}
theorem Fine.code (h : Fine t size l) (n : Int) : (obj l n).code.length ≤ 32768 ∧ 0 ≤ (obj l n).entry ∧ (obj l n).entry ≤ 32768 := by
  rcases obj_or (l := l) n with ho | ho
  · have := h.objs _ ho
    unfold okObj at this
    omega
  · rw [ho]; simp
theorem Fine.load (h : Fine t size l) (n : Int) : I.mayC (loadC l n) = true ∧ (loadC l n).Wf := by
  have := h.code n
  refine ⟨?_, by dsimp only [loadC]; omega, by dsimp only [loadC]; omega, by dsimp only [loadC]; omega, by dsimp only [loadC]; omega, by dsimp only [loadC]; omega⟩
  unfold I.mayC loadC
  simp
  omega
theorem Fine.space (h : Fine t size l) (n : Int) : -2147483648 ≤ (workspace size (obj l n)).1 ∧ (workspace size (obj l n)).1 ≤ 2147483647 ∧ (workspace size (obj l n)).1 % 4 = 0 := by
  have hs := h.mem
  unfold workspace
  split
  · rename_i h1
    have hb := h1.2
    unfold okMem at hs
    unfold okObj at hb
    split
    · rename_i hf
      unfold fits at hf
      dsimp only
      omega
    · decide
  · decide
theorem Fine.run (h : Fine t size l) (n : Int) : I.mayC (runC size l n) = true ∧ (runC size l n).Wf := by
  have h1 := h.code n
  have h2 := h.space n
  refine ⟨?_, by dsimp only [runC]; omega, by dsimp only [runC]; omega, by dsimp only [runC]; omega, by dsimp only [runC]; omega, by dsimp only [runC]; omega⟩
  unfold I.mayC runC
  simp
  omega
def great (l : List Obj) : Bool := (l.take 12).any (fun o => decide (1 < l.length) && decide (3000 < o.code.length)) || decide (12 < l.length)
theorem great_len {l : List Obj} (h : great l = false) : l.length ≤ 12 := by
  unfold great at h
  rw [Bool.or_eq_false_iff] at h
  have := h.2
  simp at this
  omega
end Go.Proofs.YtcblefmjacofgaaGreatDoor.Im
