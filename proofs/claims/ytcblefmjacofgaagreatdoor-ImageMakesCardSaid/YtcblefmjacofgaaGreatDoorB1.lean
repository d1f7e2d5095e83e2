/- Parts: Shelf, Range, Tree, I1, I2, I3. -/
import Derived.Shelf.Small.Strs
import Derived.Shelf.Strings.Search1
import Derived.Shelf.Strings.Fields
import Derived.Shelf.LaysM
import Derived.Shelf.Strings.SplitShaped
import Derived.Shelf.Strings.FieldsFuncGrows
import Derived.Shelf.Slices.Turned
import Derived.Shelf.Bytes.SlSearch0
import Derived.Shelf.Bytes.SlSmallAll
import Derived.Shelf.Bytes.SlEqualAll
import Derived.Shelf.Bytes.Small
import Derived.Test.YtcblefmjacofgaaGreatDoorProg
import Derived.Test.YtcblefmjacofgaaGreatDoorA1
import Derived.RangeFuncNested
import Derived.RangeFuncBound
import Derived.RangeFuncCalls
import Derived.RangeFuncLeaves
import Derived.Shelf.Abstract
import Derived.Shelf.RegionOpen
import Derived.LoopNIn
import Derived.LoopIn
import Derived.Test.YtcblefmjacofgaaGreatDoorA5
import Derived.Shelf.Unicode.PredsPay
import Derived.Test.YtcblefmjacofgaaGreatDoorRows
set_option linter.all false
set_option linter.unusedVariables false
set_option linter.unusedSimpArgs false
namespace Go.Proofs
open Go.Shelf
def Tryz.lays137_ren : Go.Shelf.Ren := ⟨fun | 137 => 101 | 217 => 104 | 266 => 107 | n => n, fun | 9 => 9 | 5 => 5 | 3 => 3 | n => n, fun | n => n⟩
theorem Tryz.lays137 : Go.Proofs.Lays.n137 Tryz.prog Tryz.lays137_ren := {
  mixed := by kernel_rfl
  f137 := Tryz.func101.trans (congrArg some (by kernel_rfl))
  f217 := Tryz.func104.trans (congrArg some (by kernel_rfl))
  f266 := Tryz.func107.trans (congrArg some (by kernel_rfl))
  t3 := Tryz.underlying3
  a3 := Tryz.isAgg3
  z3 := Tryz.sizeOf3
  v3 := Tryz.zeroValue3
  t5 := Tryz.underlying5
  a5 := Tryz.isAgg5
  z5 := Tryz.sizeOf5
  v5 := Tryz.zeroValue5
  t9 := Tryz.underlying9
  a9 := Tryz.isAgg9
  z9 := Tryz.sizeOf9
  v9 := Tryz.zeroValue9 }
open Go.RowKit in
theorem Tryz.strings_IndexByte (s : ByteArray) (c : Int) (w : World) :
    Calls Tryz.prog 101 #[.string s, .int .u8 c] w fun e w' => e = .returned (.int .i64 (Lib.indexByte s.data.toList c.toNat.toUInt8)) ∧ w' = w := Any.strings_IndexByte Tryz.lays137 s c w
def Tryz.lays157_ren : Go.Shelf.Ren := ⟨fun | 157 => 103 | 229 => 105 | 199 => 106 | 261 => 108 | 311 => 109 | 312 => 110 | n => n, fun | 9 => 9 | 31 => 161 | 3 => 3 | 5 => 5 | 4 => 4 | 119 => 163 | 0 => 0 | 40 => 165 | 152 => 166 | 21 => 21 | 154 => 168 | 51 => 117 | 141 => 170 | 196 => 174 | 193 => 171 | 198 => 177 | 49 => 175 | 194 => 172 | 201 => 180 | 226 => 182 | 46 => 118 | 227 => 183 | n => n, fun | 0 => 1 | 6 => 2 | n => n⟩
theorem Tryz.lays157 : Go.Proofs.Lays.n157 Tryz.prog Tryz.lays157_ren := {
  mixed := by kernel_rfl
  f157 := Tryz.func103.trans (congrArg some (by kernel_rfl))
  f199 := Tryz.func106.trans (congrArg some (by kernel_rfl))
  f229 := Tryz.func105.trans (congrArg some (by kernel_rfl))
  f261 := Tryz.func108.trans (congrArg some (by kernel_rfl))
  f311 := Tryz.func109.trans (congrArg some (by kernel_rfl))
  f312 := Tryz.func110.trans (congrArg some (by kernel_rfl))
  t0 := Tryz.underlying0
  a0 := Tryz.isAgg0
  z0 := Tryz.sizeOf0
  v0 := Tryz.zeroValue0
  t3 := Tryz.underlying3
  a3 := Tryz.isAgg3
  z3 := Tryz.sizeOf3
  v3 := Tryz.zeroValue3
  t4 := Tryz.underlying4
  a4 := Tryz.isAgg4
  z4 := Tryz.sizeOf4
  v4 := Tryz.zeroValue4
  t5 := Tryz.underlying5
  a5 := Tryz.isAgg5
  z5 := Tryz.sizeOf5
  v5 := Tryz.zeroValue5
  t9 := Tryz.underlying9
  a9 := Tryz.isAgg9
  z9 := Tryz.sizeOf9
  v9 := Tryz.zeroValue9
  t21 := Tryz.underlying21
  a21 := Tryz.isAgg21
  z21 := Tryz.sizeOf21
  v21 := Tryz.zeroValue21
  t31 := Tryz.underlying161
  a31 := Tryz.isAgg161
  z31 := Tryz.sizeOf161
  v31 := Tryz.zeroValue161
  t40 := Tryz.underlying165
  a40 := Tryz.isAgg165
  z40 := Tryz.sizeOf165
  v40 := Tryz.zeroValue165
  t46 := Tryz.underlying118
  a46 := Tryz.isAgg118
  z46 := Tryz.sizeOf118
  v46 := Tryz.zeroValue118
  t49 := Tryz.underlying175
  a49 := Tryz.isAgg175
  z49 := Tryz.sizeOf175
  v49 := Tryz.zeroValue175
  t51 := Tryz.underlying117
  a51 := Tryz.isAgg117
  z51 := Tryz.sizeOf117
  v51 := Tryz.zeroValue117
  t119 := Tryz.underlying163
  a119 := Tryz.isAgg163
  z119 := Tryz.sizeOf163
  t141 := Tryz.underlying170
  a141 := Tryz.isAgg170
  z141 := Tryz.sizeOf170
  v141 := Tryz.zeroValue170
  t152 := Tryz.underlying166
  a152 := Tryz.isAgg166
  z152 := Tryz.sizeOf166
  v152 := Tryz.zeroValue166
  t154 := Tryz.underlying168
  a154 := Tryz.isAgg168
  z154 := Tryz.sizeOf168
  v154 := Tryz.zeroValue168
  t193 := Tryz.underlying171
  a193 := Tryz.isAgg171
  z193 := Tryz.sizeOf171
  v193 := Tryz.zeroValue171
  t194 := Tryz.underlying172
  a194 := Tryz.isAgg172
  z194 := Tryz.sizeOf172
  v194 := Tryz.zeroValue172
  t196 := Tryz.underlying174
  a196 := Tryz.isAgg174
  z196 := Tryz.sizeOf174
  v196 := Tryz.zeroValue174
  t198 := Tryz.underlying177
  a198 := Tryz.isAgg177
  z198 := Tryz.sizeOf177
  v198 := Tryz.zeroValue177
  t201 := Tryz.underlying180
  a201 := Tryz.isAgg180
  z201 := Tryz.sizeOf180
  v201 := Tryz.zeroValue180
  t226 := Tryz.underlying182
  a226 := Tryz.isAgg182
  z226 := Tryz.sizeOf182
  v226 := Tryz.zeroValue182
  t227 := Tryz.underlying183
  a227 := Tryz.isAgg183
  z227 := Tryz.sizeOf183
  v227 := Tryz.zeroValue183
  g0 := by kernel_rfl
  g6 := by kernel_rfl }
open Go.RowKit Go.Lib in
theorem Tryz.strings_Fields (s : ByteArray) (w : World) (hs : s.size < 4294967281) (hascii : ∀ (j : Nat) b, s.data.toList[j]? = some b → b.toNat < 128) (htab : Lib.TabIs Tryz.prog w "strings.asciiSpace" .u8 Lib.asciiSpaceTab) :
    Calls Tryz.prog 103 #[.string s] w fun e w' =>
      e = .returned (.slice (some ⟨w.heap.size, 0, none⟩) (Lib.fields s.data.toList).length (Lib.fields s.data.toList).length) ∧ w' = w.alloc (.cells ((Lib.fields s.data.toList).map fun l => Value.string ⟨l.toArray⟩).toArray 9) := Any.strings_Fields Tryz.lays157 (by kernel_rfl) (by kernel_rfl) s w hs hascii htab
def Tryz.lays108_ren : Go.Shelf.Ren := ⟨fun | 108 => 78 | n => n, fun | 28 => 59 | 3 => 3 | 0 => 0 | 4 => 4 | n => n, fun | n => n⟩
theorem Tryz.lays108 : Go.Proofs.Lays.n108 Tryz.prog Tryz.lays108_ren := {
  mixed := by kernel_rfl
  f108 := Tryz.func78.trans (congrArg some (by kernel_rfl))
  t0 := Tryz.underlying0
  a0 := Tryz.isAgg0
  z0 := Tryz.sizeOf0
  v0 := Tryz.zeroValue0
  t3 := Tryz.underlying3
  a3 := Tryz.isAgg3
  z3 := Tryz.sizeOf3
  v3 := Tryz.zeroValue3
  t4 := Tryz.underlying4
  a4 := Tryz.isAgg4
  z4 := Tryz.sizeOf4
  v4 := Tryz.zeroValue4
  t28 := Tryz.underlying59
  a28 := Tryz.isAgg59
  z28 := Tryz.sizeOf59
  v28 := Tryz.zeroValue59 }
open Go.Lib in
theorem Tryz.slices_Index_int (b off n c : Nat) (zs : List Int) (x : Int) (w : World) (hz : n ≤ zs.length) (hbig : n ≤ 9223372036854775807) (hc : ∀ j, j < zs.length → w.cell? ⟨b, off + j, none⟩ = some (.int .i64 (zs.getD j 0))) :
    Calls Tryz.prog 78 #[.slice (some ⟨b, off, none⟩) n c, .int .i64 x] w fun e w' => e = .returned (.int .i64 (Lib.idxOf (zs.take n) x)) ∧ w' = w := Any.slices_Index_int Tryz.lays108 b off n c zs x w hz hbig hc
open Go.Lib in
theorem Tryz.slices_Index_int_empty (a : Option Addr) (c : Nat) (x : Int) (w : World) :
    Calls Tryz.prog 78 #[.slice a 0 c, .int .i64 x] w fun e w' => e = .returned (.int .i64 (Lib.idxOf [] x)) ∧ w' = w := Any.slices_Index_int_empty Tryz.lays108 a c x w
def Tryz.lays107_ren : Go.Shelf.Ren := ⟨fun | 107 => 47 | 108 => 78 | n => n, fun | 28 => 59 | 3 => 3 | 4 => 4 | 0 => 0 | n => n, fun | n => n⟩
theorem Tryz.lays107 : Go.Proofs.Lays.n107 Tryz.prog Tryz.lays107_ren := {
  mixed := by kernel_rfl
  f107 := Tryz.func47.trans (congrArg some (by kernel_rfl))
  f108 := Tryz.func78.trans (congrArg some (by kernel_rfl))
  t0 := Tryz.underlying0
  a0 := Tryz.isAgg0
  z0 := Tryz.sizeOf0
  v0 := Tryz.zeroValue0
  t3 := Tryz.underlying3
  a3 := Tryz.isAgg3
  z3 := Tryz.sizeOf3
  v3 := Tryz.zeroValue3
  t4 := Tryz.underlying4
  a4 := Tryz.isAgg4
  z4 := Tryz.sizeOf4
  v4 := Tryz.zeroValue4
  t28 := Tryz.underlying59
  a28 := Tryz.isAgg59
  z28 := Tryz.sizeOf59
  v28 := Tryz.zeroValue59 }
open Go.Lib in
theorem Tryz.slices_Contains_int (b off n c : Nat) (zs : List Int) (x : Int) (w : World) (hz : n ≤ zs.length) (hbig : n ≤ 9223372036854775807) (hc : ∀ j, j < zs.length → w.cell? ⟨b, off + j, none⟩ = some (.int .i64 (zs.getD j 0))) :
    Calls Tryz.prog 47 #[.slice (some ⟨b, off, none⟩) n c, .int .i64 x] w fun e w' => e = .returned (.bool ((zs.take n).contains x)) ∧ w' = w := Any.slices_Contains_int Tryz.lays107 b off n c zs x w hz hbig hc
open Go.Lib in
theorem Tryz.slices_Contains_int_empty (a : Option Addr) (c : Nat) (x : Int) (w : World) :
    Calls Tryz.prog 47 #[.slice a 0 c, .int .i64 x] w fun e w' => e = .returned (.bool false) ∧ w' = w := Any.slices_Contains_int_empty Tryz.lays107 a c x w
def Tryz.lays115_ren : Go.Shelf.Ren := ⟨fun | 115 => 8 | n => n, fun | 37 => 30 | 4 => 4 | 9 => 9 | 5 => 5 | n => n, fun | n => n⟩
theorem Tryz.lays115 : Go.Proofs.Lays.n115 Tryz.prog Tryz.lays115_ren := {
  mixed := by kernel_rfl
  f115 := Tryz.func8.trans (congrArg some (by kernel_rfl))
  t4 := Tryz.underlying4
  a4 := Tryz.isAgg4
  z4 := Tryz.sizeOf4
  v4 := Tryz.zeroValue4
  t9 := Tryz.underlying9
  a9 := Tryz.isAgg9
  z9 := Tryz.sizeOf9
  v9 := Tryz.zeroValue9
  t37 := Tryz.underlying30
  a37 := Tryz.isAgg30
  z37 := Tryz.sizeOf30
  v37 := Tryz.zeroValue30 }
def Tryz.laysnb116_ren : Go.Shelf.Ren := ⟨fun | 116 => 74 | 115 => 8 | n => n, fun | 37 => 30 | 4 => 4 | 3 => 3 | 9 => 9 | 5 => 5 | n => n, fun | n => n⟩
theorem Tryz.laysnb116 : Go.Proofs.Lays.nb116 Tryz.prog Tryz.laysnb116_ren := {
  mixed := by kernel_rfl
  f115 := Tryz.func8.trans (congrArg some (by kernel_rfl))
  f116 := Tryz.func74.trans (congrArg some (by kernel_rfl))
  t3 := Tryz.underlying3
  a3 := Tryz.isAgg3
  z3 := Tryz.sizeOf3
  v3 := Tryz.zeroValue3
  t4 := Tryz.underlying4
  a4 := Tryz.isAgg4
  z4 := Tryz.sizeOf4
  v4 := Tryz.zeroValue4
  t9 := Tryz.underlying9
  a9 := Tryz.isAgg9
  z9 := Tryz.sizeOf9
  v9 := Tryz.zeroValue9
  t37 := Tryz.underlying30
  a37 := Tryz.isAgg30
  z37 := Tryz.sizeOf30
  v37 := Tryz.zeroValue30
  t5 := Tryz.underlying5
  a5 := Tryz.isAgg5
  z5 := Tryz.sizeOf5
  v5 := Tryz.zeroValue5 }
def Tryz.laysnb141_ren : Go.Shelf.Ren := ⟨fun | 141 => 44 | 116 => 74 | 115 => 8 | n => n, fun | 37 => 30 | 4 => 4 | 3 => 3 | 9 => 9 | 5 => 5 | n => n, fun | n => n⟩
theorem Tryz.laysnb141 : Go.Proofs.Lays.nb141 Tryz.prog Tryz.laysnb141_ren := {
  mixed := by kernel_rfl
  f115 := Tryz.func8.trans (congrArg some (by kernel_rfl))
  f116 := Tryz.func74.trans (congrArg some (by kernel_rfl))
  f141 := Tryz.func44.trans (congrArg some (by kernel_rfl))
  t3 := Tryz.underlying3
  a3 := Tryz.isAgg3
  z3 := Tryz.sizeOf3
  v3 := Tryz.zeroValue3
  t4 := Tryz.underlying4
  a4 := Tryz.isAgg4
  z4 := Tryz.sizeOf4
  v4 := Tryz.zeroValue4
  t9 := Tryz.underlying9
  a9 := Tryz.isAgg9
  z9 := Tryz.sizeOf9
  v9 := Tryz.zeroValue9
  t37 := Tryz.underlying30
  a37 := Tryz.isAgg30
  z37 := Tryz.sizeOf30
  v37 := Tryz.zeroValue30
  t5 := Tryz.underlying5
  a5 := Tryz.isAgg5
  z5 := Tryz.sizeOf5
  v5 := Tryz.zeroValue5 }
theorem Tryz.bytes_Equal (v1 v2 : Value) (xs ys : List Int) (w : World) (h1 : (convert 30 9 v1).run Tryz.prog w = .ok (.string (strOfNums xs)) w) (h2 : (convert 30 9 v2).run Tryz.prog w = .ok (.string (strOfNums ys)) w) :
    Calls Tryz.prog 8 #[v1, v2] w fun e w' => e = .returned (.bool (Lib.bytesOf xs == Lib.bytesOf ys)) ∧ w' = w := Any.bytes_Equal Tryz.lays115 v1 v2 xs ys w h1 h2
theorem Tryz.bytes_HasPrefix (b1 o1 n c b2 o2 m d : Nat) (xs ys : List Int) (w : World) (hx : xs.length = n) (hy : ys.length = m) (hnc : n ≤ c) (hc1 : ∀ i, i < n → w.cell? ⟨b1, o1 + i, none⟩ = some (.int .u8 (xs.getD i 0))) (hc2 : ∀ i, i < m → w.cell? ⟨b2, o2 + i, none⟩ = some (.int .u8 (ys.getD i 0))) :
    Calls Tryz.prog 74 #[.slice (some ⟨b1, o1, none⟩) n c, .slice (some ⟨b2, o2, none⟩) m d] w fun e w' => e = .returned (.bool (Lib.hasPrefix (Lib.bytesOf xs) (Lib.bytesOf ys))) ∧ w' = w := Any.bytes_HasPrefix Tryz.laysnb116 b1 o1 n c b2 o2 m d xs ys w hx hy hnc hc1 hc2
theorem Tryz.bytes_CutPrefix (b1 o1 n c b2 o2 m d : Nat) (xs ys : List Int) (w : World) (hx : xs.length = n) (hy : ys.length = m) (hnc : n ≤ c) (hc1 : ∀ i, i < n → w.cell? ⟨b1, o1 + i, none⟩ = some (.int .u8 (xs.getD i 0))) (hc2 : ∀ i, i < m → w.cell? ⟨b2, o2 + i, none⟩ = some (.int .u8 (ys.getD i 0))) :
    Calls Tryz.prog 44 #[.slice (some ⟨b1, o1, none⟩) n c, .slice (some ⟨b2, o2, none⟩) m d] w fun e w' => e = .returned (.tuple #[Lib.bytesTrimPrefix b1 o1 n c xs ys, .bool (Lib.hasPrefix (Lib.bytesOf xs) (Lib.bytesOf ys))]) ∧ w' = w := Any.bytes_CutPrefix Tryz.laysnb141 b1 o1 n c b2 o2 m d xs ys w hx hy hnc hc1 hc2
end Go.Proofs
namespace Go.Proofs.YtcblefmjacofgaaGreatDoor
open Go.RowKit Go.Shelf
theorem keeps_of_grows {B : Nat} {W W' : World} (h : Below W.heap.size W W') : KeepsFrom B W W' :=
  ⟨h.size, fun k _ _ hk _ => (h.block k (Array.getElem?_eq_some_iff.1 hk).1).trans hk⟩
def Still (B : Nat) (I : World → Prop) : Prop := ∀ (W : World) (l : Nat) (o o' : Obj), I W → B ≤ l → W.heap[l]? = some o → o.isCells = false → I (W.putObj l o')
def boxPost (B : Nat) (p : Addr) (I : World → Prop) (Ix : Code → World → Prop) (W : World) : Exit → Act → World → Prop
  | .normal, _, W' => KeepsFrom B W W' ∧ (W'.cell? p = W.cell? p ∧ W'.frozen? p = W.frozen? p) ∧ I W'
  | .ret, _, W' => KeepsFrom B W W' ∧ Ix .ret W'
  | .exit id, _, W' => KeepsFrom B W W' ∧ Ix (.exit id) W'
  | .goto t, _, W' => KeepsFrom B W W' ∧ Ix (.goto t) W'
  | .panic _, _, _ => False
  | .outgrown, _, _ => False
def BoxSeq (F : Fence) (n : Nat) (P : Program) (gf : Nat) (lb : Array Value) (encs : Nat → Array Value) (N : Nat) (p : Addr) (w : World) : Prop :=
  ∀ (l : Nat) (J Jx : Nat → World → Prop) (W : World), W.cell? p = w.cell? p → W.frozen? p = w.frozen? p →
    (∀ k W v, J k W → J k (W.setCell p v)) →
    (∀ k W1, k < N → J k W1 → YieldAt F (n - 1) P l (encs k) W1 fun e W' =>
      (e = .returned (.bool true) ∧ J (k + 1) W' ∧ W'.cell? p = W1.cell? p ∧ W'.frozen? p = W1.frozen? p) ∨ (e = .returned (.bool false) ∧ Jx k W')) →
    J 0 W →
    CallsIn F n P gf (#[.func (.yield l) #[] #[]] ++ lb) W fun e W' => (∃ v, e = .returned v) ∧ (J N W' ∨ ∃ k, k < N ∧ Jx k W')
theorem putObj_cell {W : World} {l : Nat} {o : Obj} {p : Addr} {v : Value} (o' : Obj) (h : W.cell? p = some v) (hl : W.heap[l]? = some o) (ho : o.isCells = false) : (W.putObj l o').cell? p = W.cell? p := by
  rw [h]
  exact cell_kept h (grownBy_putObj' W l o') (fun r e => by cases e; exact ⟨o, hl, ho⟩)
theorem putObj_frozen {W : World} {l : Nat} {o : Obj} {p : Addr} {v : Value} (o' : Obj) (h : W.cell? p = some v) (hl : W.heap[l]? = some o) (ho : o.isCells = false) : (W.putObj l o').frozen? p = W.frozen? p :=
  frozen_kept h (grownBy_putObj' W l o') (fun r e => by cases e; exact ⟨o, hl, ho⟩)
variable {F : Fence} {n : Nat} {P : Program}
theorem wpIn_range_box {g : Operand} {ps : Array Tmp} {assign body : Code} {Q : Exit → Act → World → Prop} {a : Act} {w : World}
    (hro : F.round = none) (h1 : 1 ≤ n) {gf : Nat} {lb : Array Value} (hg : a.eval g = .func (.func gf) #[] lb) (hFg : F.fn gf) (eg : ∀ args w, (callFunc gf args).run P w = .ok (.enter gf args) w)
    {encs : Nat → Array Value} {N : Nat} {p : Addr} {pv : Value} (hp : w.cell? p = some pv) (hseq : BoxSeq F (n - 1) P gf lb encs N p w) (hps : ∀ k, (encs k).size = ps.size)
    (I : Nat → World → Prop) (Ix : Code → Nat → World → Prop) (hI : ∀ k, Still w.heap.size (I k)) (hIx : ∀ c k, Still w.heap.size (Ix c k)) (hbox : ∀ k W v, I k W → I k (W.setCell p v))
    (hcell : ∀ k W, I k W → ∃ v, W.cell? p = some v)
    (h0 : ∀ o o', I 0 ((w.alloc o).alloc o')) (a₁ : Nat → Act)
    (hassign : ∀ (l : Nat) (k : Nat) (W : World) (K : Act → World → Prop), K (a₁ k) W →
      assign.wpIn (F.inRound l) (n - 1 - 1) P (Exit.then K (fun _ _ _ => False)) { tmps := (ps.zip (encs k)).foldl (fun t (p, v) => t.setIfInBounds p v) a.tmps, defers := [] } W)
    (hbody : ∀ (l : Nat) (k : Nat) (W : World), k < N → I k W → body.wpIn (F.inRound l) (n - 1 - 1) P (boxPost w.heap.size p (I (k + 1)) (fun c => Ix c k) W) (a₁ k) W)
    (hdone : ∀ (D : Nat) (W : World), w.heap.size ≤ D → I N W → W.heap[D]? = some (.deferred (some [])) → Q .normal { a with defers := { target := .collected D, args := #[] } :: a.defers } W)
    (hstop : ∀ (D : Nat) (c : Code) (k : Nat) (W : World), w.heap.size ≤ D → k < N → Ix c k W → W.heap[D]? = some (.deferred (some [])) → c.wpIn F n P Q { a with defers := { target := .collected D, args := #[] } :: a.defers } W) :
    (Code.rangeFunc g ps assign body).wpIn F n P Q a w := by
  have hpb : p.block < w.heap.size := World.block_lt_of_cell? w p hp
  refine wpIn_rangeFunc fun fn hfn => ?_
  rw [hro]
  let D := w.heap.size
  let rec' : LoopState → Option Code → Obj := fun st pe => .loop { state := st, pending := pe, fn, tmps := a.tmps, params := ps, assign, body, defers := D }
  -- the book: the record in its state, and the block for deferred calls
  let Bk : Obj → World → Prop := fun o W => W.heap[D + 1]? = some o ∧ W.heap[D]? = some (.deferred (some []))
  have bkBox : ∀ o W v, Bk o W → Bk o (W.setCell p v) := fun o W v h =>
    ⟨(Below.heap_setCell W p v (D + 1) (by show D + 1 ≠ p.block; omega)).trans h.1, (Below.heap_setCell W p v D (by show D ≠ p.block; omega)).trans h.2⟩
  have bkPut : ∀ o o' W, Bk o W → Bk o' (W.putObj (D + 1) o') := fun o o' W h =>
    ⟨World.putObj_heap_same (Array.getElem?_eq_some_iff.1 h.1).1, (World.putObj_heap_other (by omega)).trans h.2⟩
  have bkKeep : ∀ o W W', o.isCells = false → KeepsFrom w.heap.size W W' → Bk o W → Bk o W' := fun o W W' ho hk h =>
    ⟨hk.same _ _ (by show w.heap.size ≤ w.heap.size + 1; omega) h.1 ho, hk.same _ _ (Nat.le_refl _) h.2 rfl⟩
  let W1 := (w.alloc (.deferred (some []))).alloc (rec' .ready none)
  have hB1 : Bk (rec' .ready none) W1 := ⟨by
      have := World.alloc_heap_new (w.alloc (.deferred (some []))) (rec' .ready none)
      rwa [World.size_alloc] at this, (Below.heap_alloc _ _ _ (by simp [D])).trans (World.alloc_heap_new w _)⟩
  have hc1 : W1.cell? p = w.cell? p := ((((Below.refl w.heap.size w).alloc (Nat.le_refl _) _).alloc (by simp) _)).cell hpb
  have hf1 : W1.frozen? p = w.frozen? p := ((((Below.refl w.heap.size w).alloc (Nat.le_refl _) _).alloc (by simp) _)).frozen hpb
  refine ⟨D + 1, [{ target := .collected D, args := #[] }], W1, { target := .fn (.func gf) lb, args := #[.func (.yield (D + 1)) #[] #[]] }, W1, gf,
    #[.func (.yield (D + 1)) #[] #[]] ++ lb, W1, run_enterLoop_outer _ _ _ _ _, ?_, ?_, ?_, fun _ => h1, ?_⟩
  · simp only [resolve, hg]
    simp [go_sem]
  · intro f' hf'; simp [Target.leads] at hf'; subst hf'; exact hFg
  · simp [invoke, go_sem, eg]
  · refine (hseq (D + 1) (fun k W => I k W ∧ Bk (rec' .ready none) W) (fun k W => ∃ c, Ix c k W ∧ Bk (rec' .done (some c)) W) W1 hc1 hf1
      (fun k W v h => ⟨hbox k W v h.1, bkBox _ W v h.2⟩) ?_ ⟨h0 _ _, hB1⟩).mono ?_
    · -- one round
      rintro k W hk ⟨hi, hbk⟩
      have hy := run_yield (P := P) (args := encs k) hbk.1 (hps k)
      refine ⟨fn, _, assign, body, hy, roundIn_of_wpIn hfn (hassign _ k W _ ⟨_, run_beginRound hbk.1 rfl, ?_⟩)⟩
      have hi2 := hI k W (D + 1) _ (rec' .busy none) hi (by show w.heap.size ≤ w.heap.size + 1; omega) hbk.1 rfl
      have hbk2 := bkPut _ (rec' .busy none) W hbk
      obtain ⟨v, hv⟩ := hcell k W hi
      refine wpIn_mono (hbody _ k _ hk hi2) ?_
      have fin : ∀ (jump : Option Code) (W3 : World), Bk (rec' .busy none) W3 →
          (Instr.endRound (D + 1) jump).run P W3 = .ok (.bool jump.isNone) (W3.putObj (D + 1) (rec' (if jump.isNone then .ready else .done) jump)) ∧
          Bk (rec' (if jump.isNone then .ready else .done) jump) (W3.putObj (D + 1) (rec' (if jump.isNone then .ready else .done) jump)) := fun jump W3 h3 => ⟨run_endRound (P := P) jump h3.1, bkPut _ _ W3 h3⟩
      have leave : ∀ (c : Code) (W3 : World), KeepsFrom w.heap.size (W.putObj (D + 1) (rec' .busy none)) W3 → Ix c k W3 → ∃ v w', (Instr.endRound (D + 1) (some c)).run P W3 = .ok v w' ∧
          ((.returned v = Ending.returned (.bool true) ∧ (I (k + 1) w' ∧ Bk (rec' .ready none) w') ∧ w'.cell? p = W.cell? p ∧ w'.frozen? p = W.frozen? p) ∨ (.returned v = Ending.returned (.bool false) ∧ ∃ c, Ix c k w' ∧ Bk (rec' .done (some c)) w')) := fun c W3 hk3 hi3 => by
        have h3 := bkKeep _ _ _ rfl hk3 hbk2
        obtain ⟨hr, h4⟩ := fin (some c) W3 h3
        exact ⟨_, _, hr, .inr ⟨rfl, c, hIx c k _ _ _ _ hi3 (by show w.heap.size ≤ w.heap.size + 1; omega) h3.1 rfl, h4⟩⟩
      rintro e a3 W3 hq
      cases e with
      | normal =>
        obtain ⟨hk3, ⟨hcp, hfp⟩, hi3⟩ := hq
        have h3 := bkKeep _ _ _ rfl hk3 hbk2
        obtain ⟨hr, h4⟩ := fin none W3 h3
        obtain ⟨v3, hv3⟩ := hcell _ _ hi3
        refine ⟨_, _, hr, .inl ⟨rfl, ⟨hI _ _ _ _ _ hi3 (by show w.heap.size ≤ w.heap.size + 1; omega) h3.1 rfl, h4⟩, ?_, ?_⟩⟩
        · rw [putObj_cell _ hv3 h3.1 rfl, hcp, putObj_cell _ hv hbk.1 rfl]
        · rw [putObj_frozen _ hv3 h3.1 rfl, hfp, putObj_frozen _ hv hbk.1 rfl]
      | ret => exact leave _ W3 hq.1 hq.2
      | exit id => exact leave _ W3 hq.1 hq.2
      | goto t => exact leave _ W3 hq.1 hq.2
      | panic ch => exact hq.elim
      | outgrown => exact hq.elim
    · rintro e W2 ⟨⟨v, rfl⟩, (⟨hi, hbk⟩ | ⟨k, hk, c, hi, hbk⟩)⟩
      · exact ⟨none, _, run_endLoop (P := P) hbk.1 (by simp), hdone _ _ (Nat.le_refl _) (hI _ _ _ _ _ hi (by show w.heap.size ≤ w.heap.size + 1; omega) hbk.1 rfl) ((World.putObj_heap_other (by omega)).trans hbk.2)⟩
      · exact ⟨some c, _, run_endLoop (P := P) hbk.1 (by simp), hstop _ c k _ (Nat.le_refl _) hk (hIx _ _ _ _ _ _ hi (by show w.heap.size ≤ w.heap.size + 1; omega) hbk.1 rfl) ((World.putObj_heap_other (by omega)).trans hbk.2)⟩
end Go.Proofs.YtcblefmjacofgaaGreatDoor
namespace Go.Proofs.YtcblefmjacofgaaGreatDoor
open Go.RowKit
inductive Tree where
  | nil
  | one (i : Nat) (x : Way) (t : Tree)
    | two (i : Nat) (t : Tree) (j : Nat) (u : Tree)
inductive OTree where
  | nil
  | one (o : Oper) (x : Way) (t : OTree)
  | two (o : Oper) (t : OTree) (p : Oper) (u : OTree)
def treeOps (ops : Array Oper) : Tree → OTree
  | .nil => .nil
  | .one i x t => match ops[i]? with
    | some o => .one o x (treeOps ops t)
    | none => .nil
  | .two i t j u => match ops[i]?, ops[j]? with
    | some o, some p => .two o (treeOps ops t) p (treeOps ops u)
    | _, _ => .nil
def Tree.depth : Tree → Nat
  | .nil => 0
  | .one _ _ t => t.depth + 1
  | .two _ t _ u => max t.depth u.depth + 1
section
variable {P : Program} {ops : Array Oper} {Q : Exit → Act → World → Prop} {md : Region.Mode}
def wpTree (P : Program) (ops : Array Oper) (Q : Exit → Act → World → Prop) : OTree → Act → World → Prop
  | .nil, a, w => ∀ n : Late w, Q .normal a n.w
  | .one o .quiet t, a, w =>
    if Region.wanted o (yielded ops a.tmps) = true then ∃ v, (∀ n : Late w, Oper.quietUpon P (Grows n.w) n.w v ((execOp a.eval o).run P n.w)) ∧ wpTree P ops Q t (a.put o.dst v) w
    else wpTree P ops Q t (a.put o.dst undef) w
  | .one o .grow t, a, w => ∀ n : Late w,
    if Region.wanted o (yielded ops a.tmps) = true then o.wp P a n.w (fun a' w' => Grows n.w w' ∧ wpTree P ops Q t a' w') Q else wpTree P ops Q t (a.put o.dst undef) n.w
  | .one o .bar t, a, w => ∀ n : Late w,
    if Region.wanted o (yielded ops a.tmps) = true then o.wp P a n.w (fun a' w' => wpTree P ops Q t a' w') Q else wpTree P ops Q t (a.put o.dst undef) n.w
  | .two o t p u, a, w =>
    (∀ n : Late w, if Region.wanted o (yielded ops a.tmps) = true then o.wp P a n.w (fun a' w' => Grows n.w w' ∧ wpTree P ops Q t a' w') Q else wpTree P ops Q t (a.put o.dst undef) n.w) ∧
    (∀ n : Late w, if Region.wanted p (yielded ops a.tmps) = true then p.wp P a n.w (fun a' w' => wpTree P ops Q u a' w') Q else wpTree P ops Q u (a.put p.dst undef) n.w)
def treeOk (md : Region.Mode) (ops : Array Oper) (bars : List Nat) : Array Bool → Tree → Bool
  | listed, .nil => (Region.ready md ops listed).isEmpty
  | listed, .one i .quiet t => (Region.ready md ops listed).contains i && Region.free md ops listed i &&
      bars.all (fun j => match ops[j]? with | some oj => oj.after.any (fun e => Region.binds md e && e.on == i) | none => false) && treeOk md ops bars (listed.setIfInBounds i true) t
  | listed, .one i .grow t => (Region.ready md ops listed == [i]) && !bars.contains i && treeOk md ops bars (listed.setIfInBounds i true) t
  | listed, .one i .bar t => (Region.ready md ops listed == [i]) && bars.contains i && treeOk md ops bars (listed.setIfInBounds i true) t
  | listed, .two i t j u => (Region.ready md ops listed == [i, j]) && !bars.contains i && bars.contains j && treeOk md ops bars (listed.setIfInBounds i true) t && treeOk md ops bars (listed.setIfInBounds j true) u
theorem opG_grow {bar : Nat → Bool} {i : Nat} {o : Oper} {a : Act} {w' : World} {K1 K2 : Act → World → Prop} (ho : ops[i]? = some o) (hK : ∀ a w, K1 a w → K2 a w)
    (h1 : if Region.wanted o (yielded ops a.tmps) = true then o.wp P a w' (fun a' w'' => Grows w' w'' ∧ K1 a' w'') Q else K1 (a.put o.dst undef) w') :
    opG P ops Q i (fun a' w'' => (bar i = false → Grows w' w'') ∧ K2 a' w'') a w' := by
  unfold opG
  simp only [ho]
  split
  · rename_i hw
    rw [if_pos hw] at h1
    exact Oper.wp_mono (fun a2 w2 h2 => ⟨fun _ => h2.1, hK _ _ h2.2⟩) h1
  · rename_i hw
    rw [if_neg hw] at h1
    exact ⟨fun _ => Grows.refl _, hK _ _ h1⟩
theorem opG_bar {bar : Nat → Bool} {i : Nat} {o : Oper} {a : Act} {w' : World} {K1 K2 : Act → World → Prop} (ho : ops[i]? = some o) (hb : bar i = true) (hK : ∀ a w, K1 a w → K2 a w)
    (h1 : if Region.wanted o (yielded ops a.tmps) = true then o.wp P a w' (fun a' w'' => K1 a' w'') Q else K1 (a.put o.dst undef) w') :
    opG P ops Q i (fun a' w'' => (bar i = false → Grows w' w'') ∧ K2 a' w'') a w' := by
  unfold opG
  simp only [ho]
  split
  · rename_i hw
    rw [if_pos hw] at h1
    exact Oper.wp_mono (fun a2 w2 h2 => ⟨fun h => (by rw [hb] at h; cases h), hK _ _ h2⟩) h1
  · rename_i hw
    rw [if_neg hw] at h1
    exact ⟨fun h => (by rw [hb] at h; cases h), hK _ _ h1⟩
theorem anyG_of_tree (bars : List Nat) (hs : Region.noSelect ops = true) (hQ : ∀ c (a : Act) d v w, Q (.panic c) (a.put d v) w → Q (.panic c) a w) :
    ∀ (t : Tree) (f : Nat) (listed : Array Bool) (a : Act) (w : World), t.depth ≤ f → treeOk md ops bars listed t = true → wpTree P ops Q (treeOps ops t) a w →
      AnyG P md ops Q (fun j => bars.contains j) f listed a w := by
  intro t
  induction t with
  | nil =>
    intro f listed a w _ h0 h
    have h0' : Region.ready md ops listed = [] := by simpa [treeOk] using h0
    cases f with
    | zero => exact fun w' hg => ⟨h0', h ⟨w', hg⟩⟩
    | succ f => exact fun w' hg => ⟨fun _ => h ⟨w', hg⟩, fun i hi => by rw [h0'] at hi; cases hi⟩
  | one i x t ih =>
    intro f listed a w hf h0 h
    obtain ⟨f, rfl⟩ : ∃ g, f = g + 1 := ⟨f - 1, by simp [Tree.depth] at hf; omega⟩
    have hf' : t.depth ≤ f := by simp [Tree.depth] at hf; omega
    cases x with
    | quiet =>
      simp only [treeOk, Bool.and_eq_true] at h0
      obtain ⟨⟨⟨hr, hfr⟩, hb⟩, h0⟩ := h0
      have hr : i ∈ Region.ready md ops listed := by simpa using hr
      obtain ⟨_, o, ho, _⟩ := mem_ready.1 hr
      simp only [treeOps, ho, wpTree] at h
      have hbar : ∀ j oj, ops[j]? = some oj → bars.contains j = true → ∃ e ∈ oj.after, Region.binds md e = true ∧ e.on = i := by
        intro j oj hoj hj
        have := List.all_eq_true.1 hb j (by simpa using hj)
        simp only [hoj, Array.any_eq_true'] at this
        obtain ⟨e, he, h2⟩ := this
        simp only [Bool.and_eq_true, beq_iff_eq] at h2
        exact ⟨e, he, h2.1, h2.2⟩
      by_cases hw : Region.wanted o (yielded ops a.tmps) = true
      · rw [if_pos hw] at h
        obtain ⟨v, hv, h⟩ := h
        exact AnyG.first ho (Region.noSelect_spec hs) (fun c a w => hQ c a o.dst v w) hbar _ listed a w (Region.free_spec ho hfr) hr (.inl ⟨hw, fun w' g => hv ⟨w', g⟩⟩) (ih _ _ _ _ hf' h0 h)
      · rw [if_neg hw] at h
        exact AnyG.first ho (Region.noSelect_spec hs) (fun c a w => hQ c a o.dst undef w) hbar _ listed a w (Region.free_spec ho hfr) hr (.inr ⟨by simpa using hw, rfl⟩) (ih _ _ _ _ hf' h0 h)
    | grow =>
      simp only [treeOk, Bool.and_eq_true, beq_iff_eq] at h0
      obtain ⟨⟨hr, hnb⟩, h0⟩ := h0
      intro w' hg
      refine ⟨fun h1 => (by rw [h1] at hr; cases hr), fun j hj => ?_⟩
      rw [hr] at hj
      obtain rfl : j = i := by simpa using hj
      obtain ⟨_, o, ho, _⟩ := mem_ready.1 (show j ∈ Region.ready md ops listed by rw [hr]; simp)
      simp only [treeOps, ho, wpTree] at h
      exact opG_grow ho (fun a2 w2 h2 => ih f _ a2 w2 hf' h0 h2) (h ⟨w', hg⟩)
    | bar =>
      simp only [treeOk, Bool.and_eq_true, beq_iff_eq] at h0
      obtain ⟨⟨hr, hnb⟩, h0⟩ := h0
      intro w' hg
      refine ⟨fun h1 => (by rw [h1] at hr; cases hr), fun j hj => ?_⟩
      rw [hr] at hj
      obtain rfl : j = i := by simpa using hj
      obtain ⟨_, o, ho, _⟩ := mem_ready.1 (show j ∈ Region.ready md ops listed by rw [hr]; simp)
      simp only [treeOps, ho, wpTree] at h
      exact opG_bar ho hnb (fun a2 w2 h2 => ih f _ a2 w2 hf' h0 h2) (h ⟨w', hg⟩)
  | two i t j u ih1 ih2 =>
    intro f listed a w hf h0 h
    obtain ⟨f, rfl⟩ : ∃ g, f = g + 1 := ⟨f - 1, by simp [Tree.depth] at hf; omega⟩
    have hf1 : t.depth ≤ f := by simp [Tree.depth] at hf; omega
    have hf2 : u.depth ≤ f := by simp [Tree.depth] at hf; omega
    simp only [treeOk, Bool.and_eq_true, beq_iff_eq] at h0
    obtain ⟨⟨⟨⟨hr, hni⟩, hbj⟩, h1⟩, h2⟩ := h0
    obtain ⟨_, o, ho, _⟩ := mem_ready.1 (show i ∈ Region.ready md ops listed by rw [hr]; simp)
    obtain ⟨_, p, hp, _⟩ := mem_ready.1 (show j ∈ Region.ready md ops listed by rw [hr]; simp)
    simp only [treeOps, ho, hp, wpTree] at h
    intro w' hg
    refine ⟨fun h1 => (by rw [h1] at hr; cases hr), fun x hx => ?_⟩
    rw [hr] at hx
    rcases (by simpa using hx : x = i ∨ x = j) with rfl | rfl
    · exact opG_grow ho (fun a2 w2 h3 => ih1 f _ a2 w2 hf1 h1 h3) (h.1 ⟨w', hg⟩)
    · exact opG_bar hp hbj (fun a2 w2 h3 => ih2 f _ a2 w2 hf2 h2 h3) (h.2 ⟨w', hg⟩)
theorem wpIn_region_tree {id : Nat} {a : Act} {w : World} {l n : Nat} (bars : List Nat) (t : Tree) (hm : P.follows .mixedOrders = true) (hs : Region.noSelect ops = true) (hd : noDefer ops = true) (hl : t.depth ≤ ops.size)
    (hB : treeOk .any ops bars (Array.replicate ops.size false) t = true) (hQ : ∀ c (a : Act) d v w, Q (.panic c) (a.put d v) w → Q (.panic c) a w)
    (h : wpTree P ops Q (treeOps ops t) a w) : (Code.region id ops true).wpIn (Fence.wide.inRound l) n P Q a w :=
  wpIn_region_any hm (((anyG_of_tree (md := .any) bars hs hQ t _ _ a w hl hB h).up (Grows.drew w)).anyIn hd _ _ _ _)
theorem wp_region_tree {id : Nat} {a : Act} {w : World} (bars : List Nat) (t : Tree) (hm : P.follows .mixedOrders = true) (hs : Region.noSelect ops = true) (hl : t.depth ≤ ops.size)
    (hB : treeOk .any ops bars (Array.replicate ops.size false) t = true) (hQ : ∀ c (a : Act) d v w, Q (.panic c) (a.put d v) w → Q (.panic c) a w)
    (h : wpTree P ops Q (treeOps ops t) a w) : (Code.region id ops true).wp P Q a w :=
  wp_region_any hm ((anyG_of_tree (md := .any) bars hs hQ t _ _ a w hl hB h).up (Grows.drew w)).any
variable {o p : Oper} {t u : OTree} {a : Act} {w : World}
theorem tree_quiet (h : ∀ K : Act → Prop, (∀ a, wpTree P ops Q t a w → K a) →
    if Region.wanted o (yielded ops a.tmps) = true then ∃ v, (∀ n : Late w, Oper.quietUpon P (Grows n.w) n.w v ((execOp a.eval o).run P n.w)) ∧ K (a.put o.dst v) else K (a.put o.dst undef)) :
    wpTree P ops Q (.one o .quiet t) a w := h _ fun _ h => h
theorem grow_step {K1 : Act → World → Prop} {n : Late w} (h : ∀ K : Act → World → Prop, (∀ a w', Grows n.w w' → K1 a w' → K a w') →
    if Region.wanted o (yielded ops a.tmps) = true then o.wp P a n.w K Q else K (a.put o.dst undef) n.w) :
    if Region.wanted o (yielded ops a.tmps) = true then o.wp P a n.w (fun a' w' => Grows n.w w' ∧ K1 a' w') Q else K1 (a.put o.dst undef) n.w := by
  have := h (fun a' w' => Grows n.w w' ∧ K1 a' w') (fun _ _ g h => ⟨g, h⟩)
  split
  · rename_i hw; rw [if_pos hw] at this; exact this
  · rename_i hw; rw [if_neg hw] at this; exact this.2
theorem tree_grow (h : ∀ n : Late w, ∀ K : Act → World → Prop, (∀ a w', Grows n.w w' → wpTree P ops Q t a w' → K a w') →
    if Region.wanted o (yielded ops a.tmps) = true then o.wp P a n.w K Q else K (a.put o.dst undef) n.w) :
    wpTree P ops Q (.one o .grow t) a w := fun n => grow_step (h n)
theorem tree_bar (h : ∀ n : Late w, ∀ K : Act → World → Prop, (∀ a w', wpTree P ops Q t a w' → K a w') →
    if Region.wanted o (yielded ops a.tmps) = true then o.wp P a n.w K Q else K (a.put o.dst undef) n.w) :
    wpTree P ops Q (.one o .bar t) a w := fun n => h n _ (fun _ _ h => h)
theorem tree_two
    (h : ∀ n : Late w, ∀ K : Act → World → Prop, (∀ a w', Grows n.w w' → wpTree P ops Q t a w' → K a w') → if Region.wanted o (yielded ops a.tmps) = true then o.wp P a n.w K Q else K (a.put o.dst undef) n.w)
    (k : ∀ n : Late w, ∀ K : Act → World → Prop, (∀ a w', wpTree P ops Q u a w' → K a w') → if Region.wanted p (yielded ops a.tmps) = true then p.wp P a n.w K Q else K (a.put p.dst undef) n.w) :
    wpTree P ops Q (.two o t p u) a w := ⟨fun n => grow_step (h n), fun n => k n _ (fun _ _ h => h)⟩
theorem tree_nil (h : ∀ n : Late w, Q .normal a n.w) : wpTree P ops Q .nil a w := h
end
end Go.Proofs.YtcblefmjacofgaaGreatDoor
namespace Go.Proofs.YtcblefmjacofgaaGreatDoor
open Go.RowKit Go.Shelf
attribute [local go_sem] Oper.semAt_some
structure Tabs (w : World) : Prop where
  ascii : Lib.TabIs Tryz.prog w "strings.asciiSpace" .u8 Lib.asciiSpaceTab
  size : 0 < w.heap.size
  fns : ∀ k, k < 16 → w.cell? ⟨0, k, none⟩ = some (.string ⟨(I.fns.getD k []).toArray⟩)
theorem Tabs.below {w w' : World} (h : Tabs w) (hb : Below w.heap.size w w') : Tabs w' :=
  ⟨TabIs_below (g := 1) (by kernel_rfl) h.ascii hb, Nat.lt_of_lt_of_le h.size hb.size, fun k hk => (hb.cell (p := ⟨0, k, none⟩) h.size).trans (h.fns k hk)⟩
theorem digit_any (c : UInt8) (w : World) :
    Calls Tryz.prog 99 #[.int .u8 (c.toNat : Int)] w fun e w' => e = .returned (.int .i32 (I.digit c)) ∧ w = w' := by
  have hd := I.digit_bd c
  have hi : ∀ w, Calls Tryz.prog 101 #[.string ⟨I.hexB.toArray⟩, .int .u8 (c.toNat : Int)] w fun e w' => e = .returned (.int .i64 (I.digit c)) ∧ w' = w := fun w => by
    have h := Tryz.strings_IndexByte ⟨I.hexB.toArray⟩ (c.toNat : Int) w
    have e : ((c.toNat : Int).toNat.toUInt8) = c := by simp
    rw [e] at h
    exact h
  generalize I.digit c = d at *
  go_enter Tryz.func99, Tryz.ntmps99
  go_wp2_with (go_at_call 101; refine (hi _).mono ?_; rintro e w' ⟨rfl, rfl⟩)
  go_ret
  exact ⟨rfl, rfl⟩
def encR (r : I.Row) : Array Value := #[.agg #[.int .i32 r.code, .string ⟨r.name.toArray⟩, .int .i64 r.takes, .int .i64 r.leaves]]
def KeepNew (B : Nat) (W W' : World) : Prop := ∀ (k : Nat) (o : Obj), B ≤ k → W.heap[k]? = some o → o.isCells = true → W'.heap[k]? = some o
theorem rows_any (w : World) : Calls Tryz.prog 100 #[] w fun e w' => e = .returned (.func (.func 102) #[] #[]) ∧ w = w' := by
  go_enter Tryz.func100, Tryz.ntmps100
  go_wp2
  go_ret
  exact ⟨rfl, rfl⟩
set_option maxRecDepth 100000 in
set_option maxHeartbeats 4000000 in
theorem rows_seq (n : Nat) (w : World) (hT : Tabs w) :
    SeqStopsK Fence.wide n Tryz.prog 102 #[] encR (KeepNew w.heap.size) (fun xs => xs = I.rows) (fun pre => ∃ k, k ≤ I.nRows ∧ pre = I.rows.take k) I.nRows w := by
  intro l J Jx W hW hJ hJx hY h0
  have hF := Lib.hid (Tryz.strings_Fields ⟨I.opsB.toArray⟩ W (by show I.opsB.length < 4294967281; decide) (fun j b hb => by
    have h := List.all_eq_true.1 I.ops_ascii b (List.mem_of_getElem? hb)
    simpa using h) (hT.below hW).ascii)
  refine callsIn_of_wp Tryz.func102 rfl trivial ?_ rfl
  simp only [Tryz.ntmps102, List.size_toArray, List.length_cons, List.length_nil, Nat.reduceAdd, Nat.reduceSub, Array.replicate_succ, Array.replicate_zero, List.push_toArray, List.append_toArray, List.nil_append, List.cons_append]
  gi_wp2_with fail
  refine ⟨trivial, fun h => (by cases h), ?_⟩
  refine (callsIn_wide.2 hF.out).mono ?_
  rintro e W1 ⟨rfl, hW1⟩
  have hlen : (Lib.fields I.opsB).length = 3 * I.nRows := I.words_length
  obtain ⟨OB, hOB⟩ : ∃ OB, OB = Obj.cells (List.map (fun l => Value.string ⟨l.toArray⟩) (Lib.fields I.opsB)).toArray 9 := ⟨_, rfl⟩
  have hcells : ∀ W' : World, W'.heap[W.heap.size]? = some OB → ∀ i, i < 3 * I.nRows → W'.cell? ⟨W.heap.size, i, none⟩ = some (.string ⟨(I.words.getD i []).toArray⟩) := fun W' hb i hi => by
    have hi2 : i < I.words.length := by rw [I.words_length]; exact hi
    rw [hOB] at hb
    rw [cell_of_row _ W.heap.size i _ _ (0, 0) hb]
    simp only [List.getElem?_toArray, List.getElem?_map]
    show ((Lib.fields I.opsB)[i]?).map _ = _
    rw [show (Lib.fields I.opsB)[i]? = I.words[i]? from rfl, List.getElem?_eq_getElem hi2, List.getD_eq_getElem?_getD, List.getElem?_eq_getElem hi2]
    rfl
  have hOc : OB.isCells = true := by rw [hOB]; rfl
  have hB1 : W1.heap[W.heap.size]? = some OB := by rw [hW1, hOB]; exact heap_alloc_new W _
  have hJ0 : J [] W1 := by rw [hW1]; exact hJ [] _ _ none h0 (World.grownBy_alloc W _ none) (fun r e => by cases e)
  have hz1 : W1.heap.size = W.heap.size + 1 := by rw [hW1, World.size_alloc]
  have hlen2 : (Lib.fields I.opsB).length = 222 := hlen
  rw [hlen2]
  replace hW1 := Lib.hid hW1
  have hS : W.heap.size < W1.heap.size := by omega
  have hws := hW.size
  clear hF hlen hlen2 hz1 hT h0 hW hW1 hOB
  generalize W.heap.size = S at *
  replace hcells := Lib.hid hcells
  replace hB1 := Lib.hid hB1
  gi_wp2_with fail
  gi_loopw [3, 4] (fun i _ wr => ∃ k m, k ≤ 74 ∧ Hid (m = 3 * k) ∧ m ≤ 222 ∧ i = .int .i64 (m : Nat) ∧ Hid (wr.heap[S]? = some OB) ∧ S < wr.heap.size ∧ J (I.rows.take k) wr) (fun i _ _ => 225 - (intOf i).toNat)
  case atStart => exact ⟨0, 0, by omega, rfl, by omega, rfl, hB1, hS, hJ0⟩
  case round =>
    obtain ⟨k, m, hk, hm, hm2, rfl, hc, hSz, hJk⟩ := hrel
    by_cases hlt : k < 74
    · have hmv := hm.out
      have hm3 : m + 2 < 222 := by omega
      obtain ⟨h2a, h2b⟩ := I.two_at (k := k) hlt
      have y0 := hcells.out wr hc.out (3 * k) (by show 3 * k < 222; omega)
      have y1 := hcells.out wr hc.out (3 * k + 1) (by show 3 * k + 1 < 222; omega)
      have y2 := hcells.out wr hc.out (3 * k + 2) (by show 3 * k + 2 < 222; omega)
      have hrow : Hid (I.rows[k]? = some (I.row (I.words.getD (3 * k) []) (I.words.getD (3 * k + 1) []) (I.words.getD (3 * k + 2) []))) := by
        show I.rows[k]? = _
        unfold I.rows
        rw [List.getElem?_map, List.getElem?_range (show k < I.nRows from hlt)]
        rfl
      generalize I.words.getD (3 * k) [] = A at *
      generalize I.words.getD (3 * k + 1) [] = B at *
      generalize I.words.getD (3 * k + 2) [] = C at *
      match A, h2a with
      | [a0, a1], _ =>
        match C, h2b with
        | [c0, c1], _ =>
          rw [← hmv] at y0 y1 y2
          have z0 := late_cell y0
          have z1 := late_cell y1
          have z2 := late_cell y2
          have d0 := I.digit_bd a0
          have d1 := I.digit_bd a1
          have d2 := I.digit_bd c0
          have d3 := I.digit_bd c1
          have hD := Lib.hid (fun (c : UInt8) (lt : Late wr) => toG ((digit_any c lt.w).mono (R' := fun e w' => e = .returned (.int .i32 (I.digit c)) ∧ Below lt.w.heap.size lt.w w') fun e w' ⟨he, hw⟩ => ⟨he, hw ▸ Below.refl _ _⟩))
          replace hrow := Lib.hid (show I.rows[k]? = some ⟨16 * I.digit a0 + I.digit a1, B, I.digit c0, I.digit c1⟩ from hrow.out)
          generalize hG0 : I.digit a0 = g0 at *
          generalize hG1 : I.digit a1 = g1 at *
          generalize hG2 : I.digit c0 = g2 at *
          generalize hG3 : I.digit c1 = g3 at *
          have D0 := Lib.hid (hG0 ▸ hD.out a0)
          have D1 := Lib.hid (hG1 ▸ hD.out a1)
          have D2 := Lib.hid (hG2 ▸ hD.out c0)
          have D3 := Lib.hid (hG3 ▸ hD.out c1)
          clear hG0 hG1 hG2 hG3 hD hmv y0 y1 y2 h2a h2b
          have b0 : ∀ h, (⟨#[a0, a1]⟩ : ByteArray)[0]'h = a0 := fun _ => rfl
          have b1 : ∀ h, (⟨#[a0, a1]⟩ : ByteArray)[1]'h = a1 := fun _ => rfl
          have b2 : ∀ h, (⟨#[c0, c1]⟩ : ByteArray)[0]'h = c0 := fun _ => rfl
          have b3 : ∀ h, (⟨#[c0, c1]⟩ : ByteArray)[1]'h = c1 := fun _ => rfl
          have w1 : IntKind.i32.wrap (16 * g0) = 16 * g0 := IntWalk.i32_in _ (by omega)
          have w2 : IntKind.i32.wrap (16 * g0 + g1) = 16 * g0 + g1 := IntWalk.i32_in _ (by omega)
          have w3 : IntKind.i64.wrap ((m : Int) + 1) = (m : Int) + 1 := IntWalk.i64_in _ (by omega)
          have w4 : IntKind.i64.wrap ((m : Int) + 2) = (m : Int) + 2 := IntWalk.i64_in _ (by omega)
          have w5 : ((m : Int) + 1).toNat = m + 1 := by omega
          have w6 : ((m : Int) + 2).toNat = m + 2 := by omega
          have w7 : (0 : Int) ≤ (m : Int) + 1 := by omega
          have w8 : (0 : Int) ≤ (m : Int) + 2 := by omega
          have w9 : (m : Int) < 222 := by omega
          have w10 : (m : Int) + 1 < 222 := by omega
          have w11 : (m : Int) + 2 < 222 := by omega
          have w12 : IntKind.i64.wrap g2 = g2 := IntWalk.i64_in _ (by omega)
          have w13 : IntKind.i64.wrap g3 = g3 := IntWalk.i64_in _ (by omega)
          gi_wp2_with fail
          refine wpIn_wide.2 (wp_region_mix [37] [(0, .quiet), (1, .quiet), (2, .quiet), (3, .quiet), (4, .quiet), (5, .quiet), (6, .quiet), (7, .quiet), (8, .quiet), (9, .quiet), (10, .quiet), (11, .quiet), (12, .quiet), (13, .quiet), (14, .quiet), (15, .quiet), (16, .quiet), (17, .quiet), (18, .quiet), (19, .quiet), (20, .quiet), (21, .quiet), (22, .quiet), (23, .quiet), (24, .quiet), (25, .quiet), (26, .quiet), (27, .quiet), (28, .quiet), (29, .quiet), (30, .quiet), (31, .quiet), (32, .quiet), (33, .quiet), (34, .quiet), (35, .quiet), (36, .grow), (37, .bar)] (by kernel_rfl) (by kernel_rfl) (by kernel_rfl) (by kernel_rfl) (fun _ _ d _ _ h => by cases d <;> exact h) ?_)
          simp only [planOps, List.getElem?_toArray, List.getElem?_cons_zero, List.getElem?_cons_succ]
          repeat ((with_reducible refine mix_quiet (fun K hK => ?_)); go_simp; first | (refine hK _ ?_; clear hK K) | (apply Exists.intro; refine ⟨fun lt => ?_, hK _ ?_⟩; (first | with_reducible exact D0.out lt | with_reducible exact D1.out lt | with_reducible exact D2.out lt | with_reducible exact D3.out lt); clear hK K))
          refine mix_grow (fun lt K hK => ?_)
          go_simp
          refine hK _ _ (Grows.alloc _ _) ?_
          clear hK K
          refine mix_bar (fun lt2 K hK => ?_)
          have hfz := late_new_frozen lt2
          have q0 := late_new_cell (xs := [.int .i32 0, .string ByteArray.empty, .int .i64 0, .int .i64 0]) (j := 0) rfl lt2
          have q1 := late_new_cell (xs := [.int .i32 0, .string ByteArray.empty, .int .i64 0, .int .i64 0]) (j := 1) rfl lt2
          have q2 := late_new_cell (xs := [.int .i32 0, .string ByteArray.empty, .int .i64 0, .int .i64 0]) (j := 2) rfl lt2
          have q3 := late_new_cell (xs := [.int .i32 0, .string ByteArray.empty, .int .i64 0, .int .i64 0]) (j := 3) rfl lt2
          go_simp
          refine hK _ _ ?_
          clear hK K
          refine mix_nil (fun lt3 => ?_)
          have hg8 : wr.heap.size ≤ lt.w.heap.size := lt.grows.size
          have hb7 : Below wr.heap.size wr lt3.w := Below.trans lt.grows (((Below.refl _ _).alloc hg8 _).trans ((Below.mono lt2.grows (by simp; omega)).trans
            (((((((Below.refl _ _).setCell (p := ⟨lt.w.heap.size, 0, none⟩) hg8 _).setCell (p := ⟨lt.w.heap.size, 1, none⟩) hg8 _).setCell (p := ⟨lt.w.heap.size, 2, none⟩) hg8 _).setCell (p := ⟨lt.w.heap.size, 3, none⟩) hg8 _)).trans (Below.mono lt3.grows (by
              have := lt2.grows.size
              simp [World.setCell] at this ⊢; omega)))))
          have x0 := late_cell (show _ = some (.int .i32 (16 * g0 + g1)) by go_simp) lt3 (b := lt.w.heap.size) (o := 0)
          have x1 := late_cell (show _ = some (.string ⟨B.toArray⟩) by go_simp) lt3 (b := lt.w.heap.size) (o := 1)
          have x2 := late_cell (show _ = some (.int .i64 g2) by go_simp) lt3 (b := lt.w.heap.size) (o := 2)
          have x3 := late_cell (show _ = some (.int .i64 g3) by go_simp) lt3 (b := lt.w.heap.size) (o := 3)
          have hs4 : lt.w.heap.size < lt3.w.heap.size := by
            have h1 := lt2.grows.size
            have h2 := lt3.grows.size
            simp [World.setCell] at h1 h2
            omega
          have hJ3 : J (I.rows.take k) lt3.w := hJ _ _ _ none hJk ⟨hb7.os, hb7.tape, hb7.output, hb7.size, fun k hk _ => hb7.block k hk⟩ (fun r e => by cases e)
          have hc3 : Hid (lt3.w.heap[S]? = some OB) := Lib.hid ((hb7.block S hSz).trans hc.out)
          have hSz3 : S < lt3.w.heap.size := Nat.lt_of_lt_of_le hSz hb7.size
          have hlk : Hid ((I.rows.take k).length = k) := by
            show (I.rows.take k).length = k
            rw [List.length_take]
            have : I.rows.length = 74 := by unfold I.rows; rw [List.length_map, List.length_range]; rfl
            omega
          obtain ⟨fn, tmps, assign, body, hy, hR⟩ := hY (I.rows.take k) ⟨16 * g0 + g1, B, g2, g3⟩ lt3.w hJ3 (by rw [hlk.out]; exact hlt)
          have hsn : Hid (I.rows.take (k + 1) = I.rows.take k ++ [⟨16 * g0 + g1, B, g2, g3⟩]) := by
            show I.rows.take (k + 1) = _
            obtain ⟨hk', e'⟩ := List.getElem?_eq_some_iff.1 hrow.out
            rw [List.take_succ_eq_append_getElem hk', e']
          unfold encR at hy
          generalize lt3.w = W3 at *
          generalize lt.w.heap.size = s4 at *
          clear q0 q1 q2 q3 hfz hb7 hg8 hJk hc hSz z0 z1 z2 D0 D1 D2 D3 b0 b1 b2 b3 w3 w4 w5 w6 w7 w8 w9 w10 w11 w12 w13 hrow
          gi_wp2
          refine ⟨fun h => (by cases h), hR.mono ?_⟩
          clear hR hy x0 x1 x2 x3
          rintro e W4 (⟨rfl, hJ4, hk4⟩ | ⟨rfl, hJx4⟩)
          · have hc4 : Hid (W4.heap[S]? = some OB) := Lib.hid (hk4 S OB hws hc3.out hOc)
            have hS4 : S < W4.heap.size := (Array.getElem?_eq_some_iff.1 hc4.out).1
            rw [← hsn.out] at hJ4
            gi_wp2
            go_roundw
            case rel => exact ⟨k + 1, m + 3, by omega, Lib.hid (by rw [hm.out]; omega), by have := hm.out; omega, by go_num, hc4, hS4, hJ4⟩
            case measure => simp [intOf]; omega
          · rw [← hsn.out] at hJx4
            gi_wp2
            exact bodyPost_ret (results_none rfl _ _ _) rfl ⟨⟨_, rfl⟩, .inr ⟨_, ⟨k + 1, by show k + 1 ≤ 74; omega, rfl⟩, hJx4⟩⟩
    · obtain rfl : k = 74 := by omega
      have hmv := hm.out
      obtain rfl : m = 222 := by omega
      have hall : I.rows.take 74 = I.rows := by
        rw [List.take_of_length_le]
        unfold I.rows; rw [List.length_map, List.length_range]; exact Nat.le_refl _
      rw [hall] at hJk
      replace hall := Lib.hid hall
      gi_wp2
      go_end0
      exact ⟨⟨_, rfl⟩, .inl hJk⟩
end Go.Proofs.YtcblefmjacofgaaGreatDoor
namespace Go.Proofs.YtcblefmjacofgaaGreatDoor
open Go.RowKit Go.Shelf
attribute [local go_sem] Oper.semAt_some
def FindOf (q : Bool) (w : World) (e : Ending) (w' : World) : Prop :=
  ∃ (c : Int) (s : ByteArray) (x y : Int), e = .returned (.tuple #[.agg #[.int .i32 c, .string s, .int .i64 x, .int .i64 y], .bool q]) ∧ Below w.heap.size w w'
set_option maxHeartbeats 1000000 in
set_option maxRecDepth 100000 in
theorem find_fn (f : Nat) (a : Int) (hf : f < 16) (hne : (I.fns.getD f []).isEmpty = false) (w : World) (hT : Tabs w) :
    Calls Tryz.prog 98 #[.agg #[.int .u8 (f : Nat), .int .i32 a]] w (FindOf true w) := by
  have hfn := hT.fns f hf
  have hz := hT.size
  obtain ⟨S, hS⟩ : ∃ S, I.fns.getD f [] = S := ⟨_, rfl⟩
  rw [hS] at hne hfn
  replace hS := Lib.hid hS
  have hfA : ∀ o, (w.alloc o).cell? ⟨0, f, none⟩ = some (.string ⟨S.toArray⟩) := fun o =>
    (((Below.refl w.heap.size w).alloc (Nat.le_refl _) o).cell (p := ⟨0, f, none⟩) (show 0 < w.heap.size from by omega)).trans hfn
  clear hT
  have h3 : (0 : Int) ≤ 3 * (f : Int) := by omega
  have h15 : f ≤ 14 := by
    rcases Nat.lt_or_ge f 15 with h | h
    · omega
    · obtain rfl : f = 15 := by omega
      rw [← hS.out] at hne
      exact absurd hne (by decide)
  have h4 : 3 * (f : Int) ≤ 44 := by omega
  have hU : ((⟨#[48, 48, 32, 48, 49, 32, 46, 46, 32, 49, 49, 32, 48, 49, 32, 49, 49, 32, 46, 46, 32, 48, 49, 32, 49, 49, 32, 51, 49, 32, 49, 48, 32, 48, 48, 32, 49, 49, 32, 49, 48, 32, 50, 48]⟩ : ByteArray).extract (3 * f) 44).size = 44 - 3 * f := by
    rw [ByteArray.size_extract]
    show min 44 44 - 3 * f = _
    omega
  replace hU := Lib.hid hU
  go_enter Tryz.func98, Tryz.ntmps98
  go_wp2_with fail
  refine wp_scope_straight ?_
  go_wp2_with fail
  obtain ⟨W, hW⟩ : ∃ W, (((w.alloc (Obj.cells #[Value.int IntKind.u8 (f : Int), Value.int IntKind.i32 a] 131)).alloc (Obj.cells #[Value.int IntKind.i32 0, Value.string ⟨#[]⟩, Value.int IntKind.i64 0, Value.int IntKind.i64 0] 151)).alloc (Obj.cells #[Value.bool false] 4)) = W := ⟨_, rfl⟩
  rw [hW]
  have hbW : Below w.heap.size w W := by rw [← hW]; exact (((Below.refl _ w).alloc (Nat.le_refl _) _).alloc (by simp) _).alloc (by simp; omega) _
  have hzW : W.heap.size = w.heap.size + 3 := by rw [← hW]; simp
  have c0 : W.cell? ⟨w.heap.size, 0, none⟩ = some (.int .u8 (f : Int)) := by rw [← hW]; simp [go_sem]
  have c1 : W.cell? ⟨w.heap.size + 1, 0, none⟩ = some (.int .i32 0) := by rw [← hW]; simp [go_sem]
  have c2 : W.cell? ⟨w.heap.size + 1, 1, none⟩ = some (.string ⟨#[]⟩) := by rw [← hW]; simp [go_sem]
  have c3 : W.cell? ⟨w.heap.size + 1, 2, none⟩ = some (.int .i64 0) := by rw [← hW]; simp [go_sem]
  have c4 : W.cell? ⟨w.heap.size + 1, 3, none⟩ = some (.int .i64 0) := by rw [← hW]; simp [go_sem]
  have c5 : W.cell? ⟨w.heap.size + 1 + 1, 0, none⟩ = some (.bool false) := by rw [← hW]; simp [go_sem]
  have g1 : ∀ j, W.frozen? ⟨w.heap.size + 1, j, none⟩ = false := fun j => by rw [← hW]; simp [go_sem]
  have g2 : ∀ j, W.frozen? ⟨w.heap.size + 1 + 1, j, none⟩ = false := fun j => by rw [← hW]; simp [go_sem]
  have cF : W.cell? ⟨0, f, none⟩ = some (.string ⟨S.toArray⟩) := (hbW.cell (p := ⟨0, f, none⟩) (show 0 < w.heap.size from by omega)).trans hfn
  obtain ⟨U, hUe⟩ : ∃ U : ByteArray, U = (⟨#[48, 48, 32, 48, 49, 32, 46, 46, 32, 49, 49, 32, 48, 49, 32, 49, 49, 32, 46, 46, 32, 48, 49, 32, 49, 49, 32, 51, 49, 32, 49, 48, 32, 48, 48, 32, 49, 49, 32, 49, 48, 32, 50, 48]⟩ : ByteArray).extract (3 * f) 44 := ⟨_, rfl⟩
  have hUs := hU.out
  rw [← hUe] at hUs ⊢
  have hU0 : 0 < U.size := by omega
  have hU1 : 1 < U.size := by omega
  have hU2 : (1 : Int) < (U.size : Int) := by omega
  have hU3 : (0 : Int) < (U.size : Int) := by omega
  have x0 : ∃ x, ∀ h, U[0]'h = x := ⟨U[0], fun _ => rfl⟩
  have x1 : ∃ x, ∀ h, U[1]'h = x := ⟨U[1], fun _ => rfl⟩
  obtain ⟨x0, hx0⟩ := x0
  obtain ⟨x1, hx1⟩ := x1
  have d0 := I.digit_bd x0
  have d1 := I.digit_bd x1
  have D0 := Lib.hid (fun lt : Late W => toG ((digit_any x0 lt.w).mono (R' := fun e w' => e = .returned (.int .i32 (I.digit x0)) ∧ Below lt.w.heap.size lt.w w') fun e w' ⟨he, hw⟩ => ⟨he, hw ▸ Below.refl _ _⟩))
  have D1 := Lib.hid (fun lt : Late W => toG ((digit_any x1 lt.w).mono (R' := fun e w' => e = .returned (.int .i32 (I.digit x1)) ∧ Below lt.w.heap.size lt.w w') fun e w' ⟨he, hw⟩ => ⟨he, hw ▸ Below.refl _ _⟩))
  generalize I.digit x0 = g0 at *
  generalize I.digit x1 = g1' at *
  have w12 : IntKind.i64.wrap g0 = g0 := IntWalk.i64_in _ (by omega)
  have w13 : IntKind.i64.wrap g1' = g1' := IntWalk.i64_in _ (by omega)
  have q0 := late_cell c0
  have qF := late_cell cF
  have hzl : w.heap.size + 1 + 1 < W.heap.size := by omega
  have q1 := late_cell c1
  have q2 := late_cell c2
  have q3 := late_cell c3
  have q4 := late_cell c4
  have q5 := late_cell c5
  have r1 : ∀ (n : Late W) j, n.w.frozen? ⟨w.heap.size + 1, j, none⟩ = false := fun n j => ((n.grows).frozen (p := ⟨w.heap.size + 1, j, none⟩) (show w.heap.size + 1 < W.heap.size by omega)).trans (g1 j)
  have r2 : ∀ (n : Late W) j, n.w.frozen? ⟨w.heap.size + 1 + 1, j, none⟩ = false := fun n j => ((n.grows).frozen (p := ⟨w.heap.size + 1 + 1, j, none⟩) (show w.heap.size + 1 + 1 < W.heap.size by omega)).trans (g2 j)
  clear hW c0 c1 c2 c3 c4 c5 cF hfA hUs hUe hU hfn g1 g2
  refine wp_region_mix [13, 14] [(0, .quiet), (1, .quiet), (2, .quiet), (3, .quiet), (4, .quiet), (5, .quiet), (6, .quiet), (7, .quiet), (8, .quiet), (9, .quiet), (10, .quiet), (11, .quiet), (12, .quiet), (13, .bar), (14, .bar)] (by kernel_rfl) (by kernel_rfl) (by kernel_rfl) (by kernel_rfl) (fun _ _ d _ _ h => by cases d <;> exact h) ?_
  simp only [planOps, List.getElem?_toArray, List.getElem?_cons_zero, List.getElem?_cons_succ]
  repeat ((with_reducible refine mix_quiet (fun K hK => ?_)); go_simp; first | (refine hK _ ?_; clear hK K) | (apply Exists.intro; refine ⟨fun lt => ?_, hK _ ?_⟩; (first | with_reducible exact D0.out lt | with_reducible exact D1.out lt); clear hK K))
  refine mix_bar (fun lt2 K hK => ?_)
  go_simp
  refine hK _ _ ?_
  clear hK K
  refine mix_bar (fun lt3 K hK => ?_)
  have p0 := late_cell (show _ = some (.int .i32 0) by go_simp) lt3 (b := w.heap.size + 1) (o := 0)
  have p1 := late_cell (show _ = some (.string ⟨S.toArray⟩) by go_simp) lt3 (b := w.heap.size + 1) (o := 1)
  have p2 := late_cell (show _ = some (.int .i64 g0) by go_simp) lt3 (b := w.heap.size + 1) (o := 2)
  have p3 := late_cell (show _ = some (.int .i64 g1') by go_simp) lt3 (b := w.heap.size + 1) (o := 3)
  have p5 := late_cell (show _ = some (.bool false) by go_simp) lt3 (b := w.heap.size + 1 + 1) (o := 0)
  have hl2 := lt2.grows.size
  have hl3 := lt3.grows.size
  simp [World.setCell] at hl3
  have pf : lt3.w.frozen? ⟨w.heap.size + 1 + 1, 0, none⟩ = false := by
    refine ((lt3.grows).frozen (p := ⟨w.heap.size + 1 + 1, 0, none⟩) ?_).trans ?_
    · show w.heap.size + 1 + 1 < _
      simp [World.setCell]
      omega
    · rw [World.frozen?_setCell, World.frozen?_setCell, World.frozen?_setCell, World.frozen?_setCell]
      exact r2 lt2 0
  have hb3 : Below w.heap.size w lt3.w := hbW.trans ((lt2.grows.mono (by omega)).trans
    (((((Below.refl _ _).setCell (p := ⟨w.heap.size + 1, 0, none⟩) (by show w.heap.size ≤ w.heap.size + 1; omega) _).setCell (p := ⟨w.heap.size + 1, 1, none⟩) (by show w.heap.size ≤ w.heap.size + 1; omega) _).setCell (p := ⟨w.heap.size + 1, 2, none⟩) (by show w.heap.size ≤ w.heap.size + 1; omega) _).setCell (p := ⟨w.heap.size + 1, 3, none⟩) (by show w.heap.size ≤ w.heap.size + 1; omega) _ |>.trans (lt3.grows.mono (by simp [World.setCell]; omega))))
  clear q0 q1 q2 q3 q4 q5 qF r1 r2 D0 D1
  go_simp
  refine hK _ _ ?_
  clear hK K
  refine mix_nil (fun lt4 => ?_)
  have s0 := late_cell (show _ = some (.int .i32 0) by go_simp) lt4 (b := w.heap.size + 1) (o := 0)
  have s1 := late_cell (show _ = some (.string ⟨S.toArray⟩) by go_simp) lt4 (b := w.heap.size + 1) (o := 1)
  have s2 := late_cell (show _ = some (.int .i64 g0) by go_simp) lt4 (b := w.heap.size + 1) (o := 2)
  have s3 := late_cell (show _ = some (.int .i64 g1') by go_simp) lt4 (b := w.heap.size + 1) (o := 3)
  have s5 := late_cell (show _ = some (.bool true) by go_simp) lt4 (b := w.heap.size + 1 + 1) (o := 0)
  have hb4 : Below w.heap.size w lt4.w := hb3.trans (((Below.refl _ _).setCell (p := ⟨w.heap.size + 1 + 1, 0, none⟩) (by show w.heap.size ≤ w.heap.size + 1 + 1; omega) _).trans (lt4.grows.mono (by simp [World.setCell]; omega)))
  clear p0 p1 p2 p3 p5 pf
  generalize lt4.w = W5 at *
  go_wp2_with fail
  show bodyPost Tryz.prog Tryz.f98 (FindOf true w) .ret _ W5
  exact bodyPost_ret (v := .tuple #[.agg #[.int .i32 0, .string ⟨S.toArray⟩, .int .i64 g0, .int .i64 g1'], .bool true]) (by simp [results, Tryz.results98, go_sem, s0, s1, s2, s3, s5]) rfl ⟨_, _, _, _, rfl, hb4⟩
set_option maxHeartbeats 1000000 in
set_option maxRecDepth 100000 in
theorem find_no (f : Nat) (a : Int) (hf : f ≤ 255) (h15 : f ≠ 15) (hne : f < 16 → (I.fns.getD f []).isEmpty = true) (w : World) (hT : Tabs w) :
    Calls Tryz.prog 98 #[.agg #[.int .u8 (f : Nat), .int .i32 a]] w (FindOf false w) := by
  have hz := hT.size
  have g15 : (((f : Nat) : Int) == 15) = false := by simp; omega
  have g15' : (((f : Nat) : Int) != 15) = true := by simp; omega
  by_cases hlt : f < 16
  · have hfn := hT.fns f hlt
    rw [List.isEmpty_iff.1 (hne hlt)] at hfn
    have hfA : ∀ o, (w.alloc o).cell? ⟨0, f, none⟩ = some (.string ⟨#[]⟩) := fun o =>
      (((Below.refl w.heap.size w).alloc (Nat.le_refl _) o).cell (p := ⟨0, f, none⟩) (show 0 < w.heap.size from by omega)).trans hfn
    clear hT hne
    go_enter Tryz.func98, Tryz.ntmps98
    go_wp2_with fail
    refine wp_scope_straight ?_
    go_wp2_with fail
    show bodyPost Tryz.prog Tryz.f98 (FindOf false w) .ret _ _
    exact bodyPost_ret (v := .tuple #[.agg #[.int .i32 0, .string ⟨#[]⟩, .int .i64 0, .int .i64 0], .bool false]) (by simp [results, Tryz.results98, go_sem]) rfl ⟨_, _, _, _, rfl, (((Below.refl _ w).alloc (Nat.le_refl _) _).alloc (by simp) _).alloc (by simp; omega) _⟩
  · have g16 : decide ((f : Int) < 16) = false := by simp; omega
    clear hT hne
    go_enter Tryz.func98, Tryz.ntmps98
    go_wp2_with fail
    refine wp_scope_straight ?_
    go_wp2_with fail
    show bodyPost Tryz.prog Tryz.f98 (FindOf false w) .ret _ _
    exact bodyPost_ret (v := .tuple #[.agg #[.int .i32 0, .string ⟨#[]⟩, .int .i64 0, .int .i64 0], .bool false]) (by simp [results, Tryz.results98, go_sem]) rfl ⟨_, _, _, _, rfl, (((Below.refl _ w).alloc (Nat.le_refl _) _).alloc (by simp) _).alloc (by simp; omega) _⟩
theorem KeepNew.trans {B : Nat} {X Y Z : World} (h : KeepNew B X Y) (k : KeepNew B Y Z) : KeepNew B X Z := fun i o hB hi ho => k i o hB (h i o hB hi ho) ho
theorem KeepNew.putObj {B : Nat} (W : World) (l : Nat) (o o' : Obj) (hl : W.heap[l]? = some o) (ho : o.isCells = false) : KeepNew B W (W.putObj l o') := fun i x _ hi hx => by
  have hne : i ≠ l := by rintro rfl; rw [hl] at hi; cases hi; rw [ho] at hx; cases hx
  rw [World.putObj_heap_other hne]; exact hi
structure FAt (w : World) (a : Int) (q : Bool) (W : World) : Prop where
  arg : W.cell? ⟨w.heap.size, 1, none⟩ = some (.int .i32 a)
  row : ∃ (u0 : Int) (u1 : ByteArray) (u2 u3 : Int), W.cell? ⟨w.heap.size + 1, 0, none⟩ = some (.int .i32 u0) ∧ W.cell? ⟨w.heap.size + 1, 1, none⟩ = some (.string u1) ∧ W.cell? ⟨w.heap.size + 1, 2, none⟩ = some (.int .i64 u2) ∧ W.cell? ⟨w.heap.size + 1, 3, none⟩ = some (.int .i64 u3)
  ok : W.cell? ⟨w.heap.size + 1 + 1, 0, none⟩ = some (.bool q)
  frow : ∀ j, W.frozen? ⟨w.heap.size + 1, j, none⟩ = false
  fok : ∀ j, W.frozen? ⟨w.heap.size + 1 + 1, j, none⟩ = false
  below : Below w.heap.size w W
theorem FAt.kept {w : World} {a : Int} {q : Bool} {W W' : World} (h : FAt w a q W) (hg : ∀ k, k < w.heap.size + 3 → W'.heap[k]? = W.heap[k]?) (hb : Below w.heap.size w W') : FAt w a q W' := by
  have hc : ∀ b o, b < w.heap.size + 3 → W'.cell? ⟨b, o, none⟩ = W.cell? ⟨b, o, none⟩ := fun b o hb => World.cell?_of_block (hg b hb)
  have hf : ∀ b o, b < w.heap.size + 3 → W'.frozen? ⟨b, o, none⟩ = W.frozen? ⟨b, o, none⟩ := fun b o hb => World.frozen?_of_block (hg b hb)
  obtain ⟨u0, u1, u2, u3, r0, r1, r2, r3⟩ := h.row
  refine ⟨(hc _ _ (by omega)).trans h.arg, ⟨u0, u1, u2, u3, (hc _ _ (by omega)).trans r0, (hc _ _ (by omega)).trans r1, (hc _ _ (by omega)).trans r2, (hc _ _ (by omega)).trans r3⟩, (hc _ _ (by omega)).trans h.ok, fun j => (hf _ _ (by omega)).trans (h.frow j), fun j => (hf _ _ (by omega)).trans (h.fok j), hb⟩
theorem FAt.own {w : World} {a : Int} {q : Bool} {W W' : World} {row : Option Nat} (h : FAt w a q W) (hz : w.heap.size + 3 ≤ W.heap.size) (hg : W.grownBy W' row) (hr : ∀ r, row = some r → w.heap.size + 3 ≤ r) : FAt w a q W' :=
  h.kept (fun k hk => hg.block k (by omega) (fun e => by have := hr k e.symm; omega)) (h.below.grown hg (by omega) (fun k e => by have := hr k e; omega))
theorem cell_far (w : World) (p a : Addr) (v : Value) (h : p.block ≠ a.block) : (w.setCell p v).cell? a = w.cell? a := World.cell?_setCell_other w p a v (fun e => h (by rw [e]))
theorem cell_some {W : World} {p q : Addr} {u : Value} (v : Value) (h : W.cell? p = some u) : ∃ x, (W.setCell q v).cell? p = some x := by
  by_cases e : p = q
  · subst e; exact ⟨v, World.cell?_setCell_same' _ _ _ (by rw [h]; rfl)⟩
  · exact ⟨u, (World.cell?_setCell_other W q p v (fun h => e h.symm)).trans h⟩
abbrev rowStored (W : World) (s : Nat) (c : Int) (n : ByteArray) (x y : Int) : World :=
  (((W.setCell ⟨s, 0, none⟩ (.int .i32 c)).setCell ⟨s, 1, none⟩ (.string n)).setCell ⟨s, 2, none⟩ (.int .i64 x)).setCell ⟨s, 3, none⟩ (.int .i64 y)
theorem rowStored_far (W : World) (s : Nat) (c : Int) (n : ByteArray) (x y : Int) (a : Addr) (h : s ≠ a.block) : (rowStored W s c n x y).cell? a = W.cell? a := by
  rw [cell_far _ _ _ _ h, cell_far _ _ _ _ h, cell_far _ _ _ _ h, cell_far _ _ _ _ h]
theorem FAt.setRow {w : World} {a : Int} {q : Bool} {W : World} (h : FAt w a q W) (c : Int) (n : ByteArray) (x y : Int) : FAt w a q (rowStored W (w.heap.size + 1) c n x y) := by
  obtain ⟨u0, u1, u2, u3, r0, r1, r2, r3⟩ := h.row
  refine ⟨(rowStored_far _ _ _ _ _ _ _ (by show w.heap.size + 1 ≠ w.heap.size; omega)).trans h.arg, ⟨c, n, x, y, by go_simp, by go_simp, by go_simp, by go_simp⟩, (rowStored_far _ _ _ _ _ _ _ (by show w.heap.size + 1 ≠ w.heap.size + 1 + 1; omega)).trans h.ok,
    fun i => by rw [World.frozen?_setCell, World.frozen?_setCell, World.frozen?_setCell, World.frozen?_setCell]; exact h.frow i, fun i => by rw [World.frozen?_setCell, World.frozen?_setCell, World.frozen?_setCell, World.frozen?_setCell]; exact h.fok i, ?_⟩
  exact (((h.below.setCell (p := ⟨w.heap.size + 1, 0, none⟩) (by show w.heap.size ≤ w.heap.size + 1; omega) _).setCell (p := ⟨w.heap.size + 1, 1, none⟩) (by show w.heap.size ≤ w.heap.size + 1; omega) _).setCell (p := ⟨w.heap.size + 1, 2, none⟩) (by show w.heap.size ≤ w.heap.size + 1; omega) _).setCell (p := ⟨w.heap.size + 1, 3, none⟩) (by show w.heap.size ≤ w.heap.size + 1; omega) _
theorem FAt.setOk {w : World} {a : Int} {q : Bool} {W : World} (h : FAt w a q W) (q' : Bool) : FAt w a q' (W.setCell ⟨w.heap.size + 1 + 1, 0, none⟩ (.bool q')) := by
  obtain ⟨u0, u1, u2, u3, r0, r1, r2, r3⟩ := h.row
  have far : ∀ j, (W.setCell ⟨w.heap.size + 1 + 1, 0, none⟩ (.bool q')).cell? ⟨w.heap.size + 1, j, none⟩ = W.cell? ⟨w.heap.size + 1, j, none⟩ := fun j => cell_far _ _ _ _ (by show w.heap.size + 1 + 1 ≠ w.heap.size + 1; omega)
  exact ⟨(cell_far _ _ _ _ (by show w.heap.size + 1 + 1 ≠ w.heap.size; omega)).trans h.arg, ⟨u0, u1, u2, u3, (far 0).trans r0, (far 1).trans r1, (far 2).trans r2, (far 3).trans r3⟩, World.cell?_setCell_same' _ _ _ (by rw [h.ok]; rfl),
    fun i => by rw [World.frozen?_setCell]; exact h.frow i, fun i => by rw [World.frozen?_setCell]; exact h.fok i, h.below.setCell (p := ⟨w.heap.size + 1 + 1, 0, none⟩) (by show w.heap.size ≤ w.heap.size + 1 + 1; omega) _⟩
theorem KeepNew.refl (B : Nat) (W : World) : KeepNew B W W := fun _ _ _ h _ => h
theorem KeepNew.setCell {B : Nat} (W : World) (p : Addr) (v : Value) (h : p.block < B) : KeepNew B W (W.setCell p v) := fun k o hk ho _ => (Below.heap_setCell W p v k (by omega)).trans ho
set_option maxHeartbeats 2000000 in
set_option maxRecDepth 100000 in
theorem find_op (a : Int) (w : World) (hT : Tabs w) :
    Calls Tryz.prog 98 #[.agg #[.int .u8 15, .int .i32 a]] w (FindOf (I.isOp a) w) := by
  have hz := hT.size
  have hfn := hT.fns 15 (by omega)
  have hfn : w.cell? ⟨0, 15, none⟩ = some (.string ⟨#[]⟩) := hfn
  have hfA : ∀ o, (w.alloc o).cell? ⟨0, 15, none⟩ = some (.string ⟨#[]⟩) := fun o =>
    (((Below.refl w.heap.size w).alloc (Nat.le_refl _) o).cell (p := ⟨0, 15, none⟩) (show 0 < w.heap.size from by omega)).trans hfn
  refine (callsIn_wide (n := 9)).1 ?_
  refine callsIn_of_wp_marks Tryz.func98 rfl trivial ?_ rfl
  simp only [Tryz.ntmps98, List.size_toArray, List.length_cons, List.length_nil, Nat.reduceAdd, Nat.reduceSub, Array.replicate_succ, Array.replicate_zero, List.push_toArray, List.append_toArray, List.nil_append, List.cons_append]
  gi_wp2
  refine wpIn_wide.2 (wp_scope_straight ((wpIn_wide (n := 9)).1 ?_))
  gi_wp2
  apply wpIn_label
  gi_wp2_with (refine ⟨trivial, ?_⟩; gi_at_call 100; refine (callsIn_wide.2 (rows_any _)).mono ?_; rintro e w' ⟨rfl, rfl⟩)
  obtain ⟨W0, hW0⟩ : ∃ W0, (((w.alloc (Obj.cells #[Value.int IntKind.u8 15, Value.int IntKind.i32 a] 131)).alloc (Obj.cells #[Value.int IntKind.i32 0, Value.string ⟨#[]⟩, Value.int IntKind.i64 0, Value.int IntKind.i64 0] 151)).alloc (Obj.cells #[Value.bool false] 4)) = W0 := ⟨_, rfl⟩
  rw [hW0]
  have hb0 : Below w.heap.size w W0 := by rw [← hW0]; exact (((Below.refl _ w).alloc (Nat.le_refl _) _).alloc (by simp) _).alloc (by simp; omega) _
  have hz0 : W0.heap.size = w.heap.size + 3 := by rw [← hW0]; simp
  have hF0 : FAt w a false W0 := by
    rw [← hW0]
    exact ⟨by simp [go_sem], ⟨0, ⟨#[]⟩, 0, 0, by simp [go_sem], by simp [go_sem], by simp [go_sem], by simp [go_sem]⟩, by simp [go_sem], fun j => by simp [go_sem], fun j => by simp [go_sem], hW0 ▸ hb0⟩
  have hT0 := hT.below hb0
  clear hW0 hfA hfn
  refine wpIn_rangeFunc_ownH (n := 9) rfl (by omega) (gf := 102) (lb := #[]) rfl trivial (enters_of Tryz.func102 (by kernel_rfl) rfl) (Kp := KeepNew W0.heap.size) (rows_seq (9 - 1) W0 hT0)
    (fun h k => h.trans k) (fun W l o o' _ hl ho _ => KeepNew.putObj W l o o' hl ho) (Below.refl _ _) (fun _ => rfl)
    (fun pre W => FAt w a false W ∧ (pre.any fun r => r.code == a) = false ∧ w.heap.size + 3 ≤ W.heap.size) (fun c pre W => c = .exit 0 ∧ FAt w a true W ∧ (pre.any fun r => r.code == a) = true ∧ w.heap.size + 3 ≤ W.heap.size)
    (fun pre W W' row hs hg hr => ⟨hs.1.own hs.2.2 hg (fun r e => by have := (hr r e).1; omega), hs.2.1, by have := hg.size; omega⟩)
    (fun c pre W W' row hs hg hr => ⟨hs.1, hs.2.1.own hs.2.2.2 hg (fun r e => by have := (hr r e).1; omega), hs.2.2.1, by have := hg.size; omega⟩)
    ⟨hF0, rfl, by omega⟩
    (fun x a' W => W.cell? ⟨w.heap.size + 1, 0, none⟩ = some (.int .i32 x.code) ∧ a' = { tmps := #[Value.agg #[Value.int IntKind.u8 15, Value.int IntKind.i32 a], Value.pointer (some ⟨w.heap.size, 0, none⟩), Value.pointer (some ⟨w.heap.size + 1, 0, none⟩), Value.pointer (some ⟨w.heap.size + 1 + 1, 0, none⟩), undef,
      Value.pointer (some ⟨w.heap.size, 0, none⟩), Value.int IntKind.u8 15, Value.int IntKind.i64 15, Value.bool true, Value.bool true, Value.pointer (some ⟨w.heap.size, 0, none⟩), Value.int IntKind.u8 15, Value.pointer (some ⟨0, 15, none⟩), Value.string ⟨#[]⟩,
      Value.bool false, Value.bool false, undef, undef, undef, undef, undef, undef, undef, undef, undef, undef, undef, undef, undef, undef, undef, undef, undef, undef, Value.pointer (some ⟨w.heap.size, 0, none⟩), Value.int IntKind.u8 15, Value.bool false, undef,
      Value.func (Fn.func 102) #[] #[], .agg #[.int .i32 x.code, .string ⟨x.name.toArray⟩, .int .i64 x.takes, .int .i64 x.leaves], undef, undef, undef, undef, undef, undef, undef, undef, undef], defers := [] })
    (fun x a' _ W W' row hs hg hr => ⟨(cell_kept hs.1 hg (fun r e => (hr r e).2)), hs.2⟩)
    ?assign ?body ?done ?stop
  case assign =>
    rintro l pre x W K ⟨hF, hp, hsz⟩ hK
    obtain ⟨u0, u1, u2, u3, r0, r1, r2, r3⟩ := hF.row
    have f2 := hF.frow
    unfold encR
    gi_wp2
    refine hK _ _ ((((KeepsOthers.setCell _ _ _).trans (KeepsOthers.setCell _ _ _)).trans (KeepsOthers.setCell _ _ _)).trans (KeepsOthers.setCell _ _ _) |>.from _)
      ((((KeepNew.setCell _ _ _ ?_).trans (KeepNew.setCell _ _ _ ?_)).trans (KeepNew.setCell _ _ _ ?_)).trans (KeepNew.setCell _ _ _ ?_)) ⟨hF.setRow _ _ _ _, hp, by simp [World.setCell]; omega⟩ ⟨?_, rfl⟩
    any_goals (show w.heap.size + 1 < W0.heap.size; omega)
    go_simp
  case body =>
    rintro l pre x a' W hl ⟨r, hr⟩ ⟨hF, hp, hsz⟩ ⟨hx, rfl⟩ hlt
    have ha := hF.arg
    have hok := hF.ok
    have hfo := hF.fok
    by_cases hxa : x.code = a
    · have hany : ((pre ++ [x]).any fun r => r.code == a) = true := by simp [hxa]
      subst hxa
      replace hany := Lib.hid hany
      gi_wp2
      exact ⟨(KeepsOthers.setCell _ _ _).from _, rfl, hF.setOk true, hany.out, by simp [World.setCell]; omega⟩
    · have hany : ((pre ++ [x]).any fun r => r.code == a) = false := by rw [List.any_append, hp]; simp [hxa]
      replace hany := Lib.hid hany
      have hne : (x.code == a) = false := by simp [hxa]
      gi_wp2
      exact ⟨KeepsFrom.refl _ _, KeepNew.refl _ _, hF, hany.out, hsz⟩
  case done =>
    rintro D xs W hD rfl ⟨hF, hp, hsz⟩ hK
    obtain ⟨u0, u1, u2, u3, r0, r1, r2, r3⟩ := hF.row
    have f2 := hF.frow
    have hok := hF.ok
    have hfo := hF.fok
    have hop : I.isOp a = false := hp
    rw [hop]
    replace hK := Lib.hid hK
    replace hop := Lib.hid hop
    gi_wp2
    obtain ⟨W9, hW9⟩ : ∃ W9, (((((W.setCell ⟨w.heap.size + 1, 0, none⟩ (Value.int IntKind.i32 0)).setCell ⟨w.heap.size + 1, 1, none⟩ (Value.string ⟨#[]⟩)).setCell ⟨w.heap.size + 1, 2, none⟩ (Value.int IntKind.i64 0)).setCell ⟨w.heap.size + 1, 3, none⟩ (Value.int IntKind.i64 0)).setCell ⟨w.heap.size + 1 + 1, 0, none⟩ (Value.bool false)) = W9 := ⟨_, rfl⟩
    rw [hW9]
    have t0 : W9.cell? ⟨w.heap.size + 1, 0, none⟩ = some (.int .i32 0) := by rw [← hW9]; clear hW9; go_simp
    have t1 : W9.cell? ⟨w.heap.size + 1, 1, none⟩ = some (.string ⟨#[]⟩) := by rw [← hW9]; clear hW9; go_simp
    have t2 : W9.cell? ⟨w.heap.size + 1, 2, none⟩ = some (.int .i64 0) := by rw [← hW9]; clear hW9; go_simp
    have t3 : W9.cell? ⟨w.heap.size + 1, 3, none⟩ = some (.int .i64 0) := by rw [← hW9]; clear hW9; go_simp
    have t5 : W9.cell? ⟨w.heap.size + 1 + 1, 0, none⟩ = some (.bool false) := by rw [← hW9]; clear hW9; go_simp
    have hK' : W9.heap[D]? = some (.deferred (some [])) := by
      rw [← hW9, Below.heap_setCell _ _ _ _ (by show D ≠ w.heap.size + 1 + 1; omega), Below.heap_setCell _ _ _ _ (by show D ≠ w.heap.size + 1; omega), Below.heap_setCell _ _ _ _ (by show D ≠ w.heap.size + 1; omega), Below.heap_setCell _ _ _ _ (by show D ≠ w.heap.size + 1; omega), Below.heap_setCell _ _ _ _ (by show D ≠ w.heap.size + 1; omega)]
      exact hK.out
    have HB : Below w.heap.size w W9 := by rw [← hW9]; exact ((hF.setRow _ _ _ _).setOk false).below
    clear hW9
    rw [hop.out]
    have hb9 : Below w.heap.size w W9 := HB
    have far : ∀ (b o : Nat) v, W9.cell? ⟨b, o, none⟩ = some v → (W9.putObj D (.deferred none)).cell? ⟨b, o, none⟩ = some v := fun b o v h =>
      cell_kept h (grownBy_putObj' W9 D _) (fun r e => by cases e; exact ⟨_, hK', rfl⟩)
    have y0 := far _ _ _ t0
    have y1 := far _ _ _ t1
    have y2 := far _ _ _ t2
    have y3 := far _ _ _ t3
    have y5 := far _ _ _ t5
    rw [Exit.noGoto_ret]
    refine ⟨by simp, .inl ⟨_, _, rfl, run_takeDeferred hK', ?_⟩⟩
    exact ⟨.tuple #[.agg #[Value.int IntKind.i32 0, Value.string ⟨#[]⟩, Value.int IntKind.i64 0, Value.int IntKind.i64 0], .bool false], by simp [results, Tryz.results98, go_sem, y0, y1, y2, y3, y5], _, _, _, _, rfl, hb9.grown (grownBy_putObj' W9 D _) (Nat.le_trans (Nat.le_refl _) hb9.size) (fun k e => by cases e; omega)⟩
  case stop =>
    rintro D cd pre W hD ⟨k, hk, rfl⟩ ⟨rfl, hF, hp, hsz⟩ hK
    obtain ⟨u0, u1, u2, u3, r0, r1, r2, r3⟩ := hF.row
    have f2 := hF.frow
    have hok := hF.ok
    have hfo := hF.fok
    have hop : I.isOp a = true := by
      unfold I.isOp
      obtain ⟨r, hr, hra⟩ := List.any_eq_true.1 hp
      exact List.any_eq_true.2 ⟨r, List.mem_of_mem_take hr, hra⟩
    replace hK := Lib.hid hK
    replace hop := Lib.hid hop
    gi_wp2
    obtain ⟨W9, hW9⟩ : ∃ W9, (((((W.setCell ⟨w.heap.size + 1, 0, none⟩ (Value.int IntKind.i32 u0)).setCell ⟨w.heap.size + 1, 1, none⟩ (Value.string u1)).setCell ⟨w.heap.size + 1, 2, none⟩ (Value.int IntKind.i64 u2)).setCell ⟨w.heap.size + 1, 3, none⟩ (Value.int IntKind.i64 u3)).setCell ⟨w.heap.size + 1 + 1, 0, none⟩ (Value.bool true)) = W9 := ⟨_, rfl⟩
    rw [hW9]
    have t0 : W9.cell? ⟨w.heap.size + 1, 0, none⟩ = some (.int .i32 u0) := by rw [← hW9]; clear hW9; go_simp
    have t1 : W9.cell? ⟨w.heap.size + 1, 1, none⟩ = some (.string u1) := by rw [← hW9]; clear hW9; go_simp
    have t2 : W9.cell? ⟨w.heap.size + 1, 2, none⟩ = some (.int .i64 u2) := by rw [← hW9]; clear hW9; go_simp
    have t3 : W9.cell? ⟨w.heap.size + 1, 3, none⟩ = some (.int .i64 u3) := by rw [← hW9]; clear hW9; go_simp
    have t5 : W9.cell? ⟨w.heap.size + 1 + 1, 0, none⟩ = some (.bool true) := by rw [← hW9]; clear hW9; go_simp
    have hK' : W9.heap[D]? = some (.deferred (some [])) := by
      rw [← hW9, Below.heap_setCell _ _ _ _ (by show D ≠ w.heap.size + 1 + 1; omega), Below.heap_setCell _ _ _ _ (by show D ≠ w.heap.size + 1; omega), Below.heap_setCell _ _ _ _ (by show D ≠ w.heap.size + 1; omega), Below.heap_setCell _ _ _ _ (by show D ≠ w.heap.size + 1; omega), Below.heap_setCell _ _ _ _ (by show D ≠ w.heap.size + 1; omega)]
      exact hK.out
    have HB : Below w.heap.size w W9 := by rw [← hW9]; exact ((hF.setRow _ _ _ _).setOk true).below
    clear hW9
    rw [hop.out]
    have hb9 : Below w.heap.size w W9 := HB
    have far : ∀ (b o : Nat) v, W9.cell? ⟨b, o, none⟩ = some v → (W9.putObj D (.deferred none)).cell? ⟨b, o, none⟩ = some v := fun b o v h =>
      cell_kept h (grownBy_putObj' W9 D _) (fun r e => by cases e; exact ⟨_, hK', rfl⟩)
    have y0 := far _ _ _ t0
    have y1 := far _ _ _ t1
    have y2 := far _ _ _ t2
    have y3 := far _ _ _ t3
    have y5 := far _ _ _ t5
    rw [Exit.noGoto_ret]
    refine ⟨by simp, .inl ⟨_, _, rfl, run_takeDeferred hK', ?_⟩⟩
    exact ⟨.tuple #[(.agg #[Value.int IntKind.i32 u0, Value.string u1, Value.int IntKind.i64 u2, Value.int IntKind.i64 u3]), .bool true], by simp [results, Tryz.results98, go_sem, y0, y1, y2, y3, y5], _, _, _, _, rfl, hb9.grown (grownBy_putObj' W9 D _) (Nat.le_trans (Nat.le_refl _) hb9.size) (fun k e => by cases e; omega)⟩
theorem find_any (f : Nat) (a : Int) (hf : f ≤ 255) (w : World) (hT : Tabs w) :
    Calls Tryz.prog 98 #[.agg #[.int .u8 (f : Nat), .int .i32 a]] w (FindOf (I.mayI f a) w) := by
  by_cases h15 : f = 15
  · subst h15
    have e : I.mayI (15 : Nat) a = I.isOp a := by
      unfold I.mayI
      rw [show (I.fns.getD ((15 : Nat) : Int).toNat []).isEmpty = true from rfl]
      simp
    rw [e]
    exact find_op a w hT
  · by_cases hlt : f < 16 ∧ (I.fns.getD f []).isEmpty = false
    · have e : I.mayI f a = true := by
        unfold I.mayI
        rw [show ((f : Nat) : Int).toNat = f from rfl, hlt.2]
        have : decide ((f : Int) < 16) = true := by simp; omega
        rw [this]; rfl
      rw [e]
      exact find_fn f a hlt.1 hlt.2 w hT
    · have e : I.mayI f a = false := by
        unfold I.mayI
        have h5 : (((f : Nat) : Int) == 15) = false := by simp; omega
        rw [h5, show ((f : Nat) : Int).toNat = f from rfl]
        by_cases h16 : f < 16
        · have : (I.fns.getD f []).isEmpty = true := by
            cases h : (I.fns.getD f []).isEmpty with
            | true => rfl
            | false => exact absurd ⟨h16, h⟩ hlt
          rw [this]; simp
        · have : decide ((f : Int) < 16) = false := by simp; omega
          rw [this]; rfl
      rw [e]
      refine find_no f a hf h15 (fun h16 => ?_) w hT
      cases h : (I.fns.getD f []).isEmpty with
      | true => rfl
      | false => exact absurd ⟨h16, h⟩ hlt
set_option maxRecDepth 100000 in
theorem imay_any (f : Nat) (a : Int) (hf : f ≤ 255) (w : World) (hT : Tabs w) :
    Calls Tryz.prog 97 #[.agg #[.int .u8 (f : Nat), .int .i32 a]] w fun e w' => e = .returned (.bool (I.mayI f a)) ∧ Below w.heap.size w w' := by
  have hfind := fun W hT => find_any f a hf W hT
  generalize I.mayI f a = q at *
  replace hfind := Lib.hid hfind
  go_enter Tryz.func97, Tryz.ntmps97
  go_wp2_with fail
  refine (hfind.out _ (hT.below ((Below.refl _ _).alloc (Nat.le_refl _) _))).mono ?_
  rintro e W1 ⟨r0, r1, r2, r3, rfl, hb1⟩
  have hz := hb1.size
  simp only [World.size_alloc] at hz
  go_wp2
  go_ret
  refine ⟨rfl, ?_⟩
  have h1 : Below w.heap.size w W1 := ((Below.refl _ _).alloc (Nat.le_refl _) _).trans (hb1.mono (by simp))
  exact h1.trans ((Below.refl _ _).alloc (by omega) _)
end Go.Proofs.YtcblefmjacofgaaGreatDoor
namespace Go.Proofs.YtcblefmjacofgaaGreatDoor
open Go.RowKit
theorem Tryz.elB : Elem Tryz.prog 30 5 1 1 := elem_mk (z := .int .u8 0) (by kernel_rfl) Tryz.underlying30 rfl (by decide)
theorem i32_and15 (n : Int) : bits .and .i32 n 15 = n % 16 := by
  have key : (BitVec.ofInt 32 n &&& BitVec.ofInt 32 15).toNat = (n % ((2 ^ 32 : Nat) : Int)).toNat % 2 ^ 4 := by
    rw [BitVec.toNat_and, BitVec.toNat_ofInt, show (BitVec.ofInt 32 15).toNat = 2 ^ 4 - 1 from rfl, Nat.and_two_pow_sub_one_eq_mod]
  show IntKind.i32.wrap ((BitVec.ofInt 32 n &&& BitVec.ofInt 32 15).toNat : Nat) = n % 16
  rw [key, IntKind.wrap_i32]
  omega
theorem i32_not (v : Int) (h0 : -2147483648 ≤ v) (h1 : v ≤ 2147483647) : bits .xor .i32 (-1) v = -1 - v := by
  have key : (BitVec.ofInt 32 (-1) ^^^ BitVec.ofInt 32 v).toNat = 2 ^ 32 - 1 - (v % ((2 ^ 32 : Nat) : Int)).toNat := by
    have : BitVec.ofInt 32 (-1) = BitVec.allOnes 32 := by decide
    rw [this, BitVec.allOnes_xor, BitVec.toNat_not, BitVec.toNat_ofInt]
  show IntKind.i32.wrap ((BitVec.ofInt 32 (-1) ^^^ BitVec.ofInt 32 v).toNat : Nat) = -1 - v
  rw [key, IntKind.wrap_i32]
  omega
theorem nib_walk (fn : Nat) (hfn : fn ≤ 15) (v : Int) : bits .or .u8 ((fn : Int) * 16) (v % 16) = ((I.nib fn v).toNat : Int) := by
  have hm : (v % 16) = ((v % 16).toNat : Int) := by omega
  have hlt : (v % 16).toNat < 2 ^ 4 := by omega
  have h16 : ((fn : Int) * 16) = ((fn * 16 : Nat) : Int) := by omega
  rw [hm, h16, u8_or_nat _ _ (by omega) (by omega)]
  unfold I.nib
  rw [UInt8.toNat_ofNat', Nat.mul_comm, show (16 : Nat) = 2 ^ 4 from rfl, ← Nat.two_pow_add_eq_or_of_lt hlt]
  have : 2 ^ 4 * fn + (v % 16).toNat < 256 := by omega
  rw [Nat.mod_eq_of_lt (by omega)]
set_option maxHeartbeats 1000000 in
theorem putP_any (f : Nat) : ∀ (base : Nat) (s : Value) (m : Nat) (xs : List Value) (fn : Nat) (v : Int) (w : World), f ≤ 7 → fn ≤ 15 → 0 ≤ v → v < 16 ^ (f + 1) → v ≤ 2147483647 → m ≤ 1000000 → base ≤ w.heap.size →
    w.ownsRow base 5 1 s m xs →
    Calls Tryz.prog 94 #[s, .int .u8 (fn : Nat), .int .i32 v] w fun e w' => ∃ a c n, n = m + (I.putP (f + 1) fn v).length ∧ e = .returned (.slice a n c) ∧ w'.ownsRow base 5 1 (.slice a n c) n (xs ++ (I.putP (f + 1) fn v).map bv) ∧ Below base w w' := by
  induction f with
  | zero =>
    intro base s m xs fn v w hf hfn h0 hv hv2 hm hb hown
    obtain ⟨sa, sc, rfl, h1, h2, h3⟩ := owns_shape hown
    have hv15 : v ≤ 15 := by omega
    have g1 : decide (v < 0) = false := by simp; omega
    have g2 : decide (15 < v) = false := by simp; omega
    have hand := i32_and15 v
    have hnib := nib_walk fn hfn v
    have b1 : 0 ≤ v % 16 := by omega
    have b2 : v % 16 ≤ 15 := by omega
    have hs := sl_new w ([I.nib fn v].map bv) 5 1 1 rfl (by unfold maxLen; omega)
    have hp : Hid (I.putP (0 + 1) fn v = [I.nib fn v]) := by show I.putP 1 fn v = _; unfold I.putP; rw [if_neg (by omega)]; rfl
    clear hv
    go_enter Tryz.func94, Tryz.ntmps94
    go_wp2_with (at_builtin; refine app_own rfl (.tmp 22) (.tmp 29) 30 rfl Tryz.elB rfl (hown.alloc _) rfl hs (oneCell_bytes _) (by omega) (by omega) (by simp; omega) ?_)
    intro a' c' w' h1' _ h3'
    go_wp2
    go_ret
    exact ⟨a', c', m + 1, by rw [hp.out]; rfl, rfl, by rw [hp.out]; exact h1', ((Below.refl _ _).alloc hb _).trans h3'⟩
  | succ f ih =>
    intro base s m xs fn v w hf hfn h0 hv hv2 hm hb hown
    obtain ⟨sa, sc, rfl, h1, h2, h3⟩ := owns_shape hown
    by_cases hv15 : 15 < v
    · have g1 : decide (v < 0) = false := by simp; omega
      have g2 : decide (15 < v) = true := by simp; omega
      have hand := i32_and15 v
      have hnib := nib_walk fn hfn v
      have b1 : 0 ≤ v % 16 := by omega
      have b2 : v % 16 ≤ 15 := by omega
      have hp : Hid (I.putP (f + 1 + 1) fn v = I.putP (f + 1) 2 (v / 16) ++ [I.nib fn v]) := by show I.putP (f + 1 + 1) fn v = _; rw [I.putP, if_pos (by omega)]
      have hle := I.putP_le (f + 1) 2 (v / 16)
      have hrec := Lib.hid (ih base (.slice sa m sc) m xs 2 (v / 16) w (by omega) (by omega) (by omega) (by have e : (16 : Int) ^ (f + 1 + 1) = 16 ^ (f + 1) * 16 := Int.pow_succ _ _; rw [e] at hv; omega) (by omega) hm hb hown)
      clear hv ih hown
      go_enter Tryz.func94, Tryz.ntmps94
      go_wp2_with fail
      refine hrec.out.mono ?_
      rintro e w1 ⟨a1, c1, n1, hn1, rfl, ho1, hb1⟩
      have hz1 := hb1.size
      have hs := sl_new w1 ([I.nib fn v].map bv) 5 1 1 rfl (by unfold maxLen; omega)
      have hn2 : n1 ≤ 1000100 := by omega
      replace hn1 := Lib.hid hn1
      go_wp2_with (at_builtin; refine app_own rfl (.tmp 22) (.tmp 29) 30 rfl Tryz.elB rfl (ho1.alloc _) rfl hs (oneCell_bytes _) (by omega) (by omega) (by simp; omega) ?_)
      intro a' c' w' h1' _ h3'
      go_wp2
      go_ret
      refine ⟨a', c', n1 + 1, by rw [hp.out, hn1.out, List.length_append]; rfl, rfl, ?_, hb1.trans (((Below.refl _ _).alloc (by omega) _).trans h3')⟩
      rw [hp.out, List.map_append]
      exact h1'
    · have hv15 : v ≤ 15 := by omega
      have g1 : decide (v < 0) = false := by simp; omega
      have g2 : decide (15 < v) = false := by simp; omega
      have hand := i32_and15 v
      have hnib := nib_walk fn hfn v
      have b1 : 0 ≤ v % 16 := by omega
      have b2 : v % 16 ≤ 15 := by omega
      have hs := sl_new w ([I.nib fn v].map bv) 5 1 1 rfl (by unfold maxLen; omega)
      have hp : Hid (I.putP (f + 1 + 1) fn v = [I.nib fn v]) := by show I.putP (f + 1 + 1) fn v = _; unfold I.putP; rw [if_neg (by omega)]; rfl
      clear hv ih
      go_enter Tryz.func94, Tryz.ntmps94
      go_wp2_with (at_builtin; refine app_own rfl (.tmp 22) (.tmp 29) 30 rfl Tryz.elB rfl (hown.alloc _) rfl hs (oneCell_bytes _) (by omega) (by omega) (by simp; omega) ?_)
      intro a' c' w' h1' _ h3'
      go_wp2
      go_ret
      exact ⟨a', c', m + 1, by rw [hp.out]; rfl, rfl, by rw [hp.out]; exact h1', ((Below.refl _ _).alloc hb _).trans h3'⟩
theorem put_any (base : Nat) (s : Value) (m : Nat) (xs : List Value) (fn : Nat) (v : Int) (w : World) (hfn : fn ≤ 15) (h0 : -2147483648 ≤ v) (h1 : v ≤ 2147483647) (hm : m ≤ 1000000) (hb : base ≤ w.heap.size) (hown : w.ownsRow base 5 1 s m xs) :
    Calls Tryz.prog 94 #[s, .int .u8 (fn : Nat), .int .i32 v] w fun e w' => ∃ a c n, n = m + (I.putB fn v).length ∧ e = .returned (.slice a n c) ∧ w'.ownsRow base 5 1 (.slice a n c) n (xs ++ (I.putB fn v).map bv) ∧ Below base w w' := by
  by_cases hneg : v < 0
  · obtain ⟨sa, sc, rfl, _, _, _⟩ := owns_shape hown
    have g1 : decide (v < 0) = true := by simp; omega
    have hand := i32_and15 v
    have hnib := nib_walk fn hfn v
    have b1 : 0 ≤ v % 16 := by omega
    have b2 : v % 16 ≤ 15 := by omega
    have hp : Hid (I.putB fn v = I.putP 8 6 ((-1 - v) / 16) ++ [I.nib fn v]) := by show I.putB fn v = _; rw [I.putB, if_pos (by omega)]
    have hle := I.putP_le (7 + 1) 6 ((-1 - v) / 16)
    have hrec := Lib.hid (putP_any 7 base (.slice sa m sc) m xs 6 ((-1 - v) / 16) w (by omega) (by omega) (by omega) (by omega) (by omega) hm hb hown)
    have hnot := i32_not v h0 h1
    have hsg : IntKind.i32.signed = true := rfl
    clear hown
    go_enter Tryz.func94, Tryz.ntmps94
    go_wp2_with fail
    refine hrec.out.mono ?_
    rintro e w1 ⟨a1, c1, n1, hn1, rfl, ho1, hb1⟩
    have hz1 := hb1.size
    have hs := sl_new w1 ([I.nib fn v].map bv) 5 1 1 rfl (by unfold maxLen; omega)
    have hn2 : n1 ≤ 1000100 := by omega
    replace hn1 := Lib.hid hn1
    go_wp2_with (at_builtin; refine app_own rfl (.tmp 22) (.tmp 29) 30 rfl Tryz.elB rfl (ho1.alloc _) rfl hs (oneCell_bytes _) (by omega) (by omega) (by simp; omega) ?_)
    intro a' c' w' h1' _ h3'
    go_wp2
    go_ret
    refine ⟨a', c', n1 + 1, by rw [hp.out, hn1.out, List.length_append]; rfl, rfl, ?_, hb1.trans (((Below.refl _ _).alloc (by omega) _).trans h3')⟩
    rw [hp.out, List.map_append]
    exact h1'
  · by_cases hv15 : 15 < v
    · obtain ⟨sa, sc, rfl, _, _, _⟩ := owns_shape hown
      have g1 : decide (v < 0) = false := by simp; omega
      have g2 : decide (15 < v) = true := by simp; omega
      have hand := i32_and15 v
      have hnib := nib_walk fn hfn v
      have b1 : 0 ≤ v % 16 := by omega
      have b2 : v % 16 ≤ 15 := by omega
      have hp : Hid (I.putB fn v = I.putP 8 2 (v / 16) ++ [I.nib fn v]) := by show I.putB fn v = _; rw [I.putB, if_neg (by omega), if_pos (by omega)]
      have hle := I.putP_le (7 + 1) 2 (v / 16)
      have hrec := Lib.hid (putP_any 7 base (.slice sa m sc) m xs 2 (v / 16) w (by omega) (by omega) (by omega) (by omega) (by omega) hm hb hown)
      clear hown
      go_enter Tryz.func94, Tryz.ntmps94
      go_wp2_with fail
      refine hrec.out.mono ?_
      rintro e w1 ⟨a1, c1, n1, hn1, rfl, ho1, hb1⟩
      have hz1 := hb1.size
      have hs := sl_new w1 ([I.nib fn v].map bv) 5 1 1 rfl (by unfold maxLen; omega)
      have hn2 : n1 ≤ 1000100 := by omega
      replace hn1 := Lib.hid hn1
      go_wp2_with (at_builtin; refine app_own rfl (.tmp 22) (.tmp 29) 30 rfl Tryz.elB rfl (ho1.alloc _) rfl hs (oneCell_bytes _) (by omega) (by omega) (by simp; omega) ?_)
      intro a' c' w' h1' _ h3'
      go_wp2
      go_ret
      refine ⟨a', c', n1 + 1, by rw [hp.out, hn1.out, List.length_append]; rfl, rfl, ?_, hb1.trans (((Below.refl _ _).alloc (by omega) _).trans h3')⟩
      rw [hp.out, List.map_append]
      exact h1'
    · have h := putP_any 0 base s m xs fn v w (by omega) hfn (by omega) (by omega) (by omega) hm hb hown
      rw [show I.putP (0 + 1) fn v = I.putB fn v from by rw [I.putB, if_neg (by omega), if_neg (by omega), I.putP, if_neg (by omega)]] at h
      exact h
theorem ivalid_any (fn : Nat) (v : Int) (w : World) :
    Calls Tryz.prog 93 #[.agg #[.int .u8 (fn : Nat), .int .i32 v]] w fun e w' => e = .returned (.bool (I.validI fn)) ∧ Below w.heap.size w w' := by
  unfold I.validI
  go_enter Tryz.func93, Tryz.ntmps93
  go_wp2
  all_goals (go_ret; refine ⟨?_, (Below.refl _ _).alloc (Nat.le_refl _) _⟩; simp [*]; try omega)
theorem nil_owns (w : World) (base : Nat) : w.ownsRow base 5 1 (.slice none 0 0) 0 [] := ⟨rfl, .inl ⟨rfl, rfl⟩⟩
theorem len_any (fn : Nat) (v : Int) (w : World) (hfn : fn ≤ 15) (hval : I.validI fn = true) (h0 : -2147483648 ≤ v) (h1 : v ≤ 2147483647) :
    Calls Tryz.prog 92 #[.agg #[.int .u8 (fn : Nat), .int .i32 v]] w fun e w' => e = .returned (.int .i64 ((I.putB fn v).length : Nat)) ∧ Below w.heap.size w w' := by
  have hv := Lib.hid (fun W => ivalid_any fn v W)
  rw [hval] at hv
  have hput := Lib.hid (fun W : World => put_any W.heap.size (.slice none 0 0) 0 [] fn v W hfn h0 h1 (by omega) (Nat.le_refl _) (nil_owns W _))
  generalize (I.putB fn v).length = n at *
  clear hval
  go_enter Tryz.func92, Tryz.ntmps92
  go_wp2_with fail
  refine (hv.out _).mono ?_
  rintro e w1 ⟨rfl, hb1⟩
  have hb01 : Below w.heap.size w w1 := ((Below.refl _ _).alloc (Nat.le_refl _) _).trans (hb1.mono (by simp))
  have c0 : w1.cell? ⟨w.heap.size, 0, none⟩ = some (.int .u8 (fn : Int)) := (hb1.cell (p := ⟨w.heap.size, 0, none⟩) (by simp)).trans (by simp [go_sem])
  have c1 : w1.cell? ⟨w.heap.size, 1, none⟩ = some (.int .i32 v) := (hb1.cell (p := ⟨w.heap.size, 1, none⟩) (by simp)).trans (by simp [go_sem])
  clear hb1
  go_wp2_with fail
  refine (hput.out _).mono ?_
  rintro e w2 ⟨a2, c2, n2, hn2, rfl, ho2, hb2⟩
  rw [Nat.zero_add] at hn2
  subst hn2
  go_wp2
  go_ret
  exact ⟨rfl, hb01.trans (hb2.mono hb01.size)⟩
theorem iput_any (fn : Nat) (v : Int) (w : World) (hfn : fn ≤ 15) (hval : I.validI fn = true) (h0 : -2147483648 ≤ v) (h1 : v ≤ 2147483647) :
    Calls Tryz.prog 81 #[.agg #[.int .u8 (fn : Nat), .int .i32 v]] w fun e w' => ∃ a c n, n = (I.putB fn v).length ∧ e = .returned (.tuple #[.slice a n c, .int .i64 0]) ∧ Sl w' w'.heap.size a n c 1 ((I.putB fn v).map bv) ∧ Below w.heap.size w w' := by
  have hv := Lib.hid (fun W => ivalid_any fn v W)
  rw [hval] at hv
  have hput := Lib.hid (fun W : World => put_any W.heap.size (.slice none 0 0) 0 [] fn v W hfn h0 h1 (by omega) (Nat.le_refl _) (nil_owns W _))
  clear hval
  go_enter Tryz.func81, Tryz.ntmps81
  go_wp2_with fail
  refine (hv.out _).mono ?_
  rintro e w1 ⟨rfl, hb1⟩
  have hb01 : Below w.heap.size w w1 := ((Below.refl _ _).alloc (Nat.le_refl _) _).trans (hb1.mono (by simp))
  have c0 : w1.cell? ⟨w.heap.size, 0, none⟩ = some (.int .u8 (fn : Int)) := (hb1.cell (p := ⟨w.heap.size, 0, none⟩) (by simp)).trans (by simp [go_sem])
  have c1 : w1.cell? ⟨w.heap.size, 1, none⟩ = some (.int .i32 v) := (hb1.cell (p := ⟨w.heap.size, 1, none⟩) (by simp)).trans (by simp [go_sem])
  clear hb1
  go_wp2_with fail
  refine (hput.out _).mono ?_
  rintro e w2 ⟨a2, c2, n2, hn2, rfl, ho2, hb2⟩
  rw [Nat.zero_add] at hn2
  replace hn2 := Lib.hid hn2
  go_wp2
  go_ret2
  exact ⟨a2, c2, n2, hn2.out, rfl, Sl.of_owns ho2, hb01.trans (hb2.mono hb01.size)⟩
end Go.Proofs.YtcblefmjacofgaaGreatDoor
