/- Parts. -/
import Derived.Test.YtklklgfpkpglgaaGreatDoorQ16
import Derived.Shelf.Small.Bits
import Derived.Shelf.Strconv.Itoa0
import Derived.Shelf.Strconv.Itoa1
import Derived.Shelf.LaysM
import Derived.Shelf.Strconv.Itoa2
import Derived.Shelf.Strconv.Itoa3
import Derived.Shelf.Strings.Search1
import Derived.Shelf.Strings.Search2
import Derived.Shelf.Strings.Search3
import Derived.Shelf.Strings.Shaped
import Derived.Shelf.Sort.Plain
import Derived.Shelf.Slices.CompactS
import Derived.Shelf.Slices.Cells
import Derived.Shelf.Slices.In.SortNone
set_option linter.all false
set_option maxRecDepth 100000
set_option maxHeartbeats 0
namespace Go.Proofs.YtklklgfpkpglgaaGreatDoor
open Go.RowKit Go.Proofs.Tryz Lx
variable (gl:List (Nat × List D))
section
def Tn:List Nat:=[0,2,3,4,5,6]
def Sg:List Nat:=[0,1,4,5,6,7,9,17]
def ro0:List Nat:=[4,5,6,7,8,9,10,11,12,13,14,15,16,17]
def Vb:List Nat:=[0,2,3,4,5,6,21,25,32]
theorem jf5:ByteArray.empty=⟨#[]⟩:=rfl
attribute [local irreducible] TR TC
theorem ki0 (c:UInt8):FnD prog gl 144 [.d (.int .u8 c.toNat)] (λv=>v=.d (.bool (Lx.letter c))):=by
 (refine j4 func144 ntmps144 results144 λw M=>?_)
 (repeat' first|refine yyp ?_;try refine Ce ?_ ?_<;>intro hb|refine yy ?_|refine yy2 ?_ ?_<;>intro hcmp|apply ah;refine Cc Tn ?_|refine Cb λK hK=>?_|apply_assumption -exfalso -symm)
 all_goals
  (refine j1 (j7 ?_))
  simp only[aF,At,Am,Lx.letter]
  first|(symm;simp only[Bn,Ah];omega)|(symm;simp only[Bool.or_eq_false_iff,decide_eq_false_iff_not];omega)
theorem my9 (c:UInt8):FnD prog gl 186 [.d (.int .u8 c.toNat)] (λv=>v=.d (.bool (Lx.digit c))):=by
 (refine j4 func186 ntmps186 results186 λw M=>?_)
 (repeat' first|refine yyp ?_;try refine Ce ?_ ?_<;>intro hb|refine yy ?_|refine yy2 ?_ ?_<;>intro hcmp|apply ah;refine Cc Tn ?_|refine Cb λK hK=>?_|apply_assumption -exfalso -symm)
 all_goals
  (refine j1 (j7 ?_))
  simp only[aF,At,Am,Lx.digit]
  first|(symm;simp only[Ah];omega)|(symm;simp only[decide_eq_false_iff_not];omega)
theorem qi1 (c:UInt8):FnD prog gl 146 [.d (.int .u8 c.toNat)] (λv=>v=.d (.bool (Kv c))):=by
 (refine j4 func146 ntmps146 results146 λw M=>?_)
 (repeat' first|refine yyp ?_;try refine Ce ?_ ?_<;>intro hb|refine yy ?_|refine yy2 ?_ ?_<;>intro hcmp|apply Cf 144;refine Ci (hc:=(ki0 gl c)) ?_;try refine Ce ?_ ?_<;>intro hb|apply Cf 186;refine Ci (hc:=(my9 gl c)) ?_;try refine Ce ?_ ?_<;>intro hb|apply ah;refine Cc Tn ?_|refine Cb λK hK=>?_|apply_assumption -exfalso -symm)
 all_goals
  (refine j1 (j7 ?_))
  simp only[aF,At,Am,Kv]
  (repeat (rename (∀ S,TC _ _ _ S->_)=>hX;clear hX))
  grind [Lx.prim]
theorem rc2 (s:ByteArray)(l:List ByteArray):FnD prog gl 184 [.d (.str s),.d (.list 1 (l.map .str))] (λv=>v=.d (.bool (l.any λk=>decide (k=s)))):=by
 (refine j4 func184 ntmps184 results184 λw M=>?_)
 refine k7 1 rfl λhn=>?_;simp only[Ab]at hn
 (repeat' first|refine yyp ?_;try refine Ce ?_ ?_<;>intro hb|refine yy ?_|apply ah;refine Cc Sg ?_|refine Cb λK hK=>?_|apply_assumption -exfalso -symm)
 refine k9 ro0 [] (λk:Nat=>[(5,.d (.int .i64 k))]) (λ_=>[]) (λk=>k<=l.length/\(l.any λk=>decide (k=s))=(l.drop k).any λk=>decide (k=s)) (λk=>l.length - k) 0 ⟨by omega,rfl⟩ λk ⟨hk,hi⟩=>?_;dsimp only[Ac,Ae];rcases Ai k l.length with hk2|hk2
 ·rw[Bk hk2,List.any_cons]at hi
  (repeat' first|refine yyp ?_;try refine Ce ?_ ?_<;>intro hb|refine yy ?_|refine yy2 ?_ ?_<;>intro hcmp|apply ah;refine Cc Sg ?_|refine Cb λK hK=>?_|apply_assumption -exfalso -symm)
  ·(refine j1 (j7 ?_))
   rw[hi,Bm hcmp];rfl
  ·refine⟨k+1,⟨by omega,?_⟩,by omega,v6⟩;rw[hi,Bl hcmp];rfl
 ·(repeat' first|refine yyp ?_;try refine Ce ?_ ?_<;>intro hb|refine yy ?_|apply ah;refine Cc Sg ?_|refine Cb λK hK=>?_|apply_assumption -exfalso -symm)
  (refine j1 (j7 ?_))
  rw[hi,Bq hk2];rfl
theorem ru0:FnD prog gl 185 [] (λv=>v=.d (.list 1 (Lx.keys.map .str))):=by
 (refine j4 func185 ntmps185 results185 λw M=>?_)
 (repeat' first|apply Ca 1;(refine Fu 1 ?_)|refine yyp ?_;try refine Ce ?_ ?_<;>intro hb|refine yy ?_|apply ah;refine Cc [0,1] ?_|refine Cb λK hK=>?_|apply_assumption -exfalso -symm)
 (refine j1 (j7 ?_))
 rfl
theorem rc3 (s:ByteArray):FnD prog gl 145 [.d (.str s)] (λv=>v=.d (.bool (Lx.isKey s))):=by
 (refine j4 func145 ntmps145 results145 λw M=>?_)
 (repeat' first|refine yyp ?_;try refine Ce ?_ ?_<;>intro hb|refine yy ?_|apply Cf 185;refine Ci (hc:=(ru0 gl)) ?_|apply Cf 184;refine Ci (hc:=(rc2 gl s Lx.keys)) ?_;try refine Ce ?_ ?_<;>intro hb|apply ah;refine Cc [0,2,3,4,5] ?_|refine Cb λK hK=>?_|apply_assumption -exfalso -symm)
 all_goals
  (refine j1 (j7 ?_))
  simp only[aF,At,Am,Lx.isKey, *]
theorem me3 (s:ByteArray)(c:UInt8)(l:List UInt8)(h:s.data.toList=c::l):Cw s=(decide (l.length<32) && Lx.letter c && l.all Kv && !Lx.isKey s):=by
 unfold Cw;rw[h]
theorem ju0 (c:UInt8)(h:Lx.letter c=true):Kv c=true:=by
 unfold Kv;rw[h];rfl
theorem x7 (s:ByteArray):FnD prog gl 112 [.d (.str s)] (λv=>v=.d (.bool (Cw s))):=by
 have hsz:s.data.toList.length=s.size:=by simp
 cases hs:s.data.toList with
 |nil=>
  rw[hs]at hsz;have hsz0:s.size=0:=hsz.symm
  (refine j4 func112 ntmps112 results112 λw M=>?_)
  (repeat' first|refine yyp ?_;try refine Ce ?_ ?_<;>intro hb|refine yy ?_|apply ah;refine Cc Vb ?_|refine Cb λK hK=>?_|apply_assumption -exfalso -symm)
  (refine j1 (j7 ?_))
  simp[aF,Cw,hs]
 |cons c l=>
  rw[hs]at hsz;simp only[Aj]at hsz;have hn:=me3 s c l hs;have h0:s.data.toList[0]? =some c:=by rw[hs];rfl
  (refine j4 func112 ntmps112 results112 λw M=>?_)
  (repeat' first|refine yyp ?_;try refine Ce ?_ ?_<;>intro hb|refine yy ?_|refine yy2 ?_ ?_<;>intro hcmp|apply Cf 144;refine Ci (hc:=(ki0 gl c)) ?_;try refine Ce ?_ ?_<;>intro hb|apply Cf 145;refine Ci (hc:=(rc3 gl s)) ?_;try refine Ce ?_ ?_<;>intro hb|apply ah;refine Cc Vb ?_|refine Cb λK hK=>?_|apply_assumption -exfalso -symm)
  case' refine_2.refine_1.refine_2=>
   refine k9 [2,3,22,23,24,25,26,27,28,29,30,31,32] [] (λk:Nat=>[(3,.d (.int .i64 k))]) (λ_=>[]) (λk=>k<=s.size/\(c::l).all Kv=((c::l).drop k).all Kv) (λk=>s.size - k) 0 ⟨by omega,rfl⟩ λk ⟨hk,hi⟩=>?_;dsimp only[Ac,Ae];rcases Ai k s.size with hk2|hk2
   ·have hk3:k<(c::l).length:=by simp only[Aj];omega
    have hat:s.data.toList[k]? =some ((c::l)[k]):=by rw[hs];exact Ar hk3
    rw[Bk hk3]at hi;generalize (c::l)[k]=c' at hat hi
    (repeat' first|refine yyp ?_;try refine Ce ?_ ?_<;>intro hb|refine yy ?_|apply Cf 146;refine Ci (hc:=(qi1 gl c')) ?_;try refine Ce ?_ ?_<;>intro hb|apply ah;refine Cc Vb ?_|refine Cb λK hK=>?_|apply_assumption -exfalso -symm)
    ·refine⟨k+1,⟨by omega,?_⟩,by omega,v6⟩;rw[hi,Ei,hb];rfl
    ·(refine j1 (j7 ?_))
     rw[Ei,Ei,ju0 c (by assumption),Bf,hb,As]at hi;rw[hn,hi];simp[aF]
   ·(repeat' first|refine yyp ?_;try refine Ce ?_ ?_<;>intro hb|refine yy ?_|apply ah;refine Cc Vb ?_|refine Cb λK hK=>?_|apply_assumption -exfalso -symm)
    (refine j1 (j7 ?_))
    rw[Bq (by simp only[Aj];omega),Ei,ju0 c (by assumption),Bf,List.all_nil]at hi;have hl32:l.length<32:=by omega
    rw[hn,hi];simp[aF, *]
  all_goals
   (refine j1 (j7 ?_))
   rw[hn]
   first
    |(have hl32:¬l.length<32:=by omega
      simp only[aF,hl32,decide_false,As])
    |simp only[aF, *,Bool.not_true,Be,As]
theorem jv9 (k:Int):FnD prog gl 187 [.d (.int .u8 k)] (λv=>v=.d (.bool (Lx.prim k))):=by
 (refine j4 func187 ntmps187 results187 λw M=>?_)
 (repeat' first|refine yyp ?_;try refine Ce ?_ ?_<;>intro hb|refine yy ?_|refine yy2 ?_ ?_<;>intro hcmp|apply ah;refine Cc Tn ?_|refine Cb λK hK=>?_|apply_assumption -exfalso -symm)
 all_goals
  (refine j1 (j7 ?_))
  simp only[aF,At,Am,Lx.prim, *,decide_true,decide_false,Eh,Ef,Ec,Ee]
  try rfl
theorem mm7 (k:Int):FnD prog gl 116 [.d (.int .u8 k)] (λv=>v=.d (.bool (Lx.prim k))):=by
 (refine j4 func116 ntmps116 results116 λw M=>?_)
 (repeat' first|refine yyp ?_;try refine Ce ?_ ?_<;>intro hb|refine yy ?_|refine yy2 ?_ ?_<;>intro hcmp|apply ah;refine Cc Tn ?_|refine Cb λK hK=>?_|apply_assumption -exfalso -symm)
 all_goals
  (refine j1 (j7 ?_))
  simp only[aF,At,Am,Lx.prim, *,decide_true,decide_false,Eh,Ef,Ec,Ee]
  try rfl
theorem kq9 (l:List Int)(least:Int):FnD prog gl 188 [.d (.list 1 (l.map (.int .u8))),.d (.int .i64 least)] (λv=>v=.d (.bool (Lc l least))):=by
 (refine j4 func188 ntmps188 results188 λw M=>?_)
 refine k7 0 rfl λhn=>?_;simp only[Ab]at hn
 (repeat' first|refine yyp ?_;try refine Ce ?_ ?_<;>intro hb|refine yy ?_|apply ah;refine Cc Sg ?_|refine Cb λK hK=>?_|apply_assumption -exfalso -symm)
 refine k9 ro0 [] (λk:Nat=>[(5,.d (.int .i64 k))]) (λ_=>[]) (λk=>k<=l.length/\l.all Lx.prim=(l.drop k).all Lx.prim) (λk=>l.length - k) 0 ⟨by omega,rfl⟩ λk ⟨hk,hi⟩=>?_;dsimp only[Ac,Ae];rcases Ai k l.length with hk2|hk2
 ·rw[Bk hk2,Ei]at hi
  (repeat' first|refine yyp ?_;try refine Ce ?_ ?_<;>intro hb|refine yy ?_|apply Cf 187;refine Ci (hc:=(jv9 gl l[k])) ?_;try refine Ce ?_ ?_<;>intro hb|apply ah;refine Cc Sg ?_|refine Cb λK hK=>?_|apply_assumption -exfalso -symm)
  ·refine⟨k+1,⟨by omega,?_⟩,by omega,v6⟩;rw[hi,hb];rfl
  ·(refine j1 (j7 ?_))
   rw[hb,As]at hi;simp only[aF,Lc,hi,Be]
 ·rw[Bq hk2]at hi
  (repeat' first|refine yyp ?_;try refine Ce ?_ ?_<;>intro hb|refine yy ?_|refine yy2 ?_ ?_<;>intro hcmp|apply ah;refine Cc Sg ?_|refine Cb λK hK=>?_|apply_assumption -exfalso -symm)
  all_goals
   (refine j1 (j7 ?_))
   simp only[aF,At,Am,Lc,hi,List.all_nil,Bu]
   (repeat (rename (∀ S,TC _ _ _ S->_)=>hX;clear hX))
   grind [Lx.prim]
theorem ka4 (t:Ty):FnD prog gl 147 [.d (dTy t)] (λv=>v=.d (.bool (Oe t))):=by
 (refine j4 func147 ntmps147 results147 λw M=>?_)
 (repeat' first|apply Ca 1;(refine Ck 1 ?_)|refine yyp ?_;try refine Ce ?_ ?_<;>intro hb|refine yy ?_|refine yy2 ?_ ?_<;>intro hcmp|apply Cf 187;refine Ci (hc:=(by first|exact jv9 gl t.kind|exact jv9 gl t.item)) ?_;try refine Ce ?_ ?_<;>intro hb|apply Cf 112;refine Ci (hc:=(x7 gl t.aN)) ?_;try refine Ce ?_ ?_<;>intro hb|apply ah;refine Cc [0,1,2,3,4,5,6,10,13,24] ?_|refine Cb λK hK=>?_|apply_assumption -exfalso -symm)
 all_goals
  (refine j1 (j7 ?_))
  simp only[aF,At,Am,Oe]
  (repeat (rename (∀ S,TC _ _ _ S->_)=>hX;clear hX))
  simp only[jf5]at *
  grind [Lx.prim]
end
end Go.Proofs.YtklklgfpkpglgaaGreatDoor
namespace Go.Proofs
open Go.Shelf
def Tryz.Uq:Go.Shelf.Ren:=⟨fun|171=>79|243=>134|246=>181|283=>213|284=>214|285=>215|286=>216|129=>102|317=>225|318=>226|319=>227|320=>228|337=>231|338=>232|n=>n,fun|3=>3|9=>9|2=>2|4=>4|171=>236|0=>0|53=>162|37=>238|5=>5|173=>239|212=>250|51=>160|20=>20|213=>251|46=>121|232=>256|233=>257|n=>n,fun|17=>3|18=>6|19=>7|n=>n⟩
theorem Tryz.Xw:Go.Proofs.LaysM.n171 Tryz.prog Tryz.Uq:={
 mixed:=by kernel_rfl
 f129:=Tryz.func102.trans (congrArg some (by kernel_rfl))
 f171:=Tryz.func79.trans (congrArg some (by kernel_rfl))
 f243:=Tryz.func134.trans (congrArg some (by kernel_rfl))
 f246:=Tryz.func181.trans (congrArg some (by kernel_rfl))
 f283:=Tryz.func213.trans (congrArg some (by kernel_rfl))
 f284:=Tryz.func214.trans (congrArg some (by kernel_rfl))
 f285:=Tryz.func215.trans (congrArg some (by kernel_rfl))
 f286:=Tryz.func216.trans (congrArg some (by kernel_rfl))
 f317:=Tryz.func225.trans (congrArg some (by kernel_rfl))
 f318:=Tryz.func226.trans (congrArg some (by kernel_rfl))
 f319:=Tryz.func227.trans (congrArg some (by kernel_rfl))
 f320:=Tryz.func228.trans (congrArg some (by kernel_rfl))
 f337:=Tryz.func231.trans (congrArg some (by kernel_rfl))
 f338:=Tryz.func232.trans (congrArg some (by kernel_rfl))
 t0:=Tryz.underlying0
 a0:=Tryz.isAgg0
 z0:=Tryz.sizeOf0
 v0:=Tryz.zeroValue0
 t2:=Tryz.underlying2
 a2:=Tryz.isAgg2
 z2:=Tryz.sizeOf2
 v2:=Tryz.zeroValue2
 t3:=Tryz.underlying3
 a3:=Tryz.isAgg3
 z3:=Tryz.sizeOf3
 v3:=Tryz.zeroValue3
 t4:=Tryz.underlying4
 a4:=Tryz.isAgg4
 z4:=Tryz.sizeOf4
 v4:=Tryz.zeroValue4
 t5:=Tryz.underlying5
 a5:=Tryz.isAgg5
 z5:=Tryz.sizeOf5
 v5:=Tryz.zeroValue5
 t9:=Tryz.underlying9
 a9:=Tryz.isAgg9
 z9:=Tryz.sizeOf9
 v9:=Tryz.zeroValue9
 t20:=Tryz.underlying20
 a20:=Tryz.isAgg20
 z20:=Tryz.sizeOf20
 v20:=Tryz.zeroValue20
 t37:=Tryz.underlying238
 a37:=Tryz.isAgg238
 z37:=Tryz.sizeOf238
 v37:=Tryz.zeroValue238
 t46:=Tryz.underlying121
 a46:=Tryz.isAgg121
 z46:=Tryz.sizeOf121
 v46:=Tryz.zeroValue121
 t51:=Tryz.underlying160
 a51:=Tryz.isAgg160
 z51:=Tryz.sizeOf160
 v51:=Tryz.zeroValue160
 t53:=Tryz.underlying162
 a53:=Tryz.isAgg162
 z53:=Tryz.sizeOf162
 v53:=Tryz.zeroValue162
 t171:=Tryz.underlying236
 a171:=Tryz.isAgg236
 z171:=Tryz.sizeOf236
 v171:=Tryz.zeroValue236
 t173:=Tryz.underlying239
 a173:=Tryz.isAgg239
 z173:=Tryz.sizeOf239
 v173:=Tryz.zeroValue239
 t212:=Tryz.underlying250
 a212:=Tryz.isAgg250
 z212:=Tryz.sizeOf250
 v212:=Tryz.zeroValue250
 t213:=Tryz.underlying251
 a213:=Tryz.isAgg251
 z213:=Tryz.sizeOf251
 t232:=Tryz.underlying256
 a232:=Tryz.isAgg256
 z232:=Tryz.sizeOf256
 v232:=Tryz.zeroValue256
 t233:=Tryz.underlying257
 a233:=Tryz.isAgg257
 z233:=Tryz.sizeOf257
 v233:=Tryz.zeroValue257
 g17:=by kernel_rfl
 g18:=by kernel_rfl
 g19:=by kernel_rfl
 i0:=by kernel_rfl
 i2:=by kernel_rfl
 i3:=by kernel_rfl
 i4:=by kernel_rfl
 i5:=by kernel_rfl
 i9:=by kernel_rfl
 i20:=by kernel_rfl
 i37:=by kernel_rfl
 i46:=by kernel_rfl
 i51:=by kernel_rfl
 i53:=by kernel_rfl
 i171:=by kernel_rfl
 i173:=by kernel_rfl
 i212:=by kernel_rfl
 i232:=by kernel_rfl
 i233:=by kernel_rfl
 m17:=by kernel_rfl
 m18:=by kernel_rfl
 m19:=by kernel_rfl}
open Go.RowKit Go.Sort Go.Lib in
theorem Tryz.strconv_Itoa (n:Int)(h0:-9223372036854775808<=n)(h1:n<=9223372036854775807)(w:World)(htab:Lib.TabIs Tryz.prog w "internal/strconv.uint64pow10" .u64 Lib.pow10Tab):
 Calls Tryz.prog 79 #[.int .i64 n] w λe w'=>e=.returned (.string ⟨(Lib.itoa n).toArray⟩)/\∃ k os,w'=grow (w.drewN k) os:=Any.strconv_Itoa Tryz.Xw n h0 h1 w htab
def Tryz.Vo:Go.Shelf.Ren:=⟨fun|144=>194|143=>218|219=>229|217=>233|225=>234|224=>235|267=>236|266=>237|314=>238|n=>n,fun|9=>9|4=>4|3=>3|5=>5|46=>121|146=>258|51=>160|n=>n,fun|1=>5|n=>n⟩
theorem Tryz.lays144:Go.Proofs.Lays.n144 Tryz.prog Tryz.Vo:={
 mixed:=by kernel_rfl
 f143:=Tryz.func218.trans (congrArg some (by kernel_rfl))
 f144:=Tryz.func194.trans (congrArg some (by kernel_rfl))
 f217:=Tryz.func233.trans (congrArg some (by kernel_rfl))
 f219:=Tryz.func229.trans (congrArg some (by kernel_rfl))
 f224:=Tryz.func235.trans (congrArg some (by kernel_rfl))
 f225:=Tryz.func234.trans (congrArg some (by kernel_rfl))
 f266:=Tryz.func237.trans (congrArg some (by kernel_rfl))
 f267:=Tryz.func236.trans (congrArg some (by kernel_rfl))
 f314:=Tryz.func238.trans (congrArg some (by kernel_rfl))
 t3:=Tryz.underlying3
 a3:=Tryz.isAgg3
 z3:=Tryz.sizeOf3
 v3:=Tryz.zeroValue3
 t4:=Tryz.underlying4
 a4:=Tryz.isAgg4
 z4:=Tryz.sizeOf4
 v4:=Tryz.zeroValue4
 t5:=Tryz.underlying5
 a5:=Tryz.isAgg5
 z5:=Tryz.sizeOf5
 v5:=Tryz.zeroValue5
 t9:=Tryz.underlying9
 a9:=Tryz.isAgg9
 z9:=Tryz.sizeOf9
 v9:=Tryz.zeroValue9
 t46:=Tryz.underlying121
 a46:=Tryz.isAgg121
 z46:=Tryz.sizeOf121
 v46:=Tryz.zeroValue121
 t51:=Tryz.underlying160
 a51:=Tryz.isAgg160
 z51:=Tryz.sizeOf160
 v51:=Tryz.zeroValue160
 t146:=Tryz.underlying258
 a146:=Tryz.isAgg258
 z146:=Tryz.sizeOf258
 v146:=Tryz.zeroValue258
 g1:=by kernel_rfl}
open Go.RowKit Go.Lib in
theorem Tryz.strings_Contains (s sub:ByteArray)(m:Int)(w:World)(hs:s.size<4294967281)(hm:w.cell? ⟨5,0,none⟩=some (.int .i64 m)):
 Calls Tryz.prog 194 #[.string s,.string sub] w λe w'=>e=.returned (.bool (Lib.contains s.data.toList sub.data.toList))/\w'=w:=Any.strings_Contains Tryz.lays144 s sub m w hs hm
def Tryz.Vp:Go.Shelf.Ren:=⟨fun|190=>32|125=>60|258=>59|128=>101|129=>102|302=>92|303=>93|304=>94|305=>95|306=>96|307=>97|308=>98|309=>99|310=>100|333=>135|329=>136|330=>137|334=>138|335=>139|336=>140|344=>182|n=>n,fun|31=>37|9=>9|3=>3|46=>121|0=>0|51=>160|53=>162|4=>4|183=>152|182=>151|131=>157|5=>5|218=>188|222=>192|228=>215|229=>216|n=>n,fun|n=>n⟩
theorem Tryz.Xe:Go.Proofs.Lays.n190 Tryz.prog Tryz.Vp:={
 mixed:=by kernel_rfl
 f125:=Tryz.func60.trans (congrArg some (by kernel_rfl))
 f128:=Tryz.func101.trans (congrArg some (by kernel_rfl))
 f129:=Tryz.func102.trans (congrArg some (by kernel_rfl))
 f190:=Tryz.func32.trans (congrArg some (by kernel_rfl))
 f258:=Tryz.func59.trans (congrArg some (by kernel_rfl))
 f302:=Tryz.func92.trans (congrArg some (by kernel_rfl))
 f303:=Tryz.func93.trans (congrArg some (by kernel_rfl))
 f304:=Tryz.func94.trans (congrArg some (by kernel_rfl))
 f305:=Tryz.func95.trans (congrArg some (by kernel_rfl))
 f306:=Tryz.func96.trans (congrArg some (by kernel_rfl))
 f307:=Tryz.func97.trans (congrArg some (by kernel_rfl))
 f308:=Tryz.func98.trans (congrArg some (by kernel_rfl))
 f309:=Tryz.func99.trans (congrArg some (by kernel_rfl))
 f310:=Tryz.func100.trans (congrArg some (by kernel_rfl))
 f329:=Tryz.func136.trans (congrArg some (by kernel_rfl))
 f330:=Tryz.func137.trans (congrArg some (by kernel_rfl))
 f333:=Tryz.func135.trans (congrArg some (by kernel_rfl))
 f334:=Tryz.func138.trans (congrArg some (by kernel_rfl))
 f335:=Tryz.func139.trans (congrArg some (by kernel_rfl))
 f336:=Tryz.func140.trans (congrArg some (by kernel_rfl))
 f344:=Tryz.func182.trans (congrArg some (by kernel_rfl))
 t0:=Tryz.underlying0
 a0:=Tryz.isAgg0
 z0:=Tryz.sizeOf0
 v0:=Tryz.zeroValue0
 t3:=Tryz.underlying3
 a3:=Tryz.isAgg3
 z3:=Tryz.sizeOf3
 v3:=Tryz.zeroValue3
 t4:=Tryz.underlying4
 a4:=Tryz.isAgg4
 z4:=Tryz.sizeOf4
 v4:=Tryz.zeroValue4
 t5:=Tryz.underlying5
 a5:=Tryz.isAgg5
 z5:=Tryz.sizeOf5
 v5:=Tryz.zeroValue5
 t9:=Tryz.underlying9
 a9:=Tryz.isAgg9
 z9:=Tryz.sizeOf9
 v9:=Tryz.zeroValue9
 t31:=Tryz.underlying37
 a31:=Tryz.isAgg37
 z31:=Tryz.sizeOf37
 v31:=Tryz.zeroValue37
 t46:=Tryz.underlying121
 a46:=Tryz.isAgg121
 z46:=Tryz.sizeOf121
 v46:=Tryz.zeroValue121
 t51:=Tryz.underlying160
 a51:=Tryz.isAgg160
 z51:=Tryz.sizeOf160
 v51:=Tryz.zeroValue160
 t53:=Tryz.underlying162
 a53:=Tryz.isAgg162
 z53:=Tryz.sizeOf162
 v53:=Tryz.zeroValue162
 t131:=Tryz.underlying157
 a131:=Tryz.isAgg157
 z131:=Tryz.sizeOf157
 v131:=Tryz.zeroValue157
 t182:=Tryz.underlying151
 a182:=Tryz.isAgg151
 z182:=Tryz.sizeOf151
 v182:=Tryz.zeroValue151
 t183:=Tryz.underlying152
 a183:=Tryz.isAgg152
 z183:=Tryz.sizeOf152
 v183:=Tryz.zeroValue152
 t218:=Tryz.underlying188
 a218:=Tryz.isAgg188
 z218:=Tryz.sizeOf188
 v218:=Tryz.zeroValue188
 t222:=Tryz.underlying192
 a222:=Tryz.isAgg192
 z222:=Tryz.sizeOf192
 v222:=Tryz.zeroValue192
 t228:=Tryz.underlying215
 a228:=Tryz.isAgg215
 z228:=Tryz.sizeOf215
 v228:=Tryz.zeroValue215
 t229:=Tryz.underlying216
 a229:=Tryz.isAgg216
 z229:=Tryz.sizeOf216
 v229:=Tryz.zeroValue216}
open Go.Sort Go.RowKit in
theorem Tryz.slices_Sort_string (blk off cap:Nat)(ss:List (List UInt8))(w:World)(hH:Holds encStr w blk off ss.toArray)(hblk:blk<w.heap.size)(hsz:ss.length<4611686018427387904):
 Calls Tryz.prog 32 #[.slice (some ⟨blk,off,none⟩) ss.length cap] w λe w'=>
  e=.returned (.tuple #[])/\∃ n os,w'=grow (putRow encStr (Sort.ahead w n) blk off (ss.mergeSort λx y=>decide (x<=y)).toArray) os:=Any.slices_Sort_string Tryz.Xe blk off cap ss w hH hblk hsz
def Tryz.Vq:Go.Shelf.Ren:=⟨fun|194=>33|n=>n,fun|31=>37|9=>9|3=>3|4=>4|0=>0|n=>n,fun|n=>n⟩
theorem Tryz.Xf:Go.Proofs.Lays.n194 Tryz.prog Tryz.Vq:={
 mixed:=by kernel_rfl
 f194:=Tryz.func33.trans (congrArg some (by kernel_rfl))
 t0:=Tryz.underlying0
 a0:=Tryz.isAgg0
 z0:=Tryz.sizeOf0
 v0:=Tryz.zeroValue0
 t3:=Tryz.underlying3
 a3:=Tryz.isAgg3
 z3:=Tryz.sizeOf3
 v3:=Tryz.zeroValue3
 t4:=Tryz.underlying4
 a4:=Tryz.isAgg4
 z4:=Tryz.sizeOf4
 v4:=Tryz.zeroValue4
 t9:=Tryz.underlying9
 a9:=Tryz.isAgg9
 z9:=Tryz.sizeOf9
 v9:=Tryz.zeroValue9
 t31:=Tryz.underlying37
 a31:=Tryz.isAgg37
 z31:=Tryz.sizeOf37
 v31:=Tryz.zeroValue37}
open Go.RowKit Go.Lib Go.Sort in
theorem Tryz.slices_Compact_string (blk off cap:Nat)(zs:List (List UInt8))(w:World)(hH:Holds encStr w blk off zs.toArray)(hsz:zs.length<=9223372036854775807)(hcap:zs.length<=cap):
 Calls Tryz.prog 33 #[.slice (some ⟨blk,off,none⟩) zs.length cap] w λe w'=>e=.returned (.slice (some ⟨blk,off,none⟩) (Lib.compact zs).length cap)/\∃ q,w'=putRow encStr (Sort.ahead w q) blk off (Lib.compact zs++List.replicate (zs.length - (Lib.compact zs).length) []).toArray:=Any.slices_Compact_string Tryz.Xf blk off cap zs w hH hsz hcap
open Go.RowKit Go.Lib Go.Sort in
theorem Tryz.slices_Compact_string_empty (a:Option Addr)(cap:Nat)(w:World):
 Calls Tryz.prog 33 #[.slice a 0 cap] w λe w'=>e=.returned (.slice a 0 cap)/\w'=w:=Any.slices_Compact_string_empty Tryz.Xf a cap w
open Go.RowKit Go.Sort in
theorem Tryz.slices_Sort_string_none (p:Option Addr)(cap:Nat)(w:World):
 Calls Tryz.prog 32 #[.slice p 0 cap] w λe w'=>e=.returned (.tuple #[])/\w'=w:=Any.slices_Sort_string_none Tryz.Xe p cap w
end Go.Proofs
namespace Go.Proofs.YtklklgfpkpglgaaGreatDoor
open Go.RowKit Go.Proofs.Tryz Lx
variable (gl:List (Nat × List D))
section
def Qz:List Nat:=[0,2,3,4,5,6]
variable {mm:Int}
namespace Lx
def inside (s t:ByteArray):Bool:=(List.range (s.size+1)).any λi=>t.data.toList.isPrefixOf (s.data.toList.drop i)
def kp5:List UInt8:=[32,65,70,84,69,82,32,65,76,84,32,65,78,68,32,66,79,79,76,32,66,89,84,69,32,67,65,83,69,32,67,72,65,78,32,69,76,83,69,32,70,65,76,83,69,32,70,79,82,32,73,70,32,73,78,84,32,73,83,32,77,73,78,85,83,32,78,79,84,32,79,70,32,79,82,32,80,65,82,32,80,76,65,67,69,68,32,80,76,85,83,32,80,82,73,32,80,82,79,67,32,80,82,79,67,69,83,83,79,82,32,80,82,79,84,79,67,79,76,32,83,69,81,32,83,73,90,69,32,83,75,73,80,32,83,84,79,80,32,84,73,77,69,82,32,84,73,77,69,83,32,84,82,85,69,32,86,65,76,32,87,72,73,76,69,32]
def Xd:ByteArray:=⟨kp5.toArray⟩
theorem me4:∀ (s t:List UInt8),(32:UInt8)∉s->(s++32::t).takeWhile (λc=>c != 32)=s
 |[],t,_=>by simp
 |c::s,t,h=>by
  have h1:c≠32:=λe=>h (by simp[e]);have h2:=me4 s t (λe=>h (Ax _ e));simp[List.takeWhile_cons,h1,h2]
theorem ru1:∀ i<167,kp5[i]? =some 32->(kp5.drop (i+1)).takeWhile (λc=>c != 32)=[]\/(keys.any λk=>decide (k.data.toList=(kp5.drop (i+1)).takeWhile (λc=>c != 32)))=true:=by decide+kernel
theorem qi2:∀ k∈keys.map (λk=>k.data.toList),∃ i<167,(32::k++[32]).isPrefixOf (kp5.drop i)=true:=by decide+kernel
theorem mz0 {s:List UInt8}(h:s.all Kv=true):(32:UInt8)∉s:=λhm=>by
 have:=By.1 h _ hm
 revert this
 decide
theorem Qx:Xd.size=166:=by decide+kernel
theorem Vn (s:ByteArray)(hw:s.data.toList.all Kv=true)(h0:s.data.toList≠[]):inside Xd ((⟨#[32]⟩++s)++⟨#[32]⟩)=isKey s:=by
 have hl:((⟨#[32]⟩++s)++⟨#[32]⟩:ByteArray).data.toList=32::s.data.toList++[32]:=by simp[ByteArray.data_append]
 unfold inside;rw[hl,Ej];have hK:Xd.data.toList=kp5:=rfl;rw[hK];constructor
 ·intro h;obtain⟨i,hi,hp⟩:=Ek.1 h;have hi:i<167:=by have:=Fh.1 hi;rw[Qx]at this;omega
  obtain⟨t,ht⟩:=List.isPrefixOf_iff_prefix.1 hp;have h1:kp5[i]? =some 32:=by
   have:(kp5.drop i)[0]? =some 32:=by rw[<-ht];rfl
   rwa [Eo,Nat.add_zero]at this
  have h2:kp5.drop (i+1)=s.data.toList++32::t:=by
   have:(kp5.drop i).drop 1=s.data.toList++32::t:=by rw[<-ht];simp
   rwa [List.drop_drop]at this
  have h3:=ru1 i hi h1;rw[h2,me4 _ _ (mz0 hw)]at h3;rcases h3 with h3|h3
  ·exact absurd h3 h0
  ·unfold isKey;obtain⟨k,hk,hk2⟩:=Ek.1 h3;refine Ek.2 ⟨k,hk,?_⟩;have hk2:=of_decide_eq_true hk2;refine Bm ?_;cases k with|mk k=>cases s with|mk s=>cases k with|mk k=>cases s with|mk s=>exact congrArg (λl=>ByteArray.mk (Array.mk l)) hk2
 ·intro h;unfold isKey at h;obtain⟨k,hk,hk2⟩:=Ek.1 h;have hk2:=of_decide_eq_true hk2;subst hk2;obtain⟨i,hi,hp⟩:=qi2 k.data.toList (Br.2 ⟨k,hk,rfl⟩);exact Ek.2 ⟨i,Fh.2 (by rw[Qx];omega),hp⟩
end Lx
theorem kd0:∀ l sub:List UInt8,0<=Lib.index l sub↔∃ i,i<=l.length/\sub.isPrefixOf (l.drop i)=true
 |[],sub=>by
  cases sub with
  |nil=>simp[Lib.index]
  |cons c sub=>simp[Lib.index]
 |b::l,sub=>by
  have ih:=kd0 l sub;have hge:=Lib.index_ge l sub;rw[Lib.index];constructor
  ·intro h;split at h
   ·rename_i hp;exact⟨0,Ak _,hp⟩
   ·split at h
    ·omega
    ·rename_i hne;have hne:Lib.index l sub≠-1:=λe=>hne (by rw[e];rfl);obtain⟨i,hi,hp⟩:=ih.1 (by omega);exact⟨i+1,by simp only[Aj];omega,hp⟩
  ·rintro⟨i,hi,hp⟩;split
   ·omega
   ·rename_i hn;cases i with
    |zero=>exact absurd hp hn
    |succ i=>
     have h0:=ih.2 ⟨i,by simp only[Aj]at hi;omega,hp⟩;have hne:¬(Lib.index l sub == -1)=true:=by
      intro e;have:=eq_of_beq e;omega
     rw[Af hne];omega
theorem ki1 (s t:ByteArray):Lib.contains s.data.toList t.data.toList=Lx.inside s t:=by
 unfold Lib.contains Lx.inside;rw[Ej,Ah,kd0,Ek];have hl:s.data.toList.length=s.size:=by simp
 constructor
 ·rintro⟨i,hi,hp⟩;exact⟨i,Fh.2 (by omega),hp⟩
 ·rintro⟨i,hi,hp⟩;exact⟨i,by have:=Fh.1 hi;omega,hp⟩
theorem mm8 (s t:ByteArray)(hs:s.size<=1000):FnD prog (glS mm) 194 [.d (.str s),.d (.str t)] (λv=>v=.d (.bool (Lx.inside s t))):=by
 intro w M us hM hus hg;simp only[Cs]at hus;obtain⟨v,r,rfl,hv,u,r2,rfl,hu,rfl⟩:=hus;have hv':v=.string s:=hv;have hu':u=.string t:=hu;subst hv' hu';obtain⟨v1,t1,f1,q1,_,q2⟩:=hg 5 _ rfl;simp only[Dz]at q2;obtain⟨z,r3,rfl,_,hz,rfl⟩:=q2;have hz':z=.int .i64 mm:=hz;subst hz';refine(Tryz.strings_Contains s t mm w (by omega) ?_).mono ?_
 ·simp only[World.cell?,q1];rfl
 ·rintro e w' ⟨rfl,rfl⟩;exact⟨_,_,rfl,.d _,rfl,Below.refl _ _,by rw[ki1];rfl⟩
attribute [local irreducible] TR TC
theorem vg0 (s:ByteArray)(hs:s.size<=1000):FnD prog (glS mm) 164 [.d (.str s)] (λv=>v=.d (.bool (Lx.isKey s))):=by
 have hsz:s.data.toList.length=s.size:=by simp
 have hrun:=rn9 (glS mm) s (by omega);have hc:=mm8 (mm:=mm) Xd ((⟨#[32]⟩++s)++⟨#[32]⟩) (by rw[Qx];omega);have hz:(⟨#[32]⟩:ByteArray).size=1:=rfl;have hz2:(⟨#[32]⟩++s:ByteArray).size=1+s.size:=by rw[ByteArray.size_append,hz]
 have hnk:∀ c∈Lx.keys,c.data.toList.all Kv=true/\c≠⟨#[]⟩:=by decide+kernel
 by_cases h0:s=⟨#[]⟩
 ·have hk:Lx.isKey s=false:=by rw[h0];decide+kernel
  (refine j4 func164 ntmps164 results164 λw M=>?_)
  (repeat' first|refine yyp ?_;try refine Ce ?_ ?_<;>intro hb|refine yy ?_|refine yy2 ?_ ?_<;>intro hcmp|apply ah;refine Cc Qz ?_|refine Cb λK hK=>?_|apply_assumption -exfalso -symm)
  all_goals try contradiction
  (refine j1 (j7 ?_))
  rw[hk];rfl
 by_cases hw:s.data.toList.all Kv=true
 ·have h0':s.data.toList≠[]:=λe=>h0 (by cases s with|mk s=>cases s with|mk s=>cases e;rfl);rw[Vn s hw h0']at hc;have hr:Lx.run s.data.toList=s.size:=by rw[<-hsz];exact(Rs _).2 hw
  rw[hr]at hrun
  (refine j4 func164 ntmps164 results164 λw M=>?_)
  (repeat' first|refine yyp ?_;try refine Ce ?_ ?_<;>intro hb|refine yy ?_|refine yy2 ?_ ?_<;>intro hcmp|apply Cf 163;refine Ci (hc:=hrun) ?_|apply Cf 194;refine Ci (hc:=hc) ?_;try refine Ce ?_ ?_<;>intro hb|apply ah;refine Cc Qz ?_|refine Cb λK hK=>?_|apply_assumption -exfalso -symm)
  all_goals try contradiction
  all_goals
   (refine j1 (j7 ?_))
   simp only[aF, *]
 ·have hk:Lx.isKey s=false:=by
   cases h:Lx.isKey s with
   |false=>rfl
   |true=>
    obtain⟨k,hk,hk2⟩:=Ek.1 h;have:=of_decide_eq_true hk2;subst this;exact absurd (hnk _ hk).1 hw
  have hr:¬Lx.run s.data.toList=s.size:=λe=>hw ((Rs _).1 (by rw[hsz];exact e))
  (refine j4 func164 ntmps164 results164 λw M=>?_)
  (repeat' first|refine yyp ?_;try refine Ce ?_ ?_<;>intro hb|refine yy ?_|refine yy2 ?_ ?_<;>intro hcmp|apply Cf 163;refine Ci (hc:=hrun) ?_|apply ah;refine Cc Qz ?_|refine Cb λK hK=>?_|apply_assumption -exfalso -symm)
  all_goals try contradiction
  (refine j1 (j7 ?_))
  rw[hk];rfl
theorem jj6 (s:ByteArray):FnD prog (glS mm) 125 [.d (.str s)] (λv=>v=.d (.bool (Cw s))):=by
 have hsz:s.data.toList.length=s.size:=by simp
 cases hs:s.data.toList with
 |nil=>
  have h0:s=⟨#[]⟩:=by cases s with|mk s=>cases s with|mk s=>cases hs;rfl
  (refine j4 func125 ntmps125 results125 λw M=>?_)
  (repeat' first|refine yyp ?_;try refine Ce ?_ ?_<;>intro hb|refine yy ?_|refine yy2 ?_ ?_<;>intro hcmp|apply ah;refine Cc Qz ?_|refine Cb λK hK=>?_|apply_assumption -exfalso -symm)
  all_goals try contradiction
  (refine j1 (j7 ?_))
  simp[aF,Cw,hs]
 |cons c l=>
  rw[hs]at hsz;simp only[Aj]at hsz;have h0:¬s=⟨#[]⟩:=λe=>by rw[e]at hs;cases hs
  have hn:=me3 s c l hs;have hc0:s.data.toList[0]? =some c:=by rw[hs];rfl
  by_cases h32:s.size<=32
  ·have hrun:=rn9 (glS mm) s (by omega);have hk:=vg0 (mm:=mm) s (by omega);by_cases hall:(c::l).all Kv=true
   ·have hr:Lx.run s.data.toList=s.size:=by rw[hs,(Rs _).2 hall];simpa using hsz
    rw[hr]at hrun
    (refine j4 func125 ntmps125 results125 λw M=>?_)
    (repeat' first|refine yyp ?_;try refine Ce ?_ ?_<;>intro hb|refine yy ?_|refine yy2 ?_ ?_<;>intro hcmp|apply Cf 162;refine Ci (hc:=(kh7 (glS mm) c)) ?_;try refine Ce ?_ ?_<;>intro hb|apply Cf 163;refine Ci (hc:=hrun) ?_|apply Cf 164;refine Ci (hc:=hk) ?_;try refine Ce ?_ ?_<;>intro hb|apply ah;refine Cc Qz ?_|refine Cb λK hK=>?_|apply_assumption -exfalso -symm)
    all_goals try contradiction
    all_goals
     (refine j1 (j7 ?_))
     rw[hn];rw[Ei]at hall;have h31:l.length<32:=by omega
     simp only[Aa]at hall;simp only[aF, *,decide_true,Bf,Bu,As,Bool.not_true,Bool.not_false]
   ·have hr:¬Lx.run s.data.toList=s.size:=λe=>hall ((Rs _).1 (by rw[hs]at e;rw[e];simpa using hsz.symm))
    (refine j4 func125 ntmps125 results125 λw M=>?_)
    (repeat' first|refine yyp ?_;try refine Ce ?_ ?_<;>intro hb|refine yy ?_|refine yy2 ?_ ?_<;>intro hcmp|apply Cf 162;refine Ci (hc:=(kh7 (glS mm) c)) ?_;try refine Ce ?_ ?_<;>intro hb|apply Cf 163;refine Ci (hc:=hrun) ?_|apply ah;refine Cc Qz ?_|refine Cb λK hK=>?_|apply_assumption -exfalso -symm)
    all_goals try contradiction
    all_goals
     (refine j1 (j7 ?_))
     rw[hn];rw[Ei]at hall;simp only[aF,At,Am];have hlw:=ju0 c
     (repeat (rename (∀ S,TC _ _ _ S->_)=>hX;clear hX))
     clear hn hrun hk
     grind
  ·(refine j4 func125 ntmps125 results125 λw M=>?_)
   (repeat' first|refine yyp ?_;try refine Ce ?_ ?_<;>intro hb|refine yy ?_|refine yy2 ?_ ?_<;>intro hcmp|apply ah;refine Cc Qz ?_|refine Cb λK hK=>?_|apply_assumption -exfalso -symm)
   all_goals try contradiction
   all_goals
    (refine j1 (j7 ?_))
    rw[hn];have h31:¬l.length<32:=by omega
    simp only[aF,h31,decide_false,As]
theorem kw0 (t:Ty):FnD prog (glS mm) 172 [.d (dTy t)] (λv=>v=.d (.bool (Oe t))):=by
 (refine j4 func172 ntmps172 results172 λw M=>?_)
 (repeat' first|apply Ca 1;(refine Ck 1 ?_)|refine yyp ?_;try refine Ce ?_ ?_<;>intro hb|refine yy ?_|refine yy2 ?_ ?_<;>intro hcmp|apply Cf 197;refine Ci (hc:=(by first|exact rt9 t.kind|exact rt9 t.item)) ?_;try refine Ce ?_ ?_<;>intro hb|apply Cf 125;refine Ci (hc:=(jj6 t.aN)) ?_;try refine Ce ?_ ?_<;>intro hb|apply ah;refine Cc [0,1,2,3,4,5,6,12,24,31] ?_|refine Cb λK hK=>?_|apply_assumption -exfalso -symm)
 all_goals try contradiction
 all_goals
  (refine j1 (j7 ?_))
  simp only[aF,At,Am,Oe]
  (repeat (rename (∀ S,TC _ _ _ S->_)=>hX;clear hX))
  simp only[jf5]at *
  grind [Lx.prim]
end
section
def Si:List Nat:=[0,1,2,3,4,5,6,7,37,39,40,41,42,63]
variable {mm:Int}
theorem me5 (pre l:List Va)(v:Va):Oi pre (v::l)=(Cw v.tag && Lc v.items 0 && !(pre.any λw=>decide (w.tag=v.tag)) && Oi (pre++[v]) l):=rfl
theorem jo6 {α:Type}(l:List α)(k:Nat)(h:k<l.length):l.take k++[l[k]]=l.take (k+1):=(An h).symm
theorem qi3 {α β:Type}(f:α->β)(l:List α)(m:Nat):((l.map f).drop 0).take (m - 0)=(l.take m).map f:=by
 rw[Ew,Nat.sub_zero,Fc]
attribute [local irreducible] TR TC
theorem qi4 (l:List Va):FnD prog (glS mm) 174 [.d (dPt ⟨false,l⟩)] (λv=>v=.d (.bool (Ns ⟨false,l⟩))):=by
 unfold dPt Ns;dsimp only
 match l with
 |[]=>
  (refine j4 func174 ntmps174 results174 λw M=>?_)
  (repeat' first|apply Ca 1;(refine Ck 1 ?_)|refine yyp ?_;try refine Ce ?_ ?_<;>intro hb|refine yy ?_|refine yy2 ?_ ?_<;>intro hcmp|apply ah;refine Cc Si ?_|refine Cb λK hK=>?_|apply_assumption -exfalso -symm)
  ((all_goals try contradiction);(all_goals try (exfalso;(repeat (rename (∀ S,TC _ _ _ S->_)=>hX;clear hX));simp only[Aj,Az,Ab]at * <;>omega)))
  all_goals
   (refine j1 (j7 ?_))
   rfl
 |[v]=>
  have hv:(dVa v)=.agg [.str v.tag,.list 1 (v.items.map (.int .u8))]:=rfl
  (refine j4 func174 ntmps174 results174 λw M=>?_)
  (repeat' first|apply Ca 1;(refine Ck 1 ?_)|refine yyp ?_;try refine Ce ?_ ?_<;>intro hb|refine yy ?_|refine yy2 ?_ ?_<;>intro hcmp|apply Cf 198;refine Ci (hc:=(ms0 v.items 1)) ?_;try refine Ce ?_ ?_<;>intro hb|apply ah;refine Cc Si ?_|refine Cb λK hK=>?_|apply_assumption -exfalso -symm)
  all_goals try simp only[List.getElem_cons_zero]at hcmp
  ((all_goals try contradiction);(all_goals try (exfalso;(repeat (rename (∀ S,TC _ _ _ S->_)=>hX;clear hX));simp only[Aj,Az,Ab]at * <;>omega)))
  all_goals
   (refine j1 (j7 ?_))
   simp[aF,jf5, *]
 |v::w::r=>
  (refine j4 func174 ntmps174 results174 λw M=>?_)
  (repeat' first|apply Ca 1;(refine Ck 1 ?_)|refine yyp ?_;try refine Ce ?_ ?_<;>intro hb|refine yy ?_|refine yy2 ?_ ?_<;>intro hcmp|apply ah;refine Cc Si ?_|refine Cb λK hK=>?_|apply_assumption -exfalso -symm)
  all_goals try simp only[List.getElem_cons_zero]at hcmp
  ((all_goals try contradiction);(all_goals try (exfalso;(repeat (rename (∀ S,TC _ _ _ S->_)=>hX;clear hX));simp only[Aj,Az,Ab]at * <;>omega)))
  all_goals
   (refine j1 (j7 ?_))
   rfl
theorem qi5 (l:List Va):FnD prog (glS mm) 174 [.d (dPt ⟨true,l⟩)] (λv=>v=.d (.bool (Ns ⟨true,l⟩))):=by
 unfold dPt Ns;dsimp only;rw[Ad rfl]
 (refine j4 func174 ntmps174 results174 λw M=>?_)
 (repeat' first|apply Ca 1;(refine Ck 1 ?_)|refine yyp ?_;try refine Ce ?_ ?_<;>intro hb|refine yy ?_|refine yy2 ?_ ?_<;>intro hcmp|apply ah;refine Cc Si ?_|refine Cb λK hK=>?_|apply_assumption -exfalso -symm)
 ·(refine j1 (j7 ?_))
  rw[Bl (by omega)];rfl
 ·(refine j1 (j7 ?_))
  rw[Bl (by omega)];rfl
 have hd:decide (1<=l.length/\l.length<=16)=true:=Bm (by omega);refine k9 [2,3,4,41,42,43,44,45,46,47,48,49,50,51,52,53,54,55,56,57,58,59,60,61,62,63,64] [] (λk:Nat=>[(41,.d (.int .i64 k))]) (λ_=>[]) (λk=>k<=l.length/\Oi [] l=Oi (l.take k) (l.drop k)) (λk=>l.length - k) 0 ⟨by omega,rfl⟩ λk ⟨hk,hi⟩=>?_;dsimp only[Ac,Ae];rcases Ai k l.length with hk2|hk2
 ·rw[Bk hk2,me5,jo6 l k hk2]at hi;have hit:=ms0 (mm:=mm) l[k].items 0;have hcf:=vq1 (glS mm) l[k].tag (l[k].items.map (.int .u8)) (λw=>decide (w.tag=l[k].tag)) (l.take k) λj hj=>me2 (mm:=mm) l[k].tag (l[k].items.map (.int .u8)) _
  (repeat' first|apply Ca 4;(refine j2 4 ?_)|apply Ca 60;(refine z_p rr9 ?_;simp only[qi3])|apply Ca 62;refine Ch (hc:=hcf) ?_;try refine Ce ?_ ?_<;>intro hb|refine yyp ?_;try refine Ce ?_ ?_<;>intro hb|refine yy ?_|apply Cf 198;refine Ci (hc:=hit) ?_;try refine Ce ?_ ?_<;>intro hb|apply Cf 125;refine Ci (hc:=(jj6 l[k].tag)) ?_;try refine Ce ?_ ?_<;>intro hb|apply ah;refine Cc Si ?_|refine Cb λK hK=>?_|apply_assumption -exfalso -symm)
  all_goals first
   |(refine⟨k+1,⟨by omega,?_⟩,by omega,v6⟩
     rw[hi];simp only[*,Bool.not_false,Bf])
   |((refine j1 (j7 ?_))
     rw[hi,hd];simp only[aF, *,Bool.not_true,Bf,Be,As])
 ·rw[Bq hk2]at hi
  (repeat' first|refine yyp ?_;try refine Ce ?_ ?_<;>intro hb|refine yy ?_|apply ah;refine Cc Si ?_|refine Cb λK hK=>?_|apply_assumption -exfalso -symm)
  (refine j1 (j7 ?_))
  rw[hi,hd];rfl
theorem rc4 (p:Pt):FnD prog (glS mm) 174 [.d (dPt p)] (λv=>v=.d (.bool (Ns p))):=by
 obtain⟨c,l⟩:=p;cases c with
 |false=>exact qi4 l
 |true=>exact qi5 l
end
end Go.Proofs.YtklklgfpkpglgaaGreatDoor
