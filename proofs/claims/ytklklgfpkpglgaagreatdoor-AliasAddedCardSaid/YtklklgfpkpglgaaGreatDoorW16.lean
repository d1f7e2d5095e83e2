/- Parts. -/
import Derived.Test.YtklklgfpkpglgaaGreatDoorW15
import Derived.Shelf.Small.Bits
import Derived.Shelf.Strconv.Itoa0
import Derived.Shelf.Strconv.Itoa1
import Derived.Shelf.LaysM
import Derived.Shelf.Strconv.Itoa2
import Derived.Shelf.Strconv.Itoa3
import Derived.Shelf.Strings.Search1
import Derived.Shelf.Strings.Search2
import Derived.Shelf.Strings.Search3
import Derived.Shelf.Strings.Shaped
import Derived.Shelf.Sort.Plain
import Derived.Shelf.Slices.CompactS
import Derived.Shelf.Slices.Cells
import Derived.Shelf.Slices.In.SortNone
set_option linter.all false
set_option maxRecDepth 100000
set_option maxHeartbeats 0
namespace Go.Proofs.YtklklgfpkpglgaaGreatDoor
open Go.RowKit Go.Proofs.Tryz Lx
variable (gl:List (Nat × List D))
section
def Tp:List Nat:=[0,2,3,4,5,6]
def Sn:List Nat:=[0,1,4,5,6,7,9,17]
def rf4:List Nat:=[4,5,6,7,8,9,10,11,12,13,14,15,16,17]
def Vd:List Nat:=[0,2,3,4,5,6,21,25,32]
theorem jf7:ByteArray.empty=⟨#[]⟩:=rfl
attribute [local irreducible] TR TC
theorem kh8 (c:UInt8):FnD prog gl 144 [.d (.int .u8 c.toNat)] (λv=>v=.d (.bool (Lx.letter c))):=by
 (refine j5 func144 ntmps144 results144 λw M=>?_)
 (repeat' first|refine yyp ?_;try refine Ce ?_ ?_<;>intro hb|refine yy ?_|refine yy2 ?_ ?_<;>intro hcmp|apply ah;refine Cc Tp ?_|refine Cb λK hK=>?_|apply_assumption -exfalso -symm)
 all_goals
  (refine j1 (j8 ?_))
  simp only[aF,Aw,Aq,Lx.letter]
  first|(symm;simp only[Bq,Aj];omega)|(symm;simp only[Bool.or_eq_false_iff,decide_eq_false_iff_not];omega)
theorem mu8 (c:UInt8):FnD prog gl 186 [.d (.int .u8 c.toNat)] (λv=>v=.d (.bool (Lx.digit c))):=by
 (refine j5 func186 ntmps186 results186 λw M=>?_)
 (repeat' first|refine yyp ?_;try refine Ce ?_ ?_<;>intro hb|refine yy ?_|refine yy2 ?_ ?_<;>intro hcmp|apply ah;refine Cc Tp ?_|refine Cb λK hK=>?_|apply_assumption -exfalso -symm)
 all_goals
  (refine j1 (j8 ?_))
  simp only[aF,Aw,Aq,Lx.digit]
  first|(symm;simp only[Aj];omega)|(symm;simp only[decide_eq_false_iff_not];omega)
theorem qd4 (c:UInt8):FnD prog gl 146 [.d (.int .u8 c.toNat)] (λv=>v=.d (.bool (Kz c))):=by
 (refine j5 func146 ntmps146 results146 λw M=>?_)
 (repeat' first|refine yyp ?_;try refine Ce ?_ ?_<;>intro hb|refine yy ?_|refine yy2 ?_ ?_<;>intro hcmp|apply Cg 144;refine Ci (hc:=(kh8 gl c)) ?_;try refine Ce ?_ ?_<;>intro hb|apply Cg 186;refine Ci (hc:=(mu8 gl c)) ?_;try refine Ce ?_ ?_<;>intro hb|apply ah;refine Cc Tp ?_|refine Cb λK hK=>?_|apply_assumption -exfalso -symm)
 all_goals
  (refine j1 (j8 ?_))
  simp only[aF,Aw,Aq,Kz]
  (repeat (rename (∀ S,TC _ _ _ S->_)=>hX;clear hX))
  grind [Lx.prim]
theorem qu8 (s:ByteArray)(l:List ByteArray):FnD prog gl 184 [.d (.str s),.d (.list 1 (l.map .str))] (λv=>v=.d (.bool (l.any λk=>decide (k=s)))):=by
 (refine j5 func184 ntmps184 results184 λw M=>?_)
 refine k7 1 rfl λhn=>?_;simp only[Aa]at hn
 (repeat' first|refine yyp ?_;try refine Ce ?_ ?_<;>intro hb|refine yy ?_|apply ah;refine Cc Sn ?_|refine Cb λK hK=>?_|apply_assumption -exfalso -symm)
 refine j9 rf4 [] (λk:Nat=>[(5,.d (.int .i64 k))]) (λ_=>[]) (λk=>k<=l.length/\(l.any λk=>decide (k=s))=(l.drop k).any λk=>decide (k=s)) (λk=>l.length - k) 0 ⟨by omega,rfl⟩ λk ⟨hk,hi⟩=>?_;dsimp only[Ac,Ad];rcases Ah k l.length with hk2|hk2
 ·rw[Bo hk2,List.any_cons]at hi
  (repeat' first|refine yyp ?_;try refine Ce ?_ ?_<;>intro hb|refine yy ?_|refine yy2 ?_ ?_<;>intro hcmp|apply ah;refine Cc Sn ?_|refine Cb λK hK=>?_|apply_assumption -exfalso -symm)
  ·(refine j1 (j8 ?_))
   rw[hi,Bm hcmp];rfl
  ·refine⟨k+1,⟨by omega,?_⟩,by omega,r9⟩;rw[hi,Bn hcmp];rfl
 ·(repeat' first|refine yyp ?_;try refine Ce ?_ ?_<;>intro hb|refine yy ?_|apply ah;refine Cc Sn ?_|refine Cb λK hK=>?_|apply_assumption -exfalso -symm)
  (refine j1 (j8 ?_))
  rw[hi,Br hk2];rfl
theorem rk3:FnD prog gl 185 [] (λv=>v=.d (.list 1 (Lx.keys.map .str))):=by
 (refine j5 func185 ntmps185 results185 λw M=>?_)
 (repeat' first|apply Ca 1;(refine Df 1 ?_)|refine yyp ?_;try refine Ce ?_ ?_<;>intro hb|refine yy ?_|apply ah;refine Cc [0,1] ?_|refine Cb λK hK=>?_|apply_assumption -exfalso -symm)
 (refine j1 (j8 ?_))
 rfl
theorem qu9 (s:ByteArray):FnD prog gl 145 [.d (.str s)] (λv=>v=.d (.bool (Lx.isKey s))):=by
 (refine j5 func145 ntmps145 results145 λw M=>?_)
 (repeat' first|refine yyp ?_;try refine Ce ?_ ?_<;>intro hb|refine yy ?_|apply Cg 185;refine Ci (hc:=(rk3 gl)) ?_|apply Cg 184;refine Ci (hc:=(qu8 gl s Lx.keys)) ?_;try refine Ce ?_ ?_<;>intro hb|apply ah;refine Cc [0,2,3,4,5] ?_|refine Cb λK hK=>?_|apply_assumption -exfalso -symm)
 all_goals
  (refine j1 (j8 ?_))
  simp only[aF,Aw,Aq,Lx.isKey, *]
theorem mb9 (s:ByteArray)(c:UInt8)(l:List UInt8)(h:s.data.toList=c::l):Cy s=(decide (l.length<32) && Lx.letter c && l.all Kz && !Lx.isKey s):=by
 unfold Cy;rw[h]
theorem ju7 (c:UInt8)(h:Lx.letter c=true):Kz c=true:=by
 unfold Kz;rw[h];rfl
theorem x9 (s:ByteArray):FnD prog gl 112 [.d (.str s)] (λv=>v=.d (.bool (Cy s))):=by
 have hsz:s.data.toList.length=s.size:=by simp
 cases hs:s.data.toList with
 |nil=>
  rw[hs]at hsz;have hsz0:s.size=0:=hsz.symm
  (refine j5 func112 ntmps112 results112 λw M=>?_)
  (repeat' first|refine yyp ?_;try refine Ce ?_ ?_<;>intro hb|refine yy ?_|apply ah;refine Cc Vd ?_|refine Cb λK hK=>?_|apply_assumption -exfalso -symm)
  (refine j1 (j8 ?_))
  simp[aF,Cy,hs]
 |cons c l=>
  rw[hs]at hsz;simp only[An]at hsz;have hn:=mb9 s c l hs;have h0:s.data.toList[0]? =some c:=by rw[hs];rfl
  (refine j5 func112 ntmps112 results112 λw M=>?_)
  (repeat' first|refine yyp ?_;try refine Ce ?_ ?_<;>intro hb|refine yy ?_|refine yy2 ?_ ?_<;>intro hcmp|apply Cg 144;refine Ci (hc:=(kh8 gl c)) ?_;try refine Ce ?_ ?_<;>intro hb|apply Cg 145;refine Ci (hc:=(qu9 gl s)) ?_;try refine Ce ?_ ?_<;>intro hb|apply ah;refine Cc Vd ?_|refine Cb λK hK=>?_|apply_assumption -exfalso -symm)
  case' refine_2.refine_1.refine_2=>
   refine j9 [2,3,22,23,24,25,26,27,28,29,30,31,32] [] (λk:Nat=>[(3,.d (.int .i64 k))]) (λ_=>[]) (λk=>k<=s.size/\(c::l).all Kz=((c::l).drop k).all Kz) (λk=>s.size - k) 0 ⟨by omega,rfl⟩ λk ⟨hk,hi⟩=>?_;dsimp only[Ac,Ad];rcases Ah k s.size with hk2|hk2
   ·have hk3:k<(c::l).length:=by simp only[An];omega
    have hat:s.data.toList[k]? =some ((c::l)[k]):=by rw[hs];exact Ax hk3
    rw[Bo hk3]at hi;generalize (c::l)[k]=c' at hat hi
    (repeat' first|refine yyp ?_;try refine Ce ?_ ?_<;>intro hb|refine yy ?_|apply Cg 146;refine Ci (hc:=(qd4 gl c')) ?_;try refine Ce ?_ ?_<;>intro hb|apply ah;refine Cc Vd ?_|refine Cb λK hK=>?_|apply_assumption -exfalso -symm)
    ·refine⟨k+1,⟨by omega,?_⟩,by omega,r9⟩;rw[hi,Ei,hb];rfl
    ·(refine j1 (j8 ?_))
     rw[Ei,Ei,ju7 c (by assumption),Bf,hb,Ay]at hi;rw[hn,hi];simp[aF]
   ·(repeat' first|refine yyp ?_;try refine Ce ?_ ?_<;>intro hb|refine yy ?_|apply ah;refine Cc Vd ?_|refine Cb λK hK=>?_|apply_assumption -exfalso -symm)
    (refine j1 (j8 ?_))
    rw[Br (by simp only[An];omega),Ei,ju7 c (by assumption),Bf,List.all_nil]at hi;have hl32:l.length<32:=by omega
    rw[hn,hi];simp[aF, *]
  all_goals
   (refine j1 (j8 ?_))
   rw[hn]
   first
    |(have hl32:¬l.length<32:=by omega
      simp only[aF,hl32,decide_false,Ay])
    |simp only[aF, *,Bool.not_true,Bc,Ay]
theorem jw5 (k:Int):FnD prog gl 187 [.d (.int .u8 k)] (λv=>v=.d (.bool (Lx.prim k))):=by
 (refine j5 func187 ntmps187 results187 λw M=>?_)
 (repeat' first|refine yyp ?_;try refine Ce ?_ ?_<;>intro hb|refine yy ?_|refine yy2 ?_ ?_<;>intro hcmp|apply ah;refine Cc Tp ?_|refine Cb λK hK=>?_|apply_assumption -exfalso -symm)
 all_goals
  (refine j1 (j8 ?_))
  simp only[aF,Aw,Aq,Lx.prim, *,decide_true,decide_false,Eh,Eg,Ed,Ef]
  try rfl
theorem mj5 (k:Int):FnD prog gl 116 [.d (.int .u8 k)] (λv=>v=.d (.bool (Lx.prim k))):=by
 (refine j5 func116 ntmps116 results116 λw M=>?_)
 (repeat' first|refine yyp ?_;try refine Ce ?_ ?_<;>intro hb|refine yy ?_|refine yy2 ?_ ?_<;>intro hcmp|apply ah;refine Cc Tp ?_|refine Cb λK hK=>?_|apply_assumption -exfalso -symm)
 all_goals
  (refine j1 (j8 ?_))
  simp only[aF,Aw,Aq,Lx.prim, *,decide_true,decide_false,Eh,Eg,Ed,Ef]
  try rfl
theorem kp6 (l:List Int)(least:Int):FnD prog gl 188 [.d (.list 1 (l.map (.int .u8))),.d (.int .i64 least)] (λv=>v=.d (.bool (Lh l least))):=by
 (refine j5 func188 ntmps188 results188 λw M=>?_)
 refine k7 0 rfl λhn=>?_;simp only[Aa]at hn
 (repeat' first|refine yyp ?_;try refine Ce ?_ ?_<;>intro hb|refine yy ?_|apply ah;refine Cc Sn ?_|refine Cb λK hK=>?_|apply_assumption -exfalso -symm)
 refine j9 rf4 [] (λk:Nat=>[(5,.d (.int .i64 k))]) (λ_=>[]) (λk=>k<=l.length/\l.all Lx.prim=(l.drop k).all Lx.prim) (λk=>l.length - k) 0 ⟨by omega,rfl⟩ λk ⟨hk,hi⟩=>?_;dsimp only[Ac,Ad];rcases Ah k l.length with hk2|hk2
 ·rw[Bo hk2,Ei]at hi
  (repeat' first|refine yyp ?_;try refine Ce ?_ ?_<;>intro hb|refine yy ?_|apply Cg 187;refine Ci (hc:=(jw5 gl l[k])) ?_;try refine Ce ?_ ?_<;>intro hb|apply ah;refine Cc Sn ?_|refine Cb λK hK=>?_|apply_assumption -exfalso -symm)
  ·refine⟨k+1,⟨by omega,?_⟩,by omega,r9⟩;rw[hi,hb];rfl
  ·(refine j1 (j8 ?_))
   rw[hb,Ay]at hi;simp only[aF,Lh,hi,Bc]
 ·rw[Br hk2]at hi
  (repeat' first|refine yyp ?_;try refine Ce ?_ ?_<;>intro hb|refine yy ?_|refine yy2 ?_ ?_<;>intro hcmp|apply ah;refine Cc Sn ?_|refine Cb λK hK=>?_|apply_assumption -exfalso -symm)
  all_goals
   (refine j1 (j8 ?_))
   simp only[aF,Aw,Aq,Lh,hi,List.all_nil,Bt]
   (repeat (rename (∀ S,TC _ _ _ S->_)=>hX;clear hX))
   grind [Lx.prim]
theorem ka6 (t:Ty):FnD prog gl 147 [.d (dTy t)] (λv=>v=.d (.bool (Ol t))):=by
 (refine j5 func147 ntmps147 results147 λw M=>?_)
 (repeat' first|apply Ca 1;(refine Cm 1 ?_)|refine yyp ?_;try refine Ce ?_ ?_<;>intro hb|refine yy ?_|refine yy2 ?_ ?_<;>intro hcmp|apply Cg 187;refine Ci (hc:=(by first|exact jw5 gl t.kind|exact jw5 gl t.item)) ?_;try refine Ce ?_ ?_<;>intro hb|apply Cg 112;refine Ci (hc:=(x9 gl t.aN)) ?_;try refine Ce ?_ ?_<;>intro hb|apply ah;refine Cc [0,1,2,3,4,5,6,10,13,24] ?_|refine Cb λK hK=>?_|apply_assumption -exfalso -symm)
 all_goals
  (refine j1 (j8 ?_))
  simp only[aF,Aw,Aq,Ol]
  (repeat (rename (∀ S,TC _ _ _ S->_)=>hX;clear hX))
  simp only[jf7]at *
  grind [Lx.prim]
end
end Go.Proofs.YtklklgfpkpglgaaGreatDoor
namespace Go.Proofs
open Go.Shelf
def Tryz.Ur:Go.Shelf.Ren:=⟨fun|171=>79|243=>134|246=>181|283=>213|284=>214|285=>215|286=>216|129=>102|317=>225|318=>226|319=>227|320=>228|337=>231|338=>232|n=>n,fun|3=>3|9=>9|2=>2|4=>4|171=>236|0=>0|53=>162|37=>238|5=>5|173=>239|212=>250|51=>160|20=>20|213=>251|46=>121|232=>256|233=>257|n=>n,fun|17=>3|18=>6|19=>7|n=>n⟩
theorem Tryz.Xu:Go.Proofs.LaysM.n171 Tryz.prog Tryz.Ur:={
 mixed:=by kernel_rfl
 f129:=Tryz.func102.trans (congrArg some (by kernel_rfl))
 f171:=Tryz.func79.trans (congrArg some (by kernel_rfl))
 f243:=Tryz.func134.trans (congrArg some (by kernel_rfl))
 f246:=Tryz.func181.trans (congrArg some (by kernel_rfl))
 f283:=Tryz.func213.trans (congrArg some (by kernel_rfl))
 f284:=Tryz.func214.trans (congrArg some (by kernel_rfl))
 f285:=Tryz.func215.trans (congrArg some (by kernel_rfl))
 f286:=Tryz.func216.trans (congrArg some (by kernel_rfl))
 f317:=Tryz.func225.trans (congrArg some (by kernel_rfl))
 f318:=Tryz.func226.trans (congrArg some (by kernel_rfl))
 f319:=Tryz.func227.trans (congrArg some (by kernel_rfl))
 f320:=Tryz.func228.trans (congrArg some (by kernel_rfl))
 f337:=Tryz.func231.trans (congrArg some (by kernel_rfl))
 f338:=Tryz.func232.trans (congrArg some (by kernel_rfl))
 t0:=Tryz.underlying0
 a0:=Tryz.isAgg0
 z0:=Tryz.sizeOf0
 v0:=Tryz.zeroValue0
 t2:=Tryz.underlying2
 a2:=Tryz.isAgg2
 z2:=Tryz.sizeOf2
 v2:=Tryz.zeroValue2
 t3:=Tryz.underlying3
 a3:=Tryz.isAgg3
 z3:=Tryz.sizeOf3
 v3:=Tryz.zeroValue3
 t4:=Tryz.underlying4
 a4:=Tryz.isAgg4
 z4:=Tryz.sizeOf4
 v4:=Tryz.zeroValue4
 t5:=Tryz.underlying5
 a5:=Tryz.isAgg5
 z5:=Tryz.sizeOf5
 v5:=Tryz.zeroValue5
 t9:=Tryz.underlying9
 a9:=Tryz.isAgg9
 z9:=Tryz.sizeOf9
 v9:=Tryz.zeroValue9
 t20:=Tryz.underlying20
 a20:=Tryz.isAgg20
 z20:=Tryz.sizeOf20
 v20:=Tryz.zeroValue20
 t37:=Tryz.underlying238
 a37:=Tryz.isAgg238
 z37:=Tryz.sizeOf238
 v37:=Tryz.zeroValue238
 t46:=Tryz.underlying121
 a46:=Tryz.isAgg121
 z46:=Tryz.sizeOf121
 v46:=Tryz.zeroValue121
 t51:=Tryz.underlying160
 a51:=Tryz.isAgg160
 z51:=Tryz.sizeOf160
 v51:=Tryz.zeroValue160
 t53:=Tryz.underlying162
 a53:=Tryz.isAgg162
 z53:=Tryz.sizeOf162
 v53:=Tryz.zeroValue162
 t171:=Tryz.underlying236
 a171:=Tryz.isAgg236
 z171:=Tryz.sizeOf236
 v171:=Tryz.zeroValue236
 t173:=Tryz.underlying239
 a173:=Tryz.isAgg239
 z173:=Tryz.sizeOf239
 v173:=Tryz.zeroValue239
 t212:=Tryz.underlying250
 a212:=Tryz.isAgg250
 z212:=Tryz.sizeOf250
 v212:=Tryz.zeroValue250
 t213:=Tryz.underlying251
 a213:=Tryz.isAgg251
 z213:=Tryz.sizeOf251
 t232:=Tryz.underlying256
 a232:=Tryz.isAgg256
 z232:=Tryz.sizeOf256
 v232:=Tryz.zeroValue256
 t233:=Tryz.underlying257
 a233:=Tryz.isAgg257
 z233:=Tryz.sizeOf257
 v233:=Tryz.zeroValue257
 g17:=by kernel_rfl
 g18:=by kernel_rfl
 g19:=by kernel_rfl
 i0:=by kernel_rfl
 i2:=by kernel_rfl
 i3:=by kernel_rfl
 i4:=by kernel_rfl
 i5:=by kernel_rfl
 i9:=by kernel_rfl
 i20:=by kernel_rfl
 i37:=by kernel_rfl
 i46:=by kernel_rfl
 i51:=by kernel_rfl
 i53:=by kernel_rfl
 i171:=by kernel_rfl
 i173:=by kernel_rfl
 i212:=by kernel_rfl
 i232:=by kernel_rfl
 i233:=by kernel_rfl
 m17:=by kernel_rfl
 m18:=by kernel_rfl
 m19:=by kernel_rfl}
open Go.RowKit Go.Sort Go.Lib in
theorem Tryz.strconv_Itoa (n:Int)(h0:-9223372036854775808<=n)(h1:n<=9223372036854775807)(w:World)(htab:Lib.TabIs Tryz.prog w "internal/strconv.uint64pow10" .u64 Lib.pow10Tab):
 Calls Tryz.prog 79 #[.int .i64 n] w λe w'=>e=.returned (.string ⟨(Lib.itoa n).toArray⟩)/\∃ k os,w'=grow (w.drewN k) os:=Any.strconv_Itoa Tryz.Xu n h0 h1 w htab
def Tryz.Vo:Go.Shelf.Ren:=⟨fun|144=>194|143=>218|219=>229|217=>233|225=>234|224=>235|267=>236|266=>237|314=>238|n=>n,fun|9=>9|4=>4|3=>3|5=>5|46=>121|146=>258|51=>160|n=>n,fun|1=>5|n=>n⟩
theorem Tryz.lays144:Go.Proofs.Lays.n144 Tryz.prog Tryz.Vo:={
 mixed:=by kernel_rfl
 f143:=Tryz.func218.trans (congrArg some (by kernel_rfl))
 f144:=Tryz.func194.trans (congrArg some (by kernel_rfl))
 f217:=Tryz.func233.trans (congrArg some (by kernel_rfl))
 f219:=Tryz.func229.trans (congrArg some (by kernel_rfl))
 f224:=Tryz.func235.trans (congrArg some (by kernel_rfl))
 f225:=Tryz.func234.trans (congrArg some (by kernel_rfl))
 f266:=Tryz.func237.trans (congrArg some (by kernel_rfl))
 f267:=Tryz.func236.trans (congrArg some (by kernel_rfl))
 f314:=Tryz.func238.trans (congrArg some (by kernel_rfl))
 t3:=Tryz.underlying3
 a3:=Tryz.isAgg3
 z3:=Tryz.sizeOf3
 v3:=Tryz.zeroValue3
 t4:=Tryz.underlying4
 a4:=Tryz.isAgg4
 z4:=Tryz.sizeOf4
 v4:=Tryz.zeroValue4
 t5:=Tryz.underlying5
 a5:=Tryz.isAgg5
 z5:=Tryz.sizeOf5
 v5:=Tryz.zeroValue5
 t9:=Tryz.underlying9
 a9:=Tryz.isAgg9
 z9:=Tryz.sizeOf9
 v9:=Tryz.zeroValue9
 t46:=Tryz.underlying121
 a46:=Tryz.isAgg121
 z46:=Tryz.sizeOf121
 v46:=Tryz.zeroValue121
 t51:=Tryz.underlying160
 a51:=Tryz.isAgg160
 z51:=Tryz.sizeOf160
 v51:=Tryz.zeroValue160
 t146:=Tryz.underlying258
 a146:=Tryz.isAgg258
 z146:=Tryz.sizeOf258
 v146:=Tryz.zeroValue258
 g1:=by kernel_rfl}
open Go.RowKit Go.Lib in
theorem Tryz.strings_Contains (s sub:ByteArray)(m:Int)(w:World)(hs:s.size<4294967281)(hm:w.cell? ⟨5,0,none⟩=some (.int .i64 m)):
 Calls Tryz.prog 194 #[.string s,.string sub] w λe w'=>e=.returned (.bool (Lib.contains s.data.toList sub.data.toList))/\w'=w:=Any.strings_Contains Tryz.lays144 s sub m w hs hm
def Tryz.Vp:Go.Shelf.Ren:=⟨fun|190=>32|125=>60|258=>59|128=>101|129=>102|302=>92|303=>93|304=>94|305=>95|306=>96|307=>97|308=>98|309=>99|310=>100|333=>135|329=>136|330=>137|334=>138|335=>139|336=>140|344=>182|n=>n,fun|31=>37|9=>9|3=>3|46=>121|0=>0|51=>160|53=>162|4=>4|183=>152|182=>151|131=>157|5=>5|218=>188|222=>192|228=>215|229=>216|n=>n,fun|n=>n⟩
theorem Tryz.Xa:Go.Proofs.Lays.n190 Tryz.prog Tryz.Vp:={
 mixed:=by kernel_rfl
 f125:=Tryz.func60.trans (congrArg some (by kernel_rfl))
 f128:=Tryz.func101.trans (congrArg some (by kernel_rfl))
 f129:=Tryz.func102.trans (congrArg some (by kernel_rfl))
 f190:=Tryz.func32.trans (congrArg some (by kernel_rfl))
 f258:=Tryz.func59.trans (congrArg some (by kernel_rfl))
 f302:=Tryz.func92.trans (congrArg some (by kernel_rfl))
 f303:=Tryz.func93.trans (congrArg some (by kernel_rfl))
 f304:=Tryz.func94.trans (congrArg some (by kernel_rfl))
 f305:=Tryz.func95.trans (congrArg some (by kernel_rfl))
 f306:=Tryz.func96.trans (congrArg some (by kernel_rfl))
 f307:=Tryz.func97.trans (congrArg some (by kernel_rfl))
 f308:=Tryz.func98.trans (congrArg some (by kernel_rfl))
 f309:=Tryz.func99.trans (congrArg some (by kernel_rfl))
 f310:=Tryz.func100.trans (congrArg some (by kernel_rfl))
 f329:=Tryz.func136.trans (congrArg some (by kernel_rfl))
 f330:=Tryz.func137.trans (congrArg some (by kernel_rfl))
 f333:=Tryz.func135.trans (congrArg some (by kernel_rfl))
 f334:=Tryz.func138.trans (congrArg some (by kernel_rfl))
 f335:=Tryz.func139.trans (congrArg some (by kernel_rfl))
 f336:=Tryz.func140.trans (congrArg some (by kernel_rfl))
 f344:=Tryz.func182.trans (congrArg some (by kernel_rfl))
 t0:=Tryz.underlying0
 a0:=Tryz.isAgg0
 z0:=Tryz.sizeOf0
 v0:=Tryz.zeroValue0
 t3:=Tryz.underlying3
 a3:=Tryz.isAgg3
 z3:=Tryz.sizeOf3
 v3:=Tryz.zeroValue3
 t4:=Tryz.underlying4
 a4:=Tryz.isAgg4
 z4:=Tryz.sizeOf4
 v4:=Tryz.zeroValue4
 t5:=Tryz.underlying5
 a5:=Tryz.isAgg5
 z5:=Tryz.sizeOf5
 v5:=Tryz.zeroValue5
 t9:=Tryz.underlying9
 a9:=Tryz.isAgg9
 z9:=Tryz.sizeOf9
 v9:=Tryz.zeroValue9
 t31:=Tryz.underlying37
 a31:=Tryz.isAgg37
 z31:=Tryz.sizeOf37
 v31:=Tryz.zeroValue37
 t46:=Tryz.underlying121
 a46:=Tryz.isAgg121
 z46:=Tryz.sizeOf121
 v46:=Tryz.zeroValue121
 t51:=Tryz.underlying160
 a51:=Tryz.isAgg160
 z51:=Tryz.sizeOf160
 v51:=Tryz.zeroValue160
 t53:=Tryz.underlying162
 a53:=Tryz.isAgg162
 z53:=Tryz.sizeOf162
 v53:=Tryz.zeroValue162
 t131:=Tryz.underlying157
 a131:=Tryz.isAgg157
 z131:=Tryz.sizeOf157
 v131:=Tryz.zeroValue157
 t182:=Tryz.underlying151
 a182:=Tryz.isAgg151
 z182:=Tryz.sizeOf151
 v182:=Tryz.zeroValue151
 t183:=Tryz.underlying152
 a183:=Tryz.isAgg152
 z183:=Tryz.sizeOf152
 v183:=Tryz.zeroValue152
 t218:=Tryz.underlying188
 a218:=Tryz.isAgg188
 z218:=Tryz.sizeOf188
 v218:=Tryz.zeroValue188
 t222:=Tryz.underlying192
 a222:=Tryz.isAgg192
 z222:=Tryz.sizeOf192
 v222:=Tryz.zeroValue192
 t228:=Tryz.underlying215
 a228:=Tryz.isAgg215
 z228:=Tryz.sizeOf215
 v228:=Tryz.zeroValue215
 t229:=Tryz.underlying216
 a229:=Tryz.isAgg216
 z229:=Tryz.sizeOf216
 v229:=Tryz.zeroValue216}
open Go.Sort Go.RowKit in
theorem Tryz.slices_Sort_string (blk off cap:Nat)(ss:List (List UInt8))(w:World)(hH:Holds encStr w blk off ss.toArray)(hblk:blk<w.heap.size)(hsz:ss.length<4611686018427387904):
 Calls Tryz.prog 32 #[.slice (some ⟨blk,off,none⟩) ss.length cap] w λe w'=>
  e=.returned (.tuple #[])/\∃ n os,w'=grow (putRow encStr (Sort.ahead w n) blk off (ss.mergeSort λx y=>decide (x<=y)).toArray) os:=Any.slices_Sort_string Tryz.Xa blk off cap ss w hH hblk hsz
def Tryz.Vq:Go.Shelf.Ren:=⟨fun|194=>33|n=>n,fun|31=>37|9=>9|3=>3|4=>4|0=>0|n=>n,fun|n=>n⟩
theorem Tryz.Xb:Go.Proofs.Lays.n194 Tryz.prog Tryz.Vq:={
 mixed:=by kernel_rfl
 f194:=Tryz.func33.trans (congrArg some (by kernel_rfl))
 t0:=Tryz.underlying0
 a0:=Tryz.isAgg0
 z0:=Tryz.sizeOf0
 v0:=Tryz.zeroValue0
 t3:=Tryz.underlying3
 a3:=Tryz.isAgg3
 z3:=Tryz.sizeOf3
 v3:=Tryz.zeroValue3
 t4:=Tryz.underlying4
 a4:=Tryz.isAgg4
 z4:=Tryz.sizeOf4
 v4:=Tryz.zeroValue4
 t9:=Tryz.underlying9
 a9:=Tryz.isAgg9
 z9:=Tryz.sizeOf9
 v9:=Tryz.zeroValue9
 t31:=Tryz.underlying37
 a31:=Tryz.isAgg37
 z31:=Tryz.sizeOf37
 v31:=Tryz.zeroValue37}
open Go.RowKit Go.Lib Go.Sort in
theorem Tryz.slices_Compact_string (blk off cap:Nat)(zs:List (List UInt8))(w:World)(hH:Holds encStr w blk off zs.toArray)(hsz:zs.length<=9223372036854775807)(hcap:zs.length<=cap):
 Calls Tryz.prog 33 #[.slice (some ⟨blk,off,none⟩) zs.length cap] w λe w'=>e=.returned (.slice (some ⟨blk,off,none⟩) (Lib.compact zs).length cap)/\∃ q,w'=putRow encStr (Sort.ahead w q) blk off (Lib.compact zs++List.replicate (zs.length - (Lib.compact zs).length) []).toArray:=Any.slices_Compact_string Tryz.Xb blk off cap zs w hH hsz hcap
open Go.RowKit Go.Lib Go.Sort in
theorem Tryz.slices_Compact_string_empty (a:Option Addr)(cap:Nat)(w:World):
 Calls Tryz.prog 33 #[.slice a 0 cap] w λe w'=>e=.returned (.slice a 0 cap)/\w'=w:=Any.slices_Compact_string_empty Tryz.Xb a cap w
open Go.RowKit Go.Sort in
theorem Tryz.slices_Sort_string_none (p:Option Addr)(cap:Nat)(w:World):
 Calls Tryz.prog 32 #[.slice p 0 cap] w λe w'=>e=.returned (.tuple #[])/\w'=w:=Any.slices_Sort_string_none Tryz.Xa p cap w
end Go.Proofs
namespace Go.Proofs.YtklklgfpkpglgaaGreatDoor
open Go.RowKit Go.Proofs.Tryz Lx
variable (gl:List (Nat × List D))
section
def Rm:List Nat:=[0,2,3,4,5,6]
variable {mm:Int}
namespace Lx
def inside (s t:ByteArray):Bool:=(List.range (s.size+1)).any λi=>t.data.toList.isPrefixOf (s.data.toList.drop i)
def ko1:List UInt8:=[32,65,70,84,69,82,32,65,76,84,32,65,78,68,32,66,79,79,76,32,66,89,84,69,32,67,65,83,69,32,67,72,65,78,32,69,76,83,69,32,70,65,76,83,69,32,70,79,82,32,73,70,32,73,78,84,32,73,83,32,77,73,78,85,83,32,78,79,84,32,79,70,32,79,82,32,80,65,82,32,80,76,65,67,69,68,32,80,76,85,83,32,80,82,73,32,80,82,79,67,32,80,82,79,67,69,83,83,79,82,32,80,82,79,84,79,67,79,76,32,83,69,81,32,83,73,90,69,32,83,75,73,80,32,83,84,79,80,32,84,73,77,69,82,32,84,73,77,69,83,32,84,82,85,69,32,86,65,76,32,87,72,73,76,69,32]
def Wz:ByteArray:=⟨ko1.toArray⟩
theorem mc0:∀ (s t:List UInt8),(32:UInt8)∉s->(s++32::t).takeWhile (λc=>c != 32)=s
 |[],t,_=>by simp
 |c::s,t,h=>by
  have h1:c≠32:=λe=>h (by simp[e]);have h2:=mc0 s t (λe=>h (Bh _ e));simp[List.takeWhile_cons,h1,h2]
theorem rk4:∀ i<167,ko1[i]? =some 32->(ko1.drop (i+1)).takeWhile (λc=>c != 32)=[]\/(keys.any λk=>decide (k.data.toList=(ko1.drop (i+1)).takeWhile (λc=>c != 32)))=true:=by decide+kernel
theorem qd5:∀ k∈keys.map (λk=>k.data.toList),∃ i<167,(32::k++[32]).isPrefixOf (ko1.drop i)=true:=by decide+kernel
theorem mu9 {s:List UInt8}(h:s.all Kz=true):(32:UInt8)∉s:=λhm=>by
 have:=By.1 h _ hm
 revert this
 decide
theorem Rk:Wz.size=166:=by decide+kernel
theorem Vn (s:ByteArray)(hw:s.data.toList.all Kz=true)(h0:s.data.toList≠[]):inside Wz ((⟨#[32]⟩++s)++⟨#[32]⟩)=isKey s:=by
 have hl:((⟨#[32]⟩++s)++⟨#[32]⟩:ByteArray).data.toList=32::s.data.toList++[32]:=by simp[ByteArray.data_append]
 unfold inside;rw[hl,En];have hK:Wz.data.toList=ko1:=rfl;rw[hK];constructor
 ·intro h;obtain⟨i,hi,hp⟩:=Et.1 h;have hi:i<167:=by have:=Fg.1 hi;rw[Rk]at this;omega
  obtain⟨t,ht⟩:=List.isPrefixOf_iff_prefix.1 hp;have h1:ko1[i]? =some 32:=by
   have:(ko1.drop i)[0]? =some 32:=by rw[<-ht];rfl
   rwa [Er,Nat.add_zero]at this
  have h2:ko1.drop (i+1)=s.data.toList++32::t:=by
   have:(ko1.drop i).drop 1=s.data.toList++32::t:=by rw[<-ht];simp
   rwa [List.drop_drop]at this
  have h3:=rk4 i hi h1;rw[h2,mc0 _ _ (mu9 hw)]at h3;rcases h3 with h3|h3
  ·exact absurd h3 h0
  ·unfold isKey;obtain⟨k,hk,hk2⟩:=Et.1 h3;refine Et.2 ⟨k,hk,?_⟩;have hk2:=of_decide_eq_true hk2;refine Bm ?_;cases k with|mk k=>cases s with|mk s=>cases k with|mk k=>cases s with|mk s=>exact congrArg (λl=>ByteArray.mk (Array.mk l)) hk2
 ·intro h;unfold isKey at h;obtain⟨k,hk,hk2⟩:=Et.1 h;have hk2:=of_decide_eq_true hk2;subst hk2;obtain⟨i,hi,hp⟩:=qd5 k.data.toList (Bx.2 ⟨k,hk,rfl⟩);exact Et.2 ⟨i,Fg.2 (by rw[Rk];omega),hp⟩
end Lx
theorem kd0:∀ l sub:List UInt8,0<=Lib.index l sub↔∃ i,i<=l.length/\sub.isPrefixOf (l.drop i)=true
 |[],sub=>by
  cases sub with
  |nil=>simp[Lib.index]
  |cons c sub=>simp[Lib.index]
 |b::l,sub=>by
  have ih:=kd0 l sub;have hge:=Lib.index_ge l sub;rw[Lib.index];constructor
  ·intro h;split at h
   ·rename_i hp;exact⟨0,Ai _,hp⟩
   ·split at h
    ·omega
    ·rename_i hne;have hne:Lib.index l sub≠-1:=λe=>hne (by rw[e];rfl);obtain⟨i,hi,hp⟩:=ih.1 (by omega);exact⟨i+1,by simp only[An];omega,hp⟩
  ·rintro⟨i,hi,hp⟩;split
   ·omega
   ·rename_i hn;cases i with
    |zero=>exact absurd hp hn
    |succ i=>
     have h0:=ih.2 ⟨i,by simp only[An]at hi;omega,hp⟩;have hne:¬(Lib.index l sub == -1)=true:=by
      intro e;have:=eq_of_beq e;omega
     rw[Af hne];omega
theorem kh9 (s t:ByteArray):Lib.contains s.data.toList t.data.toList=Lx.inside s t:=by
 unfold Lib.contains Lx.inside;rw[En,Aj,kd0,Et];have hl:s.data.toList.length=s.size:=by simp
 constructor
 ·rintro⟨i,hi,hp⟩;exact⟨i,Fg.2 (by omega),hp⟩
 ·rintro⟨i,hi,hp⟩;exact⟨i,by have:=Fg.1 hi;omega,hp⟩
theorem mj6 (s t:ByteArray)(hs:s.size<=1000):FnD prog (glS mm) 194 [.d (.str s),.d (.str t)] (λv=>v=.d (.bool (Lx.inside s t))):=by
 intro w M us hM hus hg;simp only[Ct]at hus;obtain⟨v,r,rfl,hv,u,r2,rfl,hu,rfl⟩:=hus;have hv':v=.string s:=hv;have hu':u=.string t:=hu;subst hv' hu';obtain⟨v1,t1,f1,q1,_,q2⟩:=hg 5 _ rfl;simp only[Fu]at q2;obtain⟨z,r3,rfl,_,hz,rfl⟩:=q2;have hz':z=.int .i64 mm:=hz;subst hz';refine(Tryz.strings_Contains s t mm w (by omega) ?_).mono ?_
 ·simp only[World.cell?,q1];rfl
 ·rintro e w' ⟨rfl,rfl⟩;exact⟨_,_,rfl,.d _,rfl,Below.refl _ _,by rw[kh9];rfl⟩
attribute [local irreducible] TR TC
theorem rv4 (s:ByteArray)(hs:s.size<=1000):FnD prog (glS mm) 164 [.d (.str s)] (λv=>v=.d (.bool (Lx.isKey s))):=by
 have hsz:s.data.toList.length=s.size:=by simp
 have hrun:=rf3 (glS mm) s (by omega);have hc:=mj6 (mm:=mm) Wz ((⟨#[32]⟩++s)++⟨#[32]⟩) (by rw[Rk];omega);have hz:(⟨#[32]⟩:ByteArray).size=1:=rfl;have hz2:(⟨#[32]⟩++s:ByteArray).size=1+s.size:=by rw[ByteArray.size_append,hz]
 have hnk:∀ c∈Lx.keys,c.data.toList.all Kz=true/\c≠⟨#[]⟩:=by decide+kernel
 by_cases h0:s=⟨#[]⟩
 ·have hk:Lx.isKey s=false:=by rw[h0];decide+kernel
  (refine j5 func164 ntmps164 results164 λw M=>?_)
  (repeat' first|refine yyp ?_;try refine Ce ?_ ?_<;>intro hb|refine yy ?_|refine yy2 ?_ ?_<;>intro hcmp|apply ah;refine Cc Rm ?_|refine Cb λK hK=>?_|apply_assumption -exfalso -symm)
  all_goals try contradiction
  (refine j1 (j8 ?_))
  rw[hk];rfl
 by_cases hw:s.data.toList.all Kz=true
 ·have h0':s.data.toList≠[]:=λe=>h0 (by cases s with|mk s=>cases s with|mk s=>cases e;rfl);rw[Vn s hw h0']at hc;have hr:Lx.run s.data.toList=s.size:=by rw[<-hsz];exact(Sb _).2 hw
  rw[hr]at hrun
  (refine j5 func164 ntmps164 results164 λw M=>?_)
  (repeat' first|refine yyp ?_;try refine Ce ?_ ?_<;>intro hb|refine yy ?_|refine yy2 ?_ ?_<;>intro hcmp|apply Cg 163;refine Ci (hc:=hrun) ?_|apply Cg 194;refine Ci (hc:=hc) ?_;try refine Ce ?_ ?_<;>intro hb|apply ah;refine Cc Rm ?_|refine Cb λK hK=>?_|apply_assumption -exfalso -symm)
  all_goals try contradiction
  all_goals
   (refine j1 (j8 ?_))
   simp only[aF, *]
 ·have hk:Lx.isKey s=false:=by
   cases h:Lx.isKey s with
   |false=>rfl
   |true=>
    obtain⟨k,hk,hk2⟩:=Et.1 h;have:=of_decide_eq_true hk2;subst this;exact absurd (hnk _ hk).1 hw
  have hr:¬Lx.run s.data.toList=s.size:=λe=>hw ((Sb _).1 (by rw[hsz];exact e))
  (refine j5 func164 ntmps164 results164 λw M=>?_)
  (repeat' first|refine yyp ?_;try refine Ce ?_ ?_<;>intro hb|refine yy ?_|refine yy2 ?_ ?_<;>intro hcmp|apply Cg 163;refine Ci (hc:=hrun) ?_|apply ah;refine Cc Rm ?_|refine Cb λK hK=>?_|apply_assumption -exfalso -symm)
  all_goals try contradiction
  (refine j1 (j8 ?_))
  rw[hk];rfl
theorem jk4 (s:ByteArray):FnD prog (glS mm) 125 [.d (.str s)] (λv=>v=.d (.bool (Cy s))):=by
 have hsz:s.data.toList.length=s.size:=by simp
 cases hs:s.data.toList with
 |nil=>
  have h0:s=⟨#[]⟩:=by cases s with|mk s=>cases s with|mk s=>cases hs;rfl
  (refine j5 func125 ntmps125 results125 λw M=>?_)
  (repeat' first|refine yyp ?_;try refine Ce ?_ ?_<;>intro hb|refine yy ?_|refine yy2 ?_ ?_<;>intro hcmp|apply ah;refine Cc Rm ?_|refine Cb λK hK=>?_|apply_assumption -exfalso -symm)
  all_goals try contradiction
  (refine j1 (j8 ?_))
  simp[aF,Cy,hs]
 |cons c l=>
  rw[hs]at hsz;simp only[An]at hsz;have h0:¬s=⟨#[]⟩:=λe=>by rw[e]at hs;cases hs
  have hn:=mb9 s c l hs;have hc0:s.data.toList[0]? =some c:=by rw[hs];rfl
  by_cases h32:s.size<=32
  ·have hrun:=rf3 (glS mm) s (by omega);have hk:=rv4 (mm:=mm) s (by omega);by_cases hall:(c::l).all Kz=true
   ·have hr:Lx.run s.data.toList=s.size:=by rw[hs,(Sb _).2 hall];simpa using hsz
    rw[hr]at hrun
    (refine j5 func125 ntmps125 results125 λw M=>?_)
    (repeat' first|refine yyp ?_;try refine Ce ?_ ?_<;>intro hb|refine yy ?_|refine yy2 ?_ ?_<;>intro hcmp|apply Cg 162;refine Ci (hc:=(kh5 (glS mm) c)) ?_;try refine Ce ?_ ?_<;>intro hb|apply Cg 163;refine Ci (hc:=hrun) ?_|apply Cg 164;refine Ci (hc:=hk) ?_;try refine Ce ?_ ?_<;>intro hb|apply ah;refine Cc Rm ?_|refine Cb λK hK=>?_|apply_assumption -exfalso -symm)
    all_goals try contradiction
    all_goals
     (refine j1 (j8 ?_))
     rw[hn];rw[Ei]at hall;have h31:l.length<32:=by omega
     simp only[Ab]at hall;simp only[aF, *,decide_true,Bf,Bt,Ay,Bool.not_true,Bool.not_false]
   ·have hr:¬Lx.run s.data.toList=s.size:=λe=>hall ((Sb _).1 (by rw[hs]at e;rw[e];simpa using hsz.symm))
    (refine j5 func125 ntmps125 results125 λw M=>?_)
    (repeat' first|refine yyp ?_;try refine Ce ?_ ?_<;>intro hb|refine yy ?_|refine yy2 ?_ ?_<;>intro hcmp|apply Cg 162;refine Ci (hc:=(kh5 (glS mm) c)) ?_;try refine Ce ?_ ?_<;>intro hb|apply Cg 163;refine Ci (hc:=hrun) ?_|apply ah;refine Cc Rm ?_|refine Cb λK hK=>?_|apply_assumption -exfalso -symm)
    all_goals try contradiction
    all_goals
     (refine j1 (j8 ?_))
     rw[hn];rw[Ei]at hall;simp only[aF,Aw,Aq];have hlw:=ju7 c
     (repeat (rename (∀ S,TC _ _ _ S->_)=>hX;clear hX))
     clear hn hrun hk
     grind
  ·(refine j5 func125 ntmps125 results125 λw M=>?_)
   (repeat' first|refine yyp ?_;try refine Ce ?_ ?_<;>intro hb|refine yy ?_|refine yy2 ?_ ?_<;>intro hcmp|apply ah;refine Cc Rm ?_|refine Cb λK hK=>?_|apply_assumption -exfalso -symm)
   all_goals try contradiction
   all_goals
    (refine j1 (j8 ?_))
    rw[hn];have h31:¬l.length<32:=by omega
    simp only[aF,h31,decide_false,Ay]
theorem ku0 (t:Ty):FnD prog (glS mm) 172 [.d (dTy t)] (λv=>v=.d (.bool (Ol t))):=by
 (refine j5 func172 ntmps172 results172 λw M=>?_)
 (repeat' first|apply Ca 1;(refine Cm 1 ?_)|refine yyp ?_;try refine Ce ?_ ?_<;>intro hb|refine yy ?_|refine yy2 ?_ ?_<;>intro hcmp|apply Cg 197;refine Ci (hc:=(by first|exact rk2 t.kind|exact rk2 t.item)) ?_;try refine Ce ?_ ?_<;>intro hb|apply Cg 125;refine Ci (hc:=(jk4 t.aN)) ?_;try refine Ce ?_ ?_<;>intro hb|apply ah;refine Cc [0,1,2,3,4,5,6,12,24,31] ?_|refine Cb λK hK=>?_|apply_assumption -exfalso -symm)
 all_goals try contradiction
 all_goals
  (refine j1 (j8 ?_))
  simp only[aF,Aw,Aq,Ol]
  (repeat (rename (∀ S,TC _ _ _ S->_)=>hX;clear hX))
  simp only[jf7]at *
  grind [Lx.prim]
end
section
def Sq:List Nat:=[0,1,2,3,4,5,6,7,37,39,40,41,42,63]
variable {mm:Int}
theorem mc1 (pre l:List Va)(v:Va):Ot pre (v::l)=(Cy v.tag && Lh v.items 0 && !(pre.any λw=>decide (w.tag=v.tag)) && Ot (pre++[v]) l):=rfl
theorem jp6 {α:Type}(l:List α)(k:Nat)(h:k<l.length):l.take k++[l[k]]=l.take (k+1):=(Ao h).symm
theorem qd6 {α β:Type}(f:α->β)(l:List α)(m:Nat):((l.map f).drop 0).take (m - 0)=(l.take m).map f:=by
 rw[Ew,Nat.sub_zero,Ek]
attribute [local irreducible] TR TC
theorem qd7 (l:List Va):FnD prog (glS mm) 174 [.d (dPt ⟨false,l⟩)] (λv=>v=.d (.bool (Ny ⟨false,l⟩))):=by
 unfold dPt Ny;dsimp only
 match l with
 |[]=>
  (refine j5 func174 ntmps174 results174 λw M=>?_)
  (repeat' first|apply Ca 1;(refine Cm 1 ?_)|refine yyp ?_;try refine Ce ?_ ?_<;>intro hb|refine yy ?_|refine yy2 ?_ ?_<;>intro hcmp|apply ah;refine Cc Sq ?_|refine Cb λK hK=>?_|apply_assumption -exfalso -symm)
  ((all_goals try contradiction);(all_goals try (exfalso;(repeat (rename (∀ S,TC _ _ _ S->_)=>hX;clear hX));simp only[An,Av,Aa]at * <;>omega)))
  all_goals
   (refine j1 (j8 ?_))
   rfl
 |[v]=>
  have hv:(dVa v)=.agg [.str v.tag,.list 1 (v.items.map (.int .u8))]:=rfl
  (refine j5 func174 ntmps174 results174 λw M=>?_)
  (repeat' first|apply Ca 1;(refine Cm 1 ?_)|refine yyp ?_;try refine Ce ?_ ?_<;>intro hb|refine yy ?_|refine yy2 ?_ ?_<;>intro hcmp|apply Cg 198;refine Ci (hc:=(mp1 v.items 1)) ?_;try refine Ce ?_ ?_<;>intro hb|apply ah;refine Cc Sq ?_|refine Cb λK hK=>?_|apply_assumption -exfalso -symm)
  all_goals try simp only[List.getElem_cons_zero]at hcmp
  ((all_goals try contradiction);(all_goals try (exfalso;(repeat (rename (∀ S,TC _ _ _ S->_)=>hX;clear hX));simp only[An,Av,Aa]at * <;>omega)))
  all_goals
   (refine j1 (j8 ?_))
   simp[aF,jf7, *]
 |v::w::r=>
  (refine j5 func174 ntmps174 results174 λw M=>?_)
  (repeat' first|apply Ca 1;(refine Cm 1 ?_)|refine yyp ?_;try refine Ce ?_ ?_<;>intro hb|refine yy ?_|refine yy2 ?_ ?_<;>intro hcmp|apply ah;refine Cc Sq ?_|refine Cb λK hK=>?_|apply_assumption -exfalso -symm)
  all_goals try simp only[List.getElem_cons_zero]at hcmp
  ((all_goals try contradiction);(all_goals try (exfalso;(repeat (rename (∀ S,TC _ _ _ S->_)=>hX;clear hX));simp only[An,Av,Aa]at * <;>omega)))
  all_goals
   (refine j1 (j8 ?_))
   rfl
theorem qd8 (l:List Va):FnD prog (glS mm) 174 [.d (dPt ⟨true,l⟩)] (λv=>v=.d (.bool (Ny ⟨true,l⟩))):=by
 unfold dPt Ny;dsimp only;rw[Ae rfl]
 (refine j5 func174 ntmps174 results174 λw M=>?_)
 (repeat' first|apply Ca 1;(refine Cm 1 ?_)|refine yyp ?_;try refine Ce ?_ ?_<;>intro hb|refine yy ?_|refine yy2 ?_ ?_<;>intro hcmp|apply ah;refine Cc Sq ?_|refine Cb λK hK=>?_|apply_assumption -exfalso -symm)
 ·(refine j1 (j8 ?_))
  rw[Bn (by omega)];rfl
 ·(refine j1 (j8 ?_))
  rw[Bn (by omega)];rfl
 have hd:decide (1<=l.length/\l.length<=16)=true:=Bm (by omega);refine j9 [2,3,4,41,42,43,44,45,46,47,48,49,50,51,52,53,54,55,56,57,58,59,60,61,62,63,64] [] (λk:Nat=>[(41,.d (.int .i64 k))]) (λ_=>[]) (λk=>k<=l.length/\Ot [] l=Ot (l.take k) (l.drop k)) (λk=>l.length - k) 0 ⟨by omega,rfl⟩ λk ⟨hk,hi⟩=>?_;dsimp only[Ac,Ad];rcases Ah k l.length with hk2|hk2
 ·rw[Bo hk2,mc1,jp6 l k hk2]at hi;have hit:=mp1 (mm:=mm) l[k].items 0;have hcf:=ve4 (glS mm) l[k].tag (l[k].items.map (.int .u8)) (λw=>decide (w.tag=l[k].tag)) (l.take k) λj hj=>mb8 (mm:=mm) l[k].tag (l[k].items.map (.int .u8)) _
  (repeat' first|apply Ca 4;(refine j3 4 ?_)|apply Ca 60;(refine z_p ri5 ?_;simp only[qd6])|apply Ca 62;refine Ch (hc:=hcf) ?_;try refine Ce ?_ ?_<;>intro hb|refine yyp ?_;try refine Ce ?_ ?_<;>intro hb|refine yy ?_|apply Cg 198;refine Ci (hc:=hit) ?_;try refine Ce ?_ ?_<;>intro hb|apply Cg 125;refine Ci (hc:=(jk4 l[k].tag)) ?_;try refine Ce ?_ ?_<;>intro hb|apply ah;refine Cc Sq ?_|refine Cb λK hK=>?_|apply_assumption -exfalso -symm)
  all_goals first
   |(refine⟨k+1,⟨by omega,?_⟩,by omega,r9⟩
     rw[hi];simp only[*,Bool.not_false,Bf])
   |((refine j1 (j8 ?_))
     rw[hi,hd];simp only[aF, *,Bool.not_true,Bf,Bc,Ay])
 ·rw[Br hk2]at hi
  (repeat' first|refine yyp ?_;try refine Ce ?_ ?_<;>intro hb|refine yy ?_|apply ah;refine Cc Sq ?_|refine Cb λK hK=>?_|apply_assumption -exfalso -symm)
  (refine j1 (j8 ?_))
  rw[hi,hd];rfl
theorem qv0 (p:Pt):FnD prog (glS mm) 174 [.d (dPt p)] (λv=>v=.d (.bool (Ny p))):=by
 obtain⟨c,l⟩:=p;cases c with
 |false=>exact qd7 l
 |true=>exact qd8 l
end
end Go.Proofs.YtklklgfpkpglgaaGreatDoor
