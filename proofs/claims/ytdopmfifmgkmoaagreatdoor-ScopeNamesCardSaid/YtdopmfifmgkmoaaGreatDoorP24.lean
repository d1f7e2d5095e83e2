/- Parts: O9, O10, Shelf. -/
import Derived.Test.YtdopmfifmgkmoaaGreatDoorP22
import Derived.Test.YtdopmfifmgkmoaaGreatDoorP23
import Derived.Test.YtdopmfifmgkmoaaGreatDoorP18
import Derived.Shelf.Small.Bits
import Derived.Shelf.Strconv.Itoa0
import Derived.Shelf.Strconv.Itoa1
import Derived.Shelf.LaysM
import Derived.Shelf.Strconv.Itoa2
import Derived.Shelf.Strconv.Itoa3
import Derived.Shelf.Strings.Search1
import Derived.Shelf.Strings.Search2
import Derived.Shelf.Strings.Search3
import Derived.Shelf.Strings.Shaped
import Derived.Shelf.Sort.Plain
import Derived.Shelf.Slices.CompactS
import Derived.Shelf.Slices.Cells
import Derived.Shelf.Slices.In.SortNone
import Derived.Test.YtdopmfifmgkmoaaGreatDoorProg
set_option linter.all false
set_option maxRecDepth 100000
set_option maxHeartbeats 16000000
namespace Go.Proofs.YtdopmfifmgkmoaaGreatDoor
open Go.RowKit Go.Proofs.Tryz
section
def qo9_0:List Nat:=[0,2,3,4,6,7,8,9,14]
def mt5:Plan:=lin [0,8,5,16,13,20,24]
def glS (mm:Int):List (Nat × List D):=[(5,[.int .i64 mm]),(0,[.int .i64 0,.int .i64 2048]),(1,[.int .i64 1,.int .i64 1]),(2,[.int .i64 1,.int .i64 8]),
 (4,[.int .u8 1,.str ⟨#[73,78,84]⟩,.int .i64 4,.int .u8 2,.str ⟨#[66,89,84,69]⟩,.int .i64 1,.int .u8 3,.str ⟨#[66,79,79,76]⟩,.int .i64 1]),
 (3,[1,10,100,1000,10000,100000,1000000,10000000,100000000,1000000000,10000000000,100000000000,1000000000000,10000000000000,100000000000000,1000000000000000,10000000000000000,100000000000000000,1000000000000000000,10000000000000000000].map fun z=>.int .u64 z)]
def Lx.typeWord (k:Int):ByteArray × Int × Bool:=if k=1 then (⟨#[73,78,84]⟩,4,true) else if k=2 then (⟨#[66,89,84,69]⟩,1,true) else if k=3 then (⟨#[66,79,79,76]⟩,1,true) else (ByteArray.empty,0,false)
variable {mm:Int}
attribute [local irreducible] TR TC
theorem qg9 (k:Int):FnD prog (glS mm) 219 [.d (.int .u8 k)] (fun v=>v=.tup [.d (.str (Lx.typeWord k).1),.d (.int .i64 (Lx.typeWord k).2.1),.d (.bool (Lx.typeWord k).2.2)]):=by
 unfold Lx.typeWord
 (refine j4 func219 ntmps219 results219 fun w M=>?_)
 (repeat' first|refine yyp ?_;try refine s_bu ?_ ?_<;>intro hb|refine yy ?_|refine at_nil ?_;refine z_nil qo9_0 ?_|refine tc_seq fun K hK=>?_|refine j5 5 ?_;refine j2 [] mt5 ?_|apply_assumption -exfalso -symm)
 refine k9 [2,3,4,6,8,9,10,11,12,13,14,15,16,17,18,19] [] (fun j:Nat=>[(8,.d (.int .i64 j))]) (fun _=>[]) (fun j=>j<=3/\(0<j->k≠1)/\(1<j->k≠2)/\(2<j->k≠3)) (fun j=>3 - j) 0 ⟨by omega,by omega,by omega,by omega⟩ fun j ⟨hj,h1,h2,h3⟩=>?_
 dsimp only[List.cons_append,List.nil_append]
 rcases(by omega:j=0\/j=1\/j=2\/j=3) with rfl|rfl|rfl|rfl
 ·(repeat' first|refine tr_at 10 ?_;(refine z_p (jq5 (i:=0) rfl rfl rfl rfl rfl (by decide) (by(repeat (first|exact Cut.done _|apply Cut.take|apply Cut.skip));fail_if_success intros)) ?_)|refine tr_at 6 ?_;(refine j1 6 ?_)|refine yyp ?_;try refine s_bu ?_ ?_<;>intro hb|refine yy ?_|refine yy2 ?_ ?_<;>intro hcmp|refine at_nil ?_;refine z_nil qo9_0 ?_|refine tc_seq fun K hK=>?_|refine j5 5 ?_;refine j2 [] mt5 ?_|apply_assumption -exfalso -symm)
  ·(refine j0 (j6 ?_))
   rw[if_pos (by omega)]
   rfl
  ·refine⟨1,⟨by omega,by omega,by omega,by omega⟩,by omega,v7⟩
 ·(repeat' first|refine tr_at 10 ?_;(refine z_p (jq5 (i:=1) rfl rfl rfl rfl rfl (by decide) (by(repeat (first|exact Cut.done _|apply Cut.take|apply Cut.skip));fail_if_success intros)) ?_)|refine tr_at 6 ?_;(refine j1 6 ?_)|refine yyp ?_;try refine s_bu ?_ ?_<;>intro hb|refine yy ?_|refine yy2 ?_ ?_<;>intro hcmp|refine at_nil ?_;refine z_nil qo9_0 ?_|refine tc_seq fun K hK=>?_|refine j5 5 ?_;refine j2 [] mt5 ?_|apply_assumption -exfalso -symm)
  ·(refine j0 (j6 ?_))
   rw[if_neg (by omega),if_pos (by omega)]
   rfl
  ·refine⟨2,⟨by omega,by omega,by omega,by omega⟩,by omega,v7⟩
 ·(repeat' first|refine tr_at 10 ?_;(refine z_p (jq5 (i:=2) rfl rfl rfl rfl rfl (by decide) (by(repeat (first|exact Cut.done _|apply Cut.take|apply Cut.skip));fail_if_success intros)) ?_)|refine tr_at 6 ?_;(refine j1 6 ?_)|refine yyp ?_;try refine s_bu ?_ ?_<;>intro hb|refine yy ?_|refine yy2 ?_ ?_<;>intro hcmp|refine at_nil ?_;refine z_nil qo9_0 ?_|refine tc_seq fun K hK=>?_|refine j5 5 ?_;refine j2 [] mt5 ?_|apply_assumption -exfalso -symm)
  ·(refine j0 (j6 ?_))
   rw[if_neg (by omega),if_neg (by omega),if_pos (by omega)]
   rfl
  ·refine⟨3,⟨by omega,by omega,by omega,by omega⟩,by omega,v7⟩
 ·(repeat' first|refine yyp ?_;try refine s_bu ?_ ?_<;>intro hb|refine yy ?_|refine at_nil ?_;refine z_nil qo9_0 ?_|refine tc_seq fun K hK=>?_|refine j5 5 ?_;refine j2 [] mt5 ?_|apply_assumption -exfalso -symm)
  (refine j0 (j6 ?_))
  rw[if_neg (by omega),if_neg (by omega),if_neg (by omega)]
  rfl
theorem qs4 (k:Int):FnD prog (glS mm) 205 [.d (.int .u8 k)] (fun v=>v=.d (.bool (Lx.prim k))):=by
 have hw:=qg9 (mm:=mm) k
 have hp:(Lx.typeWord k).2.2=Lx.prim k:=by
  unfold Lx.typeWord Lx.prim
  by_cases h1:k=1
  ·simp[h1]
  ·by_cases h2:k=2
   ·simp[h2]
   ·by_cases h3:k=3<;>simp[h1,h2,h3]
 rw[hp]at hw
 (refine j4 func205 ntmps205 results205 fun w M=>?_)
 (repeat' first|refine yyp ?_;try refine s_bu ?_ ?_<;>intro hb|refine yy ?_|refine at_call 219 ?_;refine y_call (hc:=hw) ?_|refine at_nil ?_;refine z_nil [0,2,3,4,5,6] ?_|refine tc_seq fun K hK=>?_|apply_assumption -exfalso -symm)
 all_goals
  (refine j0 (j6 ?_))
  simp only[oneOf, *]
theorem mt6 (k:Int):FnD prog (glS mm) 221 [.d (.int .u8 k)] (fun v=>v=.d (.bool (!Lx.prim k))):=by
 (refine j4 func221 ntmps221 results221 fun w M=>?_)
 (repeat' first|refine yyp ?_;try refine s_bu ?_ ?_<;>intro hb|refine yy ?_|refine at_call 205 ?_;refine y_call (hc:=(qs4 k)) ?_;try refine s_bu ?_ ?_<;>intro hb|refine at_nil ?_;refine z_nil [0,2,3,4,5] ?_|refine tc_seq fun K hK=>?_|apply_assumption -exfalso -symm)
 all_goals
  (refine j0 (j6 ?_))
  simp only[oneOf, *,Bool.not_true,Bool.not_false]
theorem me9 (l:List Int)(least:Int):FnD prog (glS mm) 206 [.d (.list 1 (l.map (.int .u8))),.d (.int .i64 least)] (fun v=>v=.d (.bool (Lx.itemsMay l least))):=by
 have hcf:=re5 (glS mm) (fun k=>!Lx.prim k) l fun k hk=>FnE.ofD (mt6 (mm:=mm) l[k]) (by(repeat (first|exact Pures.nil|apply Pures.cons (Pure.d _)|apply Pures.cons (Pure.nils _)));fail_if_success intros)
 rw[jm3]at hcf
 (refine j4 func206 ntmps206 results206 fun w M=>?_)
 (repeat' first|refine tr_at 16 ?_;refine y_callE (hc:=hcf) ?_;try refine s_bu ?_ ?_<;>intro hb|refine yyp ?_;try refine s_bu ?_ ?_<;>intro hb|refine yy ?_|refine yy2 ?_ ?_<;>intro hcmp|refine at_nil ?_;refine z_nil [0,1,4,5,6,7] ?_|refine tc_seq fun K hK=>?_|apply_assumption -exfalso -symm)
 all_goals
  (refine j0 (j6 ?_))
  simp only[oneOf,V.d.injEq,D.bool.injEq,Lx.itemsMay]
  grind
theorem kv9 (tag:ByteArray)(items:List D)(v:Va):FnE prog (glS mm) 208 [.d (dVa v),.ptr 4 0] [(4,.box [.d (.str tag),.d (.list 1 items)])] (fun u H1=>u=.d (.bool (decide (v.tag=tag)))/\H1=[(4,.box [.d (.str tag),.d (.list 1 items)])]):=by
 (refine j3 func208 ntmps208 results208 fun w M E b0=>?_)
 (repeat' first|refine tr_at 2 ?_;(refine k7 2 ?_)|refine yyp ?_;try refine s_bu ?_ ?_<;>intro hb|refine yy ?_|refine yy2 ?_ ?_<;>intro hcmp|refine at_nil ?_;refine z_nil [0,1,2,3,4,5,6] ?_|refine tc_seq fun K hK=>?_|apply_assumption -exfalso -symm)
 all_goals (refine j0 (j7 ⟨?_,rfl⟩))
 all_goals simp only[oneOf, *,decide_true,decide_false]
end
section
def qo10_0:List Nat:=[0,2,3,4,5,6]
def qo10_1:List Nat:=[0,1,4,5,6,7,9,17]
def qn8:List Nat:=[4,5,6,7,8,9,10,11,12,13,14,15,16,17]
def qo10_3:List Nat:=[0,2,3,4,5,6,21,25,32]
theorem je6:ByteArray.empty=⟨#[]⟩:=rfl
attribute [local irreducible] TR TC
theorem kd6 (gl:List (Nat × List D))(c:UInt8):FnD prog gl 162 [.d (.int .u8 c.toNat)] (fun v=>v=.d (.bool (Lx.letter c))):=by
 (refine j4 func162 ntmps162 results162 fun w M=>?_)
 (repeat' first|refine yyp ?_;try refine s_bu ?_ ?_<;>intro hb|refine yy ?_|refine yy2 ?_ ?_<;>intro hcmp|refine at_nil ?_;refine z_nil qo10_0 ?_|refine tc_seq fun K hK=>?_|apply_assumption -exfalso -symm)
 all_goals
  (refine j0 (j6 ?_))
  simp only[oneOf,V.d.injEq,D.bool.injEq,Lx.letter]
  first|(symm;simp only[Bool.or_eq_true,decide_eq_true_eq];omega)|(symm;simp only[Bool.or_eq_false_iff,decide_eq_false_iff_not];omega)
theorem mk4 (gl:List (Nat × List D))(c:UInt8):FnD prog gl 195 [.d (.int .u8 c.toNat)] (fun v=>v=.d (.bool (Lx.digit c))):=by
 (refine j4 func195 ntmps195 results195 fun w M=>?_)
 (repeat' first|refine yyp ?_;try refine s_bu ?_ ?_<;>intro hb|refine yy ?_|refine yy2 ?_ ?_<;>intro hcmp|refine at_nil ?_;refine z_nil qo10_0 ?_|refine tc_seq fun K hK=>?_|apply_assumption -exfalso -symm)
 all_goals
  (refine j0 (j6 ?_))
  simp only[oneOf,V.d.injEq,D.bool.injEq,Lx.digit]
  first|(symm;simp only[decide_eq_true_eq];omega)|(symm;simp only[decide_eq_false_iff_not];omega)
theorem mt7 (gl:List (Nat × List D))(c:UInt8):FnD prog gl 164 [.d (.int .u8 c.toNat)] (fun v=>v=.d (.bool (Lx.wordB c))):=by
 (refine j4 func164 ntmps164 results164 fun w M=>?_)
 (repeat' first|refine yyp ?_;try refine s_bu ?_ ?_<;>intro hb|refine yy ?_|refine yy2 ?_ ?_<;>intro hcmp|refine at_call 162 ?_;refine y_call (hc:=(kd6 gl c)) ?_;try refine s_bu ?_ ?_<;>intro hb|refine at_call 195 ?_;refine y_call (hc:=(mk4 gl c)) ?_;try refine s_bu ?_ ?_<;>intro hb|refine at_nil ?_;refine z_nil qo10_0 ?_|refine tc_seq fun K hK=>?_|apply_assumption -exfalso -symm)
 all_goals
  (refine j0 (j6 ?_))
  simp only[oneOf,V.d.injEq,D.bool.injEq,Lx.wordB]
  (repeat (rename (∀ S:Sd,TC _ _ _ S->_)=>hX;clear hX))
  grind [Lx.prim]
theorem qh0 (gl:List (Nat × List D))(s:ByteArray)(l:List ByteArray):FnD prog gl 193 [.d (.str s),.d (.list 1 (l.map .str))] (fun v=>v=.d (.bool (l.any fun k=>decide (k=s)))):=by
 (refine j4 func193 ntmps193 results193 fun w M=>?_)
 refine r7 1 rfl fun hn=>?_
 simp only[List.length_map]at hn
 (repeat' first|refine yyp ?_;try refine s_bu ?_ ?_<;>intro hb|refine yy ?_|refine at_nil ?_;refine z_nil qo10_1 ?_|refine tc_seq fun K hK=>?_|apply_assumption -exfalso -symm)
 refine k9 qn8 [] (fun k:Nat=>[(5,.d (.int .i64 k))]) (fun _=>[]) (fun k=>k<=l.length/\(l.any fun k=>decide (k=s))=(l.drop k).any fun k=>decide (k=s)) (fun k=>l.length - k) 0 ⟨by omega,rfl⟩ fun k ⟨hk,hi⟩=>?_
 dsimp only[List.cons_append,List.nil_append]
 rcases Nat.lt_or_ge k l.length with hk2|hk2
 ·rw[List.drop_eq_getElem_cons hk2,List.any_cons]at hi
  (repeat' first|refine yyp ?_;try refine s_bu ?_ ?_<;>intro hb|refine yy ?_|refine yy2 ?_ ?_<;>intro hcmp|refine at_nil ?_;refine z_nil qo10_1 ?_|refine tc_seq fun K hK=>?_|apply_assumption -exfalso -symm)
  ·(refine j0 (j6 ?_))
   rw[hi,decide_eq_true hcmp]
   rfl
  ·refine⟨k+1,⟨by omega,?_⟩,by omega,v7⟩
   rw[hi,decide_eq_false hcmp]
   rfl
 ·(repeat' first|refine yyp ?_;try refine s_bu ?_ ?_<;>intro hb|refine yy ?_|refine at_nil ?_;refine z_nil qo10_1 ?_|refine tc_seq fun K hK=>?_|apply_assumption -exfalso -symm)
  (refine j0 (j6 ?_))
  rw[hi,List.drop_of_length_le hk2]
  rfl
theorem qs5 (gl:List (Nat × List D)):FnD prog gl 194 [] (fun v=>v=.d (.list 1 (Lx.keys.map .str))):=by
 (refine j4 func194 ntmps194 results194 fun w M=>?_)
 (repeat' first|refine tr_at 1 ?_;(refine z_lit 1 ?_)|refine yyp ?_;try refine s_bu ?_ ?_<;>intro hb|refine yy ?_|refine at_nil ?_;refine z_nil [0,1] ?_|refine tc_seq fun K hK=>?_|apply_assumption -exfalso -symm)
 (refine j0 (j6 ?_))
 rfl
theorem qh1 (gl:List (Nat × List D))(s:ByteArray):FnD prog gl 163 [.d (.str s)] (fun v=>v=.d (.bool (Lx.isKey s))):=by
 (refine j4 func163 ntmps163 results163 fun w M=>?_)
 (repeat' first|refine yyp ?_;try refine s_bu ?_ ?_<;>intro hb|refine yy ?_|refine at_call 194 ?_;refine y_call (hc:=(qs5 gl)) ?_|refine at_call 193 ?_;refine y_call (hc:=(qh0 gl s Lx.keys)) ?_;try refine s_bu ?_ ?_<;>intro hb|refine at_nil ?_;refine z_nil [0,2,3,4,5] ?_|refine tc_seq fun K hK=>?_|apply_assumption -exfalso -symm)
 all_goals
  (refine j0 (j6 ?_))
  simp only[oneOf,V.d.injEq,D.bool.injEq,Lx.isKey, *]
theorem kw0 (s:ByteArray)(c:UInt8)(l:List UInt8)(h:s.data.toList=c::l):Lx.isName s=(decide (l.length<32) && Lx.letter c && l.all Lx.wordB && !Lx.isKey s):=by
 unfold Lx.isName
 rw[h]
theorem jq8 (c:UInt8)(h:Lx.letter c=true):Lx.wordB c=true:=by
 unfold Lx.wordB
 rw[h]
 rfl
theorem x9 (gl:List (Nat × List D))(s:ByteArray):FnD prog gl 130 [.d (.str s)] (fun v=>v=.d (.bool (Lx.isName s))):=by
 have hsz:s.data.toList.length=s.size:=by simp
 cases hs:s.data.toList with
 |nil=>
  rw[hs]at hsz
  have hsz0:s.size=0:=hsz.symm
  (refine j4 func130 ntmps130 results130 fun w M=>?_)
  (repeat' first|refine yyp ?_;try refine s_bu ?_ ?_<;>intro hb|refine yy ?_|refine at_nil ?_;refine z_nil qo10_3 ?_|refine tc_seq fun K hK=>?_|apply_assumption -exfalso -symm)
  (refine j0 (j6 ?_))
  simp[oneOf,Lx.isName,hs]
 |cons c l=>
  rw[hs]at hsz
  simp only[List.length_cons]at hsz
  have hn:=kw0 s c l hs
  have h0:s.data.toList[0]? =some c:=by rw[hs];rfl
  (refine j4 func130 ntmps130 results130 fun w M=>?_)
  (repeat' first|refine yyp ?_;try refine s_bu ?_ ?_<;>intro hb|refine yy ?_|refine yy2 ?_ ?_<;>intro hcmp|refine at_call 162 ?_;refine y_call (hc:=(kd6 gl c)) ?_;try refine s_bu ?_ ?_<;>intro hb|refine at_call 163 ?_;refine y_call (hc:=(qh1 gl s)) ?_;try refine s_bu ?_ ?_<;>intro hb|refine at_nil ?_;refine z_nil qo10_3 ?_|refine tc_seq fun K hK=>?_|apply_assumption -exfalso -symm)
  case' refine_2.refine_1.refine_2=>
   refine k9 [2,3,22,23,24,25,26,27,28,29,30,31,32] [] (fun k:Nat=>[(3,.d (.int .i64 k))]) (fun _=>[]) (fun k=>k<=s.size/\(c::l).all Lx.wordB=((c::l).drop k).all Lx.wordB) (fun k=>s.size - k) 0 ⟨by omega,rfl⟩ fun k ⟨hk,hi⟩=>?_
   dsimp only[List.cons_append,List.nil_append]
   rcases Nat.lt_or_ge k s.size with hk2|hk2
   ·have hk3:k<(c::l).length:=by simp only[List.length_cons];omega
    have hat:s.data.toList[k]? =some ((c::l)[k]):=by rw[hs];exact List.getElem?_eq_getElem hk3
    rw[List.drop_eq_getElem_cons hk3]at hi
    generalize (c::l)[k]=c' at hat hi
    (repeat' first|refine yyp ?_;try refine s_bu ?_ ?_<;>intro hb|refine yy ?_|refine at_call 164 ?_;refine y_call (hc:=(mt7 gl c')) ?_;try refine s_bu ?_ ?_<;>intro hb|refine at_nil ?_;refine z_nil qo10_3 ?_|refine tc_seq fun K hK=>?_|apply_assumption -exfalso -symm)
    ·refine⟨k+1,⟨by omega,?_⟩,by omega,v7⟩
     rw[hi,List.all_cons,hb]
     rfl
    ·(refine j0 (j6 ?_))
     rw[List.all_cons,List.all_cons,jq8 c (by assumption),Bool.true_and,hb,Bool.false_and]at hi
     rw[hn,hi]
     simp[oneOf]
   ·(repeat' first|refine yyp ?_;try refine s_bu ?_ ?_<;>intro hb|refine yy ?_|refine at_nil ?_;refine z_nil qo10_3 ?_|refine tc_seq fun K hK=>?_|apply_assumption -exfalso -symm)
    (refine j0 (j6 ?_))
    rw[List.drop_of_length_le (by simp only[List.length_cons];omega),List.all_cons,jq8 c (by assumption),Bool.true_and,List.all_nil]at hi
    have hl32:l.length<32:=by omega
    rw[hn,hi]
    simp[oneOf, *]
  all_goals
   (refine j0 (j6 ?_))
   rw[hn]
   first
    |(have hl32:¬l.length<32:=by omega
      simp only[oneOf,hl32,decide_false,Bool.false_and])
    |simp only[oneOf, *,Bool.not_true,Bool.and_false,Bool.false_and]
theorem jt0 (gl:List (Nat × List D))(k:Int):FnD prog gl 196 [.d (.int .u8 k)] (fun v=>v=.d (.bool (Lx.prim k))):=by
 (refine j4 func196 ntmps196 results196 fun w M=>?_)
 (repeat' first|refine yyp ?_;try refine s_bu ?_ ?_<;>intro hb|refine yy ?_|refine yy2 ?_ ?_<;>intro hcmp|refine at_nil ?_;refine z_nil qo10_0 ?_|refine tc_seq fun K hK=>?_|apply_assumption -exfalso -symm)
 all_goals
  (refine j0 (j6 ?_))
  simp only[oneOf,V.d.injEq,D.bool.injEq,Lx.prim, *,decide_true,decide_false,Bool.or_true,Bool.true_or,Bool.or_false,Bool.false_or]
  try rfl
theorem ma5 (gl:List (Nat × List D))(k:Int):FnD prog gl 229 [.d (.int .u8 k)] (fun v=>v=.d (.bool (Lx.prim k))):=by
 (refine j4 func229 ntmps229 results229 fun w M=>?_)
 (repeat' first|refine yyp ?_;try refine s_bu ?_ ?_<;>intro hb|refine yy ?_|refine yy2 ?_ ?_<;>intro hcmp|refine at_nil ?_;refine z_nil qo10_0 ?_|refine tc_seq fun K hK=>?_|apply_assumption -exfalso -symm)
 all_goals
  (refine j0 (j6 ?_))
  simp only[oneOf,V.d.injEq,D.bool.injEq,Lx.prim, *,decide_true,decide_false,Bool.or_true,Bool.true_or,Bool.or_false,Bool.false_or]
  try rfl
theorem kk9 (gl:List (Nat × List D))(l:List Int)(least:Int):FnD prog gl 197 [.d (.list 1 (l.map (.int .u8))),.d (.int .i64 least)] (fun v=>v=.d (.bool (Lx.itemsMay l least))):=by
 (refine j4 func197 ntmps197 results197 fun w M=>?_)
 refine r7 0 rfl fun hn=>?_
 simp only[List.length_map]at hn
 (repeat' first|refine yyp ?_;try refine s_bu ?_ ?_<;>intro hb|refine yy ?_|refine at_nil ?_;refine z_nil qo10_1 ?_|refine tc_seq fun K hK=>?_|apply_assumption -exfalso -symm)
 refine k9 qn8 [] (fun k:Nat=>[(5,.d (.int .i64 k))]) (fun _=>[]) (fun k=>k<=l.length/\l.all Lx.prim=(l.drop k).all Lx.prim) (fun k=>l.length - k) 0 ⟨by omega,rfl⟩ fun k ⟨hk,hi⟩=>?_
 dsimp only[List.cons_append,List.nil_append]
 rcases Nat.lt_or_ge k l.length with hk2|hk2
 ·rw[List.drop_eq_getElem_cons hk2,List.all_cons]at hi
  (repeat' first|refine yyp ?_;try refine s_bu ?_ ?_<;>intro hb|refine yy ?_|refine at_call 196 ?_;refine y_call (hc:=(jt0 gl l[k])) ?_;try refine s_bu ?_ ?_<;>intro hb|refine at_nil ?_;refine z_nil qo10_1 ?_|refine tc_seq fun K hK=>?_|apply_assumption -exfalso -symm)
  ·refine⟨k+1,⟨by omega,?_⟩,by omega,v7⟩
   rw[hi,hb]
   rfl
  ·(refine j0 (j6 ?_))
   rw[hb,Bool.false_and]at hi
   simp only[oneOf,Lx.itemsMay,hi,Bool.and_false]
 ·rw[List.drop_of_length_le hk2]at hi
  (repeat' first|refine yyp ?_;try refine s_bu ?_ ?_<;>intro hb|refine yy ?_|refine yy2 ?_ ?_<;>intro hcmp|refine at_nil ?_;refine z_nil qo10_1 ?_|refine tc_seq fun K hK=>?_|apply_assumption -exfalso -symm)
  all_goals
   (refine j0 (j6 ?_))
   simp only[oneOf,V.d.injEq,D.bool.injEq,Lx.itemsMay,hi,List.all_nil,Bool.and_true]
   (repeat (rename (∀ S:Sd,TC _ _ _ S->_)=>hX;clear hX))
   grind [Lx.prim]
theorem jw4 (gl:List (Nat × List D))(t:Ty):FnD prog gl 165 [.d (dTy t)] (fun v=>v=.d (.bool (Lx.tyMay t))):=by
 (refine j4 func165 ntmps165 results165 fun w M=>?_)
 (repeat' first|refine tr_at 1 ?_;(refine k7 1 ?_)|refine yyp ?_;try refine s_bu ?_ ?_<;>intro hb|refine yy ?_|refine yy2 ?_ ?_<;>intro hcmp|refine at_call 196 ?_;refine y_call (hc:=(by first|exact jt0 gl t.kind|exact jt0 gl t.item)) ?_;try refine s_bu ?_ ?_<;>intro hb|refine at_call 130 ?_;refine y_call (hc:=(x9 gl t.proto)) ?_;try refine s_bu ?_ ?_<;>intro hb|refine at_nil ?_;refine z_nil [0,1,2,3,4,5,6,10,13,24] ?_|refine tc_seq fun K hK=>?_|apply_assumption -exfalso -symm)
 all_goals
  (refine j0 (j6 ?_))
  simp only[oneOf,V.d.injEq,D.bool.injEq,Lx.tyMay]
  (repeat (rename (∀ S:Sd,TC _ _ _ S->_)=>hX;clear hX))
  simp only[je6]at *
  grind [Lx.prim]
end
end Go.Proofs.YtdopmfifmgkmoaaGreatDoor
namespace Go.Proofs
open Go.Shelf
def Tryz.laysM171_ren:Go.Shelf.Ren:=⟨fun|171=>95|243=>148|246=>190|283=>213|284=>214|285=>215|286=>216|129=>118|317=>225|318=>226|319=>227|320=>228|337=>232|338=>233|n=>n,fun|3=>3|9=>9|2=>2|4=>4|171=>243|0=>0|53=>176|37=>206|5=>5|173=>245|212=>256|51=>174|20=>20|213=>257|46=>129|232=>262|233=>263|n=>n,fun|17=>3|18=>6|19=>7|n=>n⟩
theorem Tryz.laysM171:Go.Proofs.LaysM.n171 Tryz.prog Tryz.laysM171_ren:={
 mixed:=by kernel_rfl
 f129:=Tryz.func118.trans (congrArg some (by kernel_rfl))
 f171:=Tryz.func95.trans (congrArg some (by kernel_rfl))
 f243:=Tryz.func148.trans (congrArg some (by kernel_rfl))
 f246:=Tryz.func190.trans (congrArg some (by kernel_rfl))
 f283:=Tryz.func213.trans (congrArg some (by kernel_rfl))
 f284:=Tryz.func214.trans (congrArg some (by kernel_rfl))
 f285:=Tryz.func215.trans (congrArg some (by kernel_rfl))
 f286:=Tryz.func216.trans (congrArg some (by kernel_rfl))
 f317:=Tryz.func225.trans (congrArg some (by kernel_rfl))
 f318:=Tryz.func226.trans (congrArg some (by kernel_rfl))
 f319:=Tryz.func227.trans (congrArg some (by kernel_rfl))
 f320:=Tryz.func228.trans (congrArg some (by kernel_rfl))
 f337:=Tryz.func232.trans (congrArg some (by kernel_rfl))
 f338:=Tryz.func233.trans (congrArg some (by kernel_rfl))
 t0:=Tryz.underlying0
 a0:=Tryz.isAgg0
 z0:=Tryz.sizeOf0
 v0:=Tryz.zeroValue0
 t2:=Tryz.underlying2
 a2:=Tryz.isAgg2
 z2:=Tryz.sizeOf2
 v2:=Tryz.zeroValue2
 t3:=Tryz.underlying3
 a3:=Tryz.isAgg3
 z3:=Tryz.sizeOf3
 v3:=Tryz.zeroValue3
 t4:=Tryz.underlying4
 a4:=Tryz.isAgg4
 z4:=Tryz.sizeOf4
 v4:=Tryz.zeroValue4
 t5:=Tryz.underlying5
 a5:=Tryz.isAgg5
 z5:=Tryz.sizeOf5
 v5:=Tryz.zeroValue5
 t9:=Tryz.underlying9
 a9:=Tryz.isAgg9
 z9:=Tryz.sizeOf9
 v9:=Tryz.zeroValue9
 t20:=Tryz.underlying20
 a20:=Tryz.isAgg20
 z20:=Tryz.sizeOf20
 v20:=Tryz.zeroValue20
 t37:=Tryz.underlying206
 a37:=Tryz.isAgg206
 z37:=Tryz.sizeOf206
 v37:=Tryz.zeroValue206
 t46:=Tryz.underlying129
 a46:=Tryz.isAgg129
 z46:=Tryz.sizeOf129
 v46:=Tryz.zeroValue129
 t51:=Tryz.underlying174
 a51:=Tryz.isAgg174
 z51:=Tryz.sizeOf174
 v51:=Tryz.zeroValue174
 t53:=Tryz.underlying176
 a53:=Tryz.isAgg176
 z53:=Tryz.sizeOf176
 v53:=Tryz.zeroValue176
 t171:=Tryz.underlying243
 a171:=Tryz.isAgg243
 z171:=Tryz.sizeOf243
 v171:=Tryz.zeroValue243
 t173:=Tryz.underlying245
 a173:=Tryz.isAgg245
 z173:=Tryz.sizeOf245
 v173:=Tryz.zeroValue245
 t212:=Tryz.underlying256
 a212:=Tryz.isAgg256
 z212:=Tryz.sizeOf256
 v212:=Tryz.zeroValue256
 t213:=Tryz.underlying257
 a213:=Tryz.isAgg257
 z213:=Tryz.sizeOf257
 t232:=Tryz.underlying262
 a232:=Tryz.isAgg262
 z232:=Tryz.sizeOf262
 v232:=Tryz.zeroValue262
 t233:=Tryz.underlying263
 a233:=Tryz.isAgg263
 z233:=Tryz.sizeOf263
 v233:=Tryz.zeroValue263
 g17:=by kernel_rfl
 g18:=by kernel_rfl
 g19:=by kernel_rfl
 i0:=by kernel_rfl
 i2:=by kernel_rfl
 i3:=by kernel_rfl
 i4:=by kernel_rfl
 i5:=by kernel_rfl
 i9:=by kernel_rfl
 i20:=by kernel_rfl
 i37:=by kernel_rfl
 i46:=by kernel_rfl
 i51:=by kernel_rfl
 i53:=by kernel_rfl
 i171:=by kernel_rfl
 i173:=by kernel_rfl
 i212:=by kernel_rfl
 i232:=by kernel_rfl
 i233:=by kernel_rfl
 m17:=by kernel_rfl
 m18:=by kernel_rfl
 m19:=by kernel_rfl}
open Go.RowKit Go.Sort Go.Lib in
theorem Tryz.strconv_Itoa (n:Int)(h0:-9223372036854775808<=n)(h1:n<=9223372036854775807)(w:World)(htab:Lib.TabIs Tryz.prog w "internal/strconv.uint64pow10" .u64 Lib.pow10Tab):
 Calls Tryz.prog 95 #[.int .i64 n] w fun e w'=>e=.returned (.string ⟨(Lib.itoa n).toArray⟩)/\∃ k os,w'=grow (w.drewN k) os:=Any.strconv_Itoa Tryz.laysM171 n h0 h1 w htab
def Tryz.lays144_ren:Go.Shelf.Ren:=⟨fun|144=>201|143=>218|219=>230|217=>234|225=>235|224=>236|267=>237|266=>238|314=>239|n=>n,fun|9=>9|4=>4|3=>3|5=>5|46=>129|146=>264|51=>174|n=>n,fun|1=>5|n=>n⟩
theorem Tryz.lays144:Go.Proofs.Lays.n144 Tryz.prog Tryz.lays144_ren:={
 mixed:=by kernel_rfl
 f143:=Tryz.func218.trans (congrArg some (by kernel_rfl))
 f144:=Tryz.func201.trans (congrArg some (by kernel_rfl))
 f217:=Tryz.func234.trans (congrArg some (by kernel_rfl))
 f219:=Tryz.func230.trans (congrArg some (by kernel_rfl))
 f224:=Tryz.func236.trans (congrArg some (by kernel_rfl))
 f225:=Tryz.func235.trans (congrArg some (by kernel_rfl))
 f266:=Tryz.func238.trans (congrArg some (by kernel_rfl))
 f267:=Tryz.func237.trans (congrArg some (by kernel_rfl))
 f314:=Tryz.func239.trans (congrArg some (by kernel_rfl))
 t3:=Tryz.underlying3
 a3:=Tryz.isAgg3
 z3:=Tryz.sizeOf3
 v3:=Tryz.zeroValue3
 t4:=Tryz.underlying4
 a4:=Tryz.isAgg4
 z4:=Tryz.sizeOf4
 v4:=Tryz.zeroValue4
 t5:=Tryz.underlying5
 a5:=Tryz.isAgg5
 z5:=Tryz.sizeOf5
 v5:=Tryz.zeroValue5
 t9:=Tryz.underlying9
 a9:=Tryz.isAgg9
 z9:=Tryz.sizeOf9
 v9:=Tryz.zeroValue9
 t46:=Tryz.underlying129
 a46:=Tryz.isAgg129
 z46:=Tryz.sizeOf129
 v46:=Tryz.zeroValue129
 t51:=Tryz.underlying174
 a51:=Tryz.isAgg174
 z51:=Tryz.sizeOf174
 v51:=Tryz.zeroValue174
 t146:=Tryz.underlying264
 a146:=Tryz.isAgg264
 z146:=Tryz.sizeOf264
 v146:=Tryz.zeroValue264
 g1:=by kernel_rfl}
open Go.RowKit Go.Lib in
theorem Tryz.strings_Contains (s sub:ByteArray)(m:Int)(w:World)(hs:s.size<4294967281)(hm:w.cell? ⟨5,0,none⟩=some (.int .i64 m)):
 Calls Tryz.prog 201 #[.string s,.string sub] w fun e w'=>e=.returned (.bool (Lib.contains s.data.toList sub.data.toList))/\w'=w:=Any.strings_Contains Tryz.lays144 s sub m w hs hm
def Tryz.lays190_ren:Go.Shelf.Ren:=⟨fun|190=>34|125=>70|258=>69|128=>117|129=>118|302=>108|303=>109|304=>110|305=>111|306=>112|307=>113|308=>114|309=>115|310=>116|333=>149|329=>150|330=>151|334=>152|335=>153|336=>154|344=>191|n=>n,fun|31=>37|9=>9|3=>3|46=>129|0=>0|51=>174|53=>176|4=>4|183=>166|182=>165|131=>171|5=>5|218=>200|222=>204|228=>226|229=>227|n=>n,fun|n=>n⟩
theorem Tryz.lays190:Go.Proofs.Lays.n190 Tryz.prog Tryz.lays190_ren:={
 mixed:=by kernel_rfl
 f125:=Tryz.func70.trans (congrArg some (by kernel_rfl))
 f128:=Tryz.func117.trans (congrArg some (by kernel_rfl))
 f129:=Tryz.func118.trans (congrArg some (by kernel_rfl))
 f190:=Tryz.func34.trans (congrArg some (by kernel_rfl))
 f258:=Tryz.func69.trans (congrArg some (by kernel_rfl))
 f302:=Tryz.func108.trans (congrArg some (by kernel_rfl))
 f303:=Tryz.func109.trans (congrArg some (by kernel_rfl))
 f304:=Tryz.func110.trans (congrArg some (by kernel_rfl))
 f305:=Tryz.func111.trans (congrArg some (by kernel_rfl))
 f306:=Tryz.func112.trans (congrArg some (by kernel_rfl))
 f307:=Tryz.func113.trans (congrArg some (by kernel_rfl))
 f308:=Tryz.func114.trans (congrArg some (by kernel_rfl))
 f309:=Tryz.func115.trans (congrArg some (by kernel_rfl))
 f310:=Tryz.func116.trans (congrArg some (by kernel_rfl))
 f329:=Tryz.func150.trans (congrArg some (by kernel_rfl))
 f330:=Tryz.func151.trans (congrArg some (by kernel_rfl))
 f333:=Tryz.func149.trans (congrArg some (by kernel_rfl))
 f334:=Tryz.func152.trans (congrArg some (by kernel_rfl))
 f335:=Tryz.func153.trans (congrArg some (by kernel_rfl))
 f336:=Tryz.func154.trans (congrArg some (by kernel_rfl))
 f344:=Tryz.func191.trans (congrArg some (by kernel_rfl))
 t0:=Tryz.underlying0
 a0:=Tryz.isAgg0
 z0:=Tryz.sizeOf0
 v0:=Tryz.zeroValue0
 t3:=Tryz.underlying3
 a3:=Tryz.isAgg3
 z3:=Tryz.sizeOf3
 v3:=Tryz.zeroValue3
 t4:=Tryz.underlying4
 a4:=Tryz.isAgg4
 z4:=Tryz.sizeOf4
 v4:=Tryz.zeroValue4
 t5:=Tryz.underlying5
 a5:=Tryz.isAgg5
 z5:=Tryz.sizeOf5
 v5:=Tryz.zeroValue5
 t9:=Tryz.underlying9
 a9:=Tryz.isAgg9
 z9:=Tryz.sizeOf9
 v9:=Tryz.zeroValue9
 t31:=Tryz.underlying37
 a31:=Tryz.isAgg37
 z31:=Tryz.sizeOf37
 v31:=Tryz.zeroValue37
 t46:=Tryz.underlying129
 a46:=Tryz.isAgg129
 z46:=Tryz.sizeOf129
 v46:=Tryz.zeroValue129
 t51:=Tryz.underlying174
 a51:=Tryz.isAgg174
 z51:=Tryz.sizeOf174
 v51:=Tryz.zeroValue174
 t53:=Tryz.underlying176
 a53:=Tryz.isAgg176
 z53:=Tryz.sizeOf176
 v53:=Tryz.zeroValue176
 t131:=Tryz.underlying171
 a131:=Tryz.isAgg171
 z131:=Tryz.sizeOf171
 v131:=Tryz.zeroValue171
 t182:=Tryz.underlying165
 a182:=Tryz.isAgg165
 z182:=Tryz.sizeOf165
 v182:=Tryz.zeroValue165
 t183:=Tryz.underlying166
 a183:=Tryz.isAgg166
 z183:=Tryz.sizeOf166
 v183:=Tryz.zeroValue166
 t218:=Tryz.underlying200
 a218:=Tryz.isAgg200
 z218:=Tryz.sizeOf200
 v218:=Tryz.zeroValue200
 t222:=Tryz.underlying204
 a222:=Tryz.isAgg204
 z222:=Tryz.sizeOf204
 v222:=Tryz.zeroValue204
 t228:=Tryz.underlying226
 a228:=Tryz.isAgg226
 z228:=Tryz.sizeOf226
 v228:=Tryz.zeroValue226
 t229:=Tryz.underlying227
 a229:=Tryz.isAgg227
 z229:=Tryz.sizeOf227
 v229:=Tryz.zeroValue227}
open Go.Sort Go.RowKit in
theorem Tryz.slices_Sort_string (blk off cap:Nat)(ss:List (List UInt8))(w:World)(hH:Holds encStr w blk off ss.toArray)(hblk:blk<w.heap.size)(hsz:ss.length<4611686018427387904):
 Calls Tryz.prog 34 #[.slice (some ⟨blk,off,none⟩) ss.length cap] w fun e w'=>
  e=.returned (.tuple #[])/\∃ n os,w'=grow (putRow encStr (Sort.ahead w n) blk off (ss.mergeSort fun x y=>decide (x<=y)).toArray) os:=Any.slices_Sort_string Tryz.lays190 blk off cap ss w hH hblk hsz
def Tryz.lays194_ren:Go.Shelf.Ren:=⟨fun|194=>35|n=>n,fun|31=>37|9=>9|3=>3|4=>4|0=>0|n=>n,fun|n=>n⟩
theorem Tryz.lays194:Go.Proofs.Lays.n194 Tryz.prog Tryz.lays194_ren:={
 mixed:=by kernel_rfl
 f194:=Tryz.func35.trans (congrArg some (by kernel_rfl))
 t0:=Tryz.underlying0
 a0:=Tryz.isAgg0
 z0:=Tryz.sizeOf0
 v0:=Tryz.zeroValue0
 t3:=Tryz.underlying3
 a3:=Tryz.isAgg3
 z3:=Tryz.sizeOf3
 v3:=Tryz.zeroValue3
 t4:=Tryz.underlying4
 a4:=Tryz.isAgg4
 z4:=Tryz.sizeOf4
 v4:=Tryz.zeroValue4
 t9:=Tryz.underlying9
 a9:=Tryz.isAgg9
 z9:=Tryz.sizeOf9
 v9:=Tryz.zeroValue9
 t31:=Tryz.underlying37
 a31:=Tryz.isAgg37
 z31:=Tryz.sizeOf37
 v31:=Tryz.zeroValue37}
open Go.RowKit Go.Lib Go.Sort in
theorem Tryz.slices_Compact_string (blk off cap:Nat)(zs:List (List UInt8))(w:World)(hH:Holds encStr w blk off zs.toArray)(hsz:zs.length<=9223372036854775807)(hcap:zs.length<=cap):
 Calls Tryz.prog 35 #[.slice (some ⟨blk,off,none⟩) zs.length cap] w fun e w'=>e=.returned (.slice (some ⟨blk,off,none⟩) (Lib.compact zs).length cap)/\∃ q,w'=putRow encStr (Sort.ahead w q) blk off (Lib.compact zs++List.replicate (zs.length - (Lib.compact zs).length) []).toArray:=Any.slices_Compact_string Tryz.lays194 blk off cap zs w hH hsz hcap
open Go.RowKit Go.Lib Go.Sort in
theorem Tryz.slices_Compact_string_empty (a:Option Addr)(cap:Nat)(w:World):
 Calls Tryz.prog 35 #[.slice a 0 cap] w fun e w'=>e=.returned (.slice a 0 cap)/\w'=w:=Any.slices_Compact_string_empty Tryz.lays194 a cap w
open Go.RowKit Go.Sort in
theorem Tryz.slices_Sort_string_none (p:Option Addr)(cap:Nat)(w:World):
 Calls Tryz.prog 34 #[.slice p 0 cap] w fun e w'=>e=.returned (.tuple #[])/\w'=w:=Any.slices_Sort_string_none Tryz.lays190 p cap w
end Go.Proofs
namespace Go.Proofs.YtdopmfifmgkmoaaGreatDoor
open Go.RowKit
end Go.Proofs.YtdopmfifmgkmoaaGreatDoor
