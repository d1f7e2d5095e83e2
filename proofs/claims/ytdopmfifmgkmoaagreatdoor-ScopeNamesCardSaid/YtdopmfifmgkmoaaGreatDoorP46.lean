/- Parts: O29. -/
import Derived.Test.YtdopmfifmgkmoaaGreatDoorP45
import Derived.Test.YtdopmfifmgkmoaaGreatDoorP25
set_option linter.all false
set_option maxRecDepth 100000
set_option maxHeartbeats 16000000
namespace Go.Proofs.YtdopmfifmgkmoaaGreatDoor
open Go.RowKit Go.Proofs.Tryz
section
def qo29_0:List Nat:=[0,1,2,3,4,5,6,18,19,27,45,64,70,72]
attribute [local irreducible] TR TC
theorem mm0 (gl:List (Nat × List D))(g:Gu)(h0:0<=g.kind):FnD prog gl 161 [.d (dGu g)] (fun v=>v=.d (.bool (Lx.guMay g))):=by
 have c1:=jf0 gl g.cond
 have c2:=kg2 gl g.cond
 have c3:=x3 gl g.chan
 have c5:=jf0 gl g.time
 have t1:=fun a b=>v8 gl g.targets a b
 have t2:=fun a b=>y7 gl g.values a b
 have hn:=x9 gl g.name
 have w1:=jp4 gl (.mk 0 g.name ex0 g.chan g.targets g.values g.time []) gu0
 have w3:=jp4 gl (.mk 0 g.name ex0 ex0 [] g.values g.time []) gu0
 have w4:=jp4 gl (.mk 0 g.name ex0 ex0 g.targets g.values ex0 []) gu0
 have w5:=jp4 gl (.mk 0 g.name g.cond g.chan g.targets [] g.time []) gu0
 have w6:=jp4 gl (.mk 0 g.name g.cond g.chan g.targets g.values g.time []) gu0
 have w7:=jp4 gl (.mk 0 ByteArray.empty g.cond g.chan [] g.values g.time []) gu0
 have hz:∀ (a:Int) b c d e f h i,eqB (Gu.mk a b c d e f h i) gu0=true↔(a=0/\b=ByteArray.empty/\c=ex0/\d=ex0/\e=[]/\f=[]/\h=ex0/\i=[]):=fun a b c d e f h i=>by rw[j9];simp[gu0]
 simp only[r9]at c1 c2 c3 c5
 rw[jg4]at w1 w3 w4 w5 w6 w7 ⊢
 have hk:∀ n:Int,g.kind=n\/¬g.kind=n:=fun n=>Decidable.em _
 rcases(by omega:g.kind=1\/g.kind=2\/g.kind=3\/g.kind=4\/g.kind=5\/g.kind=6\/g.kind=7\/(g.kind≠1/\g.kind≠2/\g.kind≠3/\g.kind≠4/\g.kind≠5/\g.kind≠6/\g.kind≠7)) with k|k|k|k|k|k|k|k
 all_goals as_aux_lemma=>
  (refine j4 func161 ntmps161 results161 fun w M=>?_)
  (repeat' first|refine tr_at 1 ?_;(refine k7 1 ?_)|refine tr_at 3 ?_;(refine j1 3 ?_)|refine tr_at 12 ?_;(first|refine yyp ?_;try refine s_bu ?_ ?_<;>intro hb|refine yy2 ?_ ?_<;>intro hcmp);all_goals try refine z_sh true 12 5 qo29_0 ?_|refine tr_at 19 ?_;refine yyp ?_;try refine s_bu ?_ ?_<;>intro hb|refine tr_at 25 ?_;refine z_p w_buildn ?_|refine tr_at 27 ?_;refine yyp ?_;try refine s_bu ?_ ?_<;>intro hb|refine tr_at 30 ?_;(first|refine yyp ?_;try refine s_bu ?_ ?_<;>intro hb|refine yy2 ?_ ?_<;>intro hcmp);all_goals try refine z_sh false 30 4 qo29_0 ?_|refine tr_at 35 ?_;(first|refine yyp ?_;try refine s_bu ?_ ?_<;>intro hb|refine yy2 ?_ ?_<;>intro hcmp);all_goals try refine z_sh false 35 4 qo29_0 ?_|refine tr_at 40 ?_;refine z_p w_buildn ?_|refine tr_at 42 ?_;refine z_p w_buildn ?_|refine tr_at 45 ?_;refine yyp ?_;try refine s_bu ?_ ?_<;>intro hb|refine tr_at 48 ?_;(first|refine yyp ?_;try refine s_bu ?_ ?_<;>intro hb|refine yy2 ?_ ?_<;>intro hcmp);all_goals try refine z_sh false 48 4 qo29_0 ?_|refine tr_at 53 ?_;(first|refine yyp ?_;try refine s_bu ?_ ?_<;>intro hb|refine yy2 ?_ ?_<;>intro hcmp);all_goals try refine z_sh false 53 4 qo29_0 ?_|refine tr_at 58 ?_;refine z_p w_buildn ?_|refine tr_at 60 ?_;refine z_p w_buildn ?_|refine tr_at 62 ?_;refine z_p w_buildn ?_|refine tr_at 64 ?_;refine yyp ?_;try refine s_bu ?_ ?_<;>intro hb|refine tr_at 70 ?_;refine yyp ?_;try refine s_bu ?_ ?_<;>intro hb|refine tr_at 72 ?_;refine yyp ?_;try refine s_bu ?_ ?_<;>intro hb|refine tr_at 77 ?_;(first|refine yyp ?_;try refine s_bu ?_ ?_<;>intro hb|refine yy2 ?_ ?_<;>intro hcmp);all_goals try refine z_sh false 77 4 qo29_0 ?_|refine tr_at 85 ?_;(first|refine yyp ?_;try refine s_bu ?_ ?_<;>intro hb|refine yy2 ?_ ?_<;>intro hcmp);all_goals try refine z_sh false 85 2 qo29_0 ?_|refine tr_at 91 ?_;(first|refine yyp ?_;try refine s_bu ?_ ?_<;>intro hb|refine yy2 ?_ ?_<;>intro hcmp);all_goals try refine z_sh false 91 2 qo29_0 ?_|refine yyp ?_|refine yy ?_|refine yy2 ?_ ?_<;>intro hcmp|refine at_call 170 ?_;refine y_call (hc:=c2) ?_|refine at_call 160 ?_;refine y_call (hc:=(by first|exact c1|exact c5)) ?_|refine at_call 128 ?_;refine y_call (hc:=c3) ?_|refine at_call 126 ?_;refine y_call (hc:=(t1 _ _)) ?_|refine at_call 127 ?_;refine y_call (hc:=(t2 _ _)) ?_|refine at_call 130 ?_;refine y_call (hc:=hn) ?_|refine at_call 81 ?_;refine y_call (hc:=(by first|exact w1|exact w3|exact w4|exact w5|exact w6|exact w7)) ?_|refine at_nil ?_;refine z_nil qo29_0 ?_|refine tc_seq fun K hK=>?_|apply_assumption -exfalso -symm)
  all_goals as_aux_lemma=>first
   |(have k8:=k.2.2.2.2.2.2
     (refine j0 (j6 ?_))
     (repeat (rename (∀ S:Sd,TC _ _ _ S->_)=>hX;clear hX))
     clear c1 c2 c3 c5 t1 t2 hn w1 w3 w4 w5 w6 w7
     have hf:Lx.guMay g=false:=by
      unfold Lx.guMay
      by_cases hz0:g.kind=0
      ·simp[hz0]
      ·have:¬g.kind<=7:=by omega
       simp[this]
     rw[hf]
     first
      |done
      |rfl)
   |((refine j0 (j6 ?_))
     (repeat (rename (∀ S:Sd,TC _ _ _ S->_)=>hX;clear hX))
     clear c1 c2 c3 c5 t1 t2 hn w1 w3 w4 w5 w6 w7
     simp only[oneOf,V.d.injEq,D.bool.injEq]
     rw[Bool.eq_iff_iff]
     simp only[Lx.guMay,Lx.noneB,je6,k,Int.reduceEq,Int.reduceLE,or_self,or_true,true_or,or_false,false_or,if_true,if_false,Lx.each00,ne_eq,not_true_eq_false,not_false_eq_true,decide_true,decide_false,Bool.true_and,Bool.and_true,Bool.false_and,Bool.and_false,Bool.or_false,Bool.false_or,Bool.true_or,Bool.or_true,Bool.and_eq_true,Bool.or_eq_true,decide_eq_true_eq,j9,hz,true_and,and_true,List.length_eq_zero_iff,Bool.false_eq_true,iff_false,false_iff]at *
     first
      |done
      |grind [j9,List.length_eq_zero_iff])
end
end Go.Proofs.YtdopmfifmgkmoaaGreatDoor
