/- Parts: O32, D35. -/
import Derived.Test.YtdopmfifmgkmoaaGreatDoorP48
import Derived.Test.YtdopmfifmgkmoaaGreatDoorP47
import Derived.Test.YtdopmfifmgkmoaaGreatDoorP18
set_option linter.all false
set_option maxRecDepth 100000
set_option maxHeartbeats 16000000
namespace Go.Proofs.YtdopmfifmgkmoaaGreatDoor
open Go.RowKit Go.Proofs.Tryz
section
def qo32_0:List Nat:=[0,1,2,3,4,5,6,9,10,22,41,60,72,93]
attribute [local irreducible] TR TC
theorem mm3 (gl:List (Nat × List D))(s:Sp)(k:s.kind=5):FnD prog gl 131 [.d (dSp s)] (fun v=>v=.d (.bool (Lx.spMay s))):=by
 have q7:=fun a b=>km7 gl s.names a b
 have w4:=kb1 gl (.mk 0 s.type [] s.e s.proto [] []) sp0
 have hz:∀ (a:Int) b c d e f h,eqB (Sp.mk a b c d e f h) sp0=true↔(a=0/\b=ty0/\c=[]/\d=ex0/\e=pt0/\f=[]/\h=[]):=fun a b c d e f h=>by rw[j9];simp[sp0]
 (refine j4 func131 ntmps131 results131 fun w M=>?_)
 (repeat' first|refine tr_at 1 ?_;(refine k7 1 ?_)|refine tr_at 3 ?_;(refine j1 3 ?_)|refine tr_at 10 ?_;refine yyp ?_;try refine s_bu ?_ ?_<;>intro hb|refine tr_at 22 ?_;refine yyp ?_;try refine s_bu ?_ ?_<;>intro hb|refine tr_at 41 ?_;refine yyp ?_;try refine s_bu ?_ ?_<;>intro hb|refine tr_at 60 ?_;refine yyp ?_;try refine s_bu ?_ ?_<;>intro hb|refine tr_at 72 ?_;refine yyp ?_;try refine s_bu ?_ ?_<;>intro hb|refine tr_at 77 ?_;(first|refine yyp ?_;try refine s_bu ?_ ?_<;>intro hb|refine yy2 ?_ ?_<;>intro hcmp);all_goals try refine z_sh false 77 4 qo32_0 ?_|refine tr_at 83 ?_;(first|refine yyp ?_;try refine s_bu ?_ ?_<;>intro hb|refine yy2 ?_ ?_<;>intro hcmp);all_goals try refine z_sh false 83 4 qo32_0 ?_|refine yyp ?_|refine yy ?_|refine yy2 ?_ ?_<;>intro hcmp|refine at_call 166 ?_;refine y_call (hc:=(q7 _ _)) ?_|refine at_nil ?_;refine z_nil qo32_0 ?_|refine tc_seq fun K hK=>?_|apply_assumption -exfalso -symm)
 all_goals refine jl4 1 14 rfl rfl fun hsm=>?_
 all_goals simp only[List.length_map]at hsm
 next=>
  as_aux_lemma=>
   (refine k9 ([9]++[4,5,89,90,91,92,93,94,95,96,97,98,99,100,101,102,103,104]) [] (fun i:Nat=>[(5,.d (.int .i64 i)),(4,.d (.bool ((s.formals.take i).all Lx.foMay)))]) (fun _=>[]) (fun i=>i<=s.formals.length) (fun i=>s.formals.length - i) 0 (Nat.zero_le _) fun i hi=>?_
    dsimp only[List.cons_append,List.nil_append]
    rcases Nat.lt_or_ge i s.formals.length with hi2|hi2
    ·have hfo:=mc8 gl s.formals[i]
     have hnx:(s.formals.take (i+1)).all Lx.foMay=((s.formals.take i).all Lx.foMay && Lx.foMay s.formals[i]):=by rw[<-jj8 _ _ hi2,List.all_append];simp
     (repeat' first|refine yyp ?_;try refine s_bu ?_ ?_<;>intro hb|refine yy ?_|refine at_call 169 ?_;refine y_call (hc:=hfo) ?_;try refine s_bu ?_ ?_<;>intro hb|refine at_nil ?_;refine z_nil qo32_0 ?_|refine tc_seq fun K hK=>?_|apply_assumption -exfalso -symm)
     all_goals
      refine⟨i+1,by omega,by omega,?_⟩
      first
       |(have e:(s.formals.take (i+1)).all Lx.foMay=true:=by rw[hnx];simp only[*,Bool.and_self]
         rw[e]
         exact v7)
       |(have e:(s.formals.take (i+1)).all Lx.foMay=false:=by rw[hnx];simp only[*,Bool.and_false,Bool.false_and]
         rw[e]
         exact v7)
    ·obtain rfl:i=s.formals.length:=by omega
     rw[List.take_length]
     (repeat' first|refine tr_at 109 ?_;(first|refine yyp ?_;try refine s_bu ?_ ?_<;>intro hb|refine yy2 ?_ ?_<;>intro hcmp);all_goals try refine z_sh false 109 2 qo32_0 ?_|refine yyp ?_|refine yy ?_|refine at_call 48 ?_;refine y_call (hc:=(by first|exact w4)) ?_|refine at_nil ?_;refine z_nil qo32_0 ?_|refine tc_seq fun K hK=>?_|apply_assumption -exfalso -symm)
     skip
     all_goals
      (refine j0 (j6 ?_))
      (repeat (rename (∀ S:Sd,TC _ _ _ S->_)=>hX;clear hX))
      clear q7 w4
      simp only[oneOf,V.d.injEq,D.bool.injEq]
      rw[Bool.eq_iff_iff]
      simp only[Lx.spMay,Lx.noneB,Lx.eachB,Lx.hasB,k,Int.reduceEq,or_self,or_true,true_or,or_false,false_or,if_true,if_false,ne_eq,not_true_eq_false,not_false_eq_true,decide_true,decide_false,Bool.true_and,Bool.and_true,Bool.false_and,Bool.and_false,Bool.and_eq_true,decide_eq_true_eq,j9,hz,true_and,and_true,List.length_eq_zero_iff,Bool.false_eq_true,iff_false,false_iff]at *
      first
       |done
       |grind [j9,List.length_eq_zero_iff])
 all_goals as_aux_lemma=>first
  |(refine k9 ([9]++[4,5,89,90,91,92,93,94,95,96,97,98,99,100,101,102,103,104]) [] (fun i:Nat=>[(5,.d (.int .i64 i)),(4,.d (.bool false))]) (fun _=>[]) (fun i=>i<=s.formals.length) (fun i=>s.formals.length - i) 0 (Nat.zero_le _) fun i hi=>?_
    dsimp only[List.cons_append,List.nil_append]
    rcases Nat.lt_or_ge i s.formals.length with hi2|hi2
    ·(repeat' first|refine tr_at 97 ?_;(first|refine yyp ?_;try refine s_bu ?_ ?_<;>intro hb|refine yy2 ?_ ?_<;>intro hcmp);all_goals try refine z_sh false 97 4 qo32_0 ?_|refine yyp ?_;try refine s_bu ?_ ?_<;>intro hb|refine yy ?_|refine at_nil ?_;refine z_nil qo32_0 ?_|refine tc_seq fun K hK=>?_|apply_assumption -exfalso -symm)
     refine⟨i+1,by omega,by omega,v7⟩
    ·obtain rfl:i=s.formals.length:=by omega
     (repeat' first|refine tr_at 109 ?_;(first|refine yyp ?_;try refine s_bu ?_ ?_<;>intro hb|refine yy2 ?_ ?_<;>intro hcmp);all_goals try refine z_sh false 109 2 qo32_0 ?_|refine yyp ?_;try refine s_bu ?_ ?_<;>intro hb|refine yy ?_|refine at_nil ?_;refine z_nil qo32_0 ?_|refine tc_seq fun K hK=>?_|apply_assumption -exfalso -symm)
     (refine j0 (j6 ?_))
     (repeat (rename (∀ S:Sd,TC _ _ _ S->_)=>hX;clear hX))
     clear q7 w4
     simp only[oneOf,V.d.injEq,D.bool.injEq]
     symm
     rw[Bool.eq_false_iff]
     simp only[Lx.spMay,Lx.noneB,Lx.eachB,Lx.hasB,k,Int.reduceEq,or_self,or_true,true_or,or_false,false_or,if_true,if_false,ne_eq,not_true_eq_false,not_false_eq_true,decide_true,decide_false,Bool.true_and,Bool.and_true,Bool.false_and,Bool.and_false,Bool.and_eq_true,decide_eq_true_eq,j9,hz,true_and,and_true,List.length_eq_zero_iff,Bool.false_eq_true,iff_false,false_iff]at *
     first
      |done
      |grind [j9,List.length_eq_zero_iff])
theorem my8 (gl:List (Nat × List D))(s:Sp)(h5:s.kind≠5):FnD prog gl 131 [.d (dSp s)] (fun v=>v=.d (.bool (Lx.spMay s))):=by
 have q1:=jw4 gl s.type
 have q2:=km6 gl s.type
 have q3:=jf0 gl s.e
 have q4:=x3 gl s.e
 have q5:=mm2 gl s.proto
 have q7:=fun a b=>km7 gl s.names a b
 have w1:=kb1 gl (.mk 0 ty0 [] s.e s.proto s.formals s.body) sp0
 have w2:=kb1 gl (.mk 0 ty0 [] ex0 s.proto s.formals s.body) sp0
 have w3:=kb1 gl (.mk 0 s.type [] s.e pt0 s.formals s.body) sp0
 have hz:∀ (a:Int) b c d e f h,eqB (Sp.mk a b c d e f h) sp0=true↔(a=0/\b=ty0/\c=[]/\d=ex0/\e=pt0/\f=[]/\h=[]):=fun a b c d e f h=>by rw[j9];simp[sp0]
 simp only[r9]at q3 q4
 rcases(by omega:s.kind=1\/s.kind=2\/s.kind=3\/s.kind=4\/(s.kind≠1/\s.kind≠2/\s.kind≠3/\s.kind≠4)) with k|k|k|k|k
 all_goals as_aux_lemma=>
  (refine j4 func131 ntmps131 results131 fun w M=>?_)
  (repeat' first|refine tr_at 1 ?_;(refine k7 1 ?_)|refine tr_at 3 ?_;(refine j1 3 ?_)|refine tr_at 10 ?_;refine yyp ?_;try refine s_bu ?_ ?_<;>intro hb|refine tr_at 15 ?_;(first|refine yyp ?_;try refine s_bu ?_ ?_<;>intro hb|refine yy2 ?_ ?_<;>intro hcmp);all_goals try refine z_sh false 15 4 qo32_0 ?_|refine tr_at 20 ?_;refine z_p w_buildn ?_|refine tr_at 22 ?_;refine yyp ?_;try refine s_bu ?_ ?_<;>intro hb|refine tr_at 27 ?_;(first|refine yyp ?_;try refine s_bu ?_ ?_<;>intro hb|refine yy2 ?_ ?_<;>intro hcmp);all_goals try refine z_sh false 27 4 qo32_0 ?_|refine tr_at 32 ?_;(first|refine yyp ?_;try refine s_bu ?_ ?_<;>intro hb|refine yy2 ?_ ?_<;>intro hcmp);all_goals try refine z_sh false 32 4 qo32_0 ?_|refine tr_at 37 ?_;refine z_p w_buildn ?_|refine tr_at 39 ?_;refine z_p w_buildn ?_|refine tr_at 41 ?_;refine yyp ?_;try refine s_bu ?_ ?_<;>intro hb|refine tr_at 46 ?_;(first|refine yyp ?_;try refine s_bu ?_ ?_<;>intro hb|refine yy2 ?_ ?_<;>intro hcmp);all_goals try refine z_sh false 46 4 qo32_0 ?_|refine tr_at 51 ?_;(first|refine yyp ?_;try refine s_bu ?_ ?_<;>intro hb|refine yy2 ?_ ?_<;>intro hcmp);all_goals try refine z_sh false 51 4 qo32_0 ?_|refine tr_at 56 ?_;refine z_p w_buildn ?_|refine tr_at 58 ?_;refine z_p w_buildn ?_|refine tr_at 60 ?_;refine yyp ?_;try refine s_bu ?_ ?_<;>intro hb|refine tr_at 65 ?_;(first|refine yyp ?_;try refine s_bu ?_ ?_<;>intro hb|refine yy2 ?_ ?_<;>intro hcmp);all_goals try refine z_sh false 65 4 qo32_0 ?_|refine tr_at 70 ?_;refine z_p w_buildn ?_|refine tr_at 72 ?_;refine yyp ?_;try refine s_bu ?_ ?_<;>intro hb|refine tr_at 109 ?_;(first|refine yyp ?_;try refine s_bu ?_ ?_<;>intro hb|refine yy2 ?_ ?_<;>intro hcmp);all_goals try refine z_sh false 109 2 qo32_0 ?_|refine yyp ?_|refine yy ?_|refine at_call 165 ?_;refine y_call (hc:=q1) ?_|refine at_call 166 ?_;refine y_call (hc:=(q7 _ _)) ?_|refine at_call 167 ?_;refine y_call (hc:=q2) ?_|refine at_call 160 ?_;refine y_call (hc:=q3) ?_|refine at_call 128 ?_;refine y_call (hc:=q4) ?_|refine at_call 168 ?_;refine y_call (hc:=q5) ?_|refine at_call 48 ?_;refine y_call (hc:=(by first|exact w1|exact w2|exact w3)) ?_|refine at_nil ?_;refine z_nil qo32_0 ?_|refine tc_seq fun K hK=>?_|apply_assumption -exfalso -symm)
  all_goals
   (refine j0 (j6 ?_))
   (repeat (rename (∀ S:Sd,TC _ _ _ S->_)=>hX;clear hX))
   clear q1 q2 q3 q4 q5 q7 w1 w2 w3
   simp only[oneOf,V.d.injEq,D.bool.injEq]
   rw[Bool.eq_iff_iff]
   simp only[Lx.spMay,Lx.noneB,k,h5,Int.reduceEq,or_self,or_true,true_or,or_false,false_or,if_true,if_false,ne_eq,not_true_eq_false,not_false_eq_true,decide_true,decide_false,Bool.true_and,Bool.and_true,Bool.false_and,Bool.and_false,Bool.and_eq_true,decide_eq_true_eq,j9,hz,true_and,and_true,List.length_eq_zero_iff,Bool.false_eq_true,iff_false,false_iff]at *
   first
    |done
    |grind [j9,List.length_eq_zero_iff]
theorem y9 (gl:List (Nat × List D))(s:Sp):FnD prog gl 131 [.d (dSp s)] (fun v=>v=.d (.bool (Lx.spMay s))):=by
 by_cases h:s.kind=5
 ·exact mm3 gl s h
 ·exact my8 gl s h
end
section
section
variable {E:Set}{S:Sd}{Q:Exit->Sd->Prop}{ops:Array Oper}{draw:Bool}{rest:Todo}{way:Way3}{ty:TypeId}{pos:String}{af:Array Edge}{gd:Option (Nat × Bool)}
end
end
end Go.Proofs.YtdopmfifmgkmoaaGreatDoor
