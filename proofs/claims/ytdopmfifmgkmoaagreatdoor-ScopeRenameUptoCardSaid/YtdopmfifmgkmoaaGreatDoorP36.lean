/- Parts: O29. -/
import Derived.Test.YtdopmfifmgkmoaaGreatDoorP35
set_option linter.all false
set_option maxRecDepth 100000
set_option maxHeartbeats 16000000
namespace Go.Proofs.YtdopmfifmgkmoaaGreatDoor
open Go.RowKit Go.Proofs.Tryz
section
def Ph:List Nat:=[0,1,2,3,4,5,6,18,19,27,45,64,70,72]
attribute [local irreducible] TR TC
theorem mr2 (gl:List (Nat × List D))(g:Gu)(h0:0<=g.kind):FnD prog gl 161 [.d (dGu g)] (fun v=>v=.d (.bool (Lx.Lh g))):=by
 have c1:=jf5 gl g.cond;have c2:=kh9 gl g.cond;have c3:=x6 gl g.chan;have c5:=jf5 gl g.time;have t1:=fun a b=>x3 gl g.targets a b;have t2:=fun a b=>y8 gl g.values a b;have hn:=y3 gl g.name;have w1:=jq4 gl (.mk 0 g.name ex0 g.chan g.targets g.values g.time []) gu0;have w3:=jq4 gl (.mk 0 g.name ex0 ex0 [] g.values g.time []) gu0;have w4:=jq4 gl (.mk 0 g.name ex0 ex0 g.targets g.values ex0 []) gu0;have w5:=jq4 gl (.mk 0 g.name g.cond g.chan g.targets [] g.time []) gu0;have w6:=jq4 gl (.mk 0 g.name g.cond g.chan g.targets g.values g.time []) gu0;have w7:=jq4 gl (.mk 0 ByteArray.empty g.cond g.chan [] g.values g.time []) gu0;have hz:∀ (a:Int) b c d e f h i,eqB (Gu.mk a b c d e f h i) gu0=true↔(a=0/\b=ByteArray.empty/\c=ex0/\d=ex0/\e=[]/\f=[]/\h=ex0/\i=[]):=fun a b c d e f h i=>by rw[k7];simp[gu0]
 simp only[r9]at c1 c2 c3 c5;rw[je9]at w1 w3 w4 w5 w6 w7 ⊢;have hk:∀ n:Int,g.kind=n\/¬g.kind=n:=fun n=>Decidable.em _;rcases(by omega:g.kind=1\/g.kind=2\/g.kind=3\/g.kind=4\/g.kind=5\/g.kind=6\/g.kind=7\/(g.kind≠1/\g.kind≠2/\g.kind≠3/\g.kind≠4/\g.kind≠5/\g.kind≠6/\g.kind≠7)) with k|k|k|k|k|k|k|k
 all_goals as_aux_lemma=>
  (refine j3 func161 ntmps161 results161 fun w M=>?_)
  (repeat' first|refine Ca 1 ?_;(refine j6 1 ?_)|refine Ca 3 ?_;(refine Cj 3 ?_)|refine Ca 12 ?_;(first|refine yyp ?_;try refine Cc ?_ ?_<;>intro hb|refine yy2 ?_ ?_<;>intro hcmp);all_goals try refine Db true 12 5 Ph ?_|refine Ca 19 ?_;refine yyp ?_;try refine Cc ?_ ?_<;>intro hb|refine Ca 25 ?_;refine z_p Cr ?_|refine Ca 27 ?_;refine yyp ?_;try refine Cc ?_ ?_<;>intro hb|refine Ca 30 ?_;(first|refine yyp ?_;try refine Cc ?_ ?_<;>intro hb|refine yy2 ?_ ?_<;>intro hcmp);all_goals try refine Db false 30 4 Ph ?_|refine Ca 35 ?_;(first|refine yyp ?_;try refine Cc ?_ ?_<;>intro hb|refine yy2 ?_ ?_<;>intro hcmp);all_goals try refine Db false 35 4 Ph ?_|refine Ca 40 ?_;refine z_p Cr ?_|refine Ca 42 ?_;refine z_p Cr ?_|refine Ca 45 ?_;refine yyp ?_;try refine Cc ?_ ?_<;>intro hb|refine Ca 48 ?_;(first|refine yyp ?_;try refine Cc ?_ ?_<;>intro hb|refine yy2 ?_ ?_<;>intro hcmp);all_goals try refine Db false 48 4 Ph ?_|refine Ca 53 ?_;(first|refine yyp ?_;try refine Cc ?_ ?_<;>intro hb|refine yy2 ?_ ?_<;>intro hcmp);all_goals try refine Db false 53 4 Ph ?_|refine Ca 58 ?_;refine z_p Cr ?_|refine Ca 60 ?_;refine z_p Cr ?_|refine Ca 62 ?_;refine z_p Cr ?_|refine Ca 64 ?_;refine yyp ?_;try refine Cc ?_ ?_<;>intro hb|refine Ca 70 ?_;refine yyp ?_;try refine Cc ?_ ?_<;>intro hb|refine Ca 72 ?_;refine yyp ?_;try refine Cc ?_ ?_<;>intro hb|refine Ca 77 ?_;(first|refine yyp ?_;try refine Cc ?_ ?_<;>intro hb|refine yy2 ?_ ?_<;>intro hcmp);all_goals try refine Db false 77 4 Ph ?_|refine Ca 85 ?_;(first|refine yyp ?_;try refine Cc ?_ ?_<;>intro hb|refine yy2 ?_ ?_<;>intro hcmp);all_goals try refine Db false 85 2 Ph ?_|refine Ca 91 ?_;(first|refine yyp ?_;try refine Cc ?_ ?_<;>intro hb|refine yy2 ?_ ?_<;>intro hcmp);all_goals try refine Db false 91 2 Ph ?_|refine yyp ?_|refine yy ?_|refine yy2 ?_ ?_<;>intro hcmp|refine Cf 170 ?_;refine Cg (hc:=c2) ?_|refine Cf 160 ?_;refine Cg (hc:=(by first|exact c1|exact c5)) ?_|refine Cf 128 ?_;refine Cg (hc:=c3) ?_|refine Cf 126 ?_;refine Cg (hc:=(t1 _ _)) ?_|refine Cf 127 ?_;refine Cg (hc:=(t2 _ _)) ?_|refine Cf 130 ?_;refine Cg (hc:=hn) ?_|refine Cf 81 ?_;refine Cg (hc:=(by first|exact w1|exact w3|exact w4|exact w5|exact w6|exact w7)) ?_|refine at_nil ?_;refine Ce Ph ?_|refine Cb fun K hK=>?_|apply_assumption -exfalso -symm)
  all_goals as_aux_lemma=>first
   |(have k8:=k.2.2.2.2.2.2
     (refine j0 (j5 ?_))
     (repeat (rename (∀ S:Sd,TC _ _ _ S->_)=>hX;clear hX))
     clear c1 c2 c3 c5 t1 t2 hn w1 w3 w4 w5 w6 w7;have hf:Lx.Lh g=false:=by
      unfold Lx.Lh;by_cases hz0:g.kind=0
      ·simp[hz0]
      ·have:¬g.kind<=7:=by omega
       simp[this]
     rw[hf]
     first
      |done
      |rfl)
   |((refine j0 (j5 ?_))
     (repeat (rename (∀ S:Sd,TC _ _ _ S->_)=>hX;clear hX))
     clear c1 c2 c3 c5 t1 t2 hn w1 w3 w4 w5 w6 w7;simp only[oneOf,Ax,An];rw[Ej];simp only[Lx.Lh,Lx.Jm,jf0,k,Int.reduceEq,Int.reduceLE,or_self,or_true,true_or,or_false,false_or,if_true,if_false,Lx.Jy,ne_eq,not_true_eq_false,not_false_eq_true,decide_true,decide_false,Bc,Bn,Av,Az,Ea,Ed,Ee,Eh,Ab,Bo,Al,k7,hz,true_and,and_true,El,Ay,iff_false,false_iff]at *
     first
      |done
      |grind [k7,El])
end
end Go.Proofs.YtdopmfifmgkmoaaGreatDoor
