/- Parts. -/
import Derived.Test.YtklklgfpkpglgaaGreatDoorW37
import Derived.Test.YtklklgfpkpglgaaGreatDoorW23
set_option linter.all false
set_option maxRecDepth 100000
set_option maxHeartbeats 0
namespace Go.Proofs.YtklklgfpkpglgaaGreatDoor
open Go.RowKit Go.Proofs.Tryz Lx
section
def Pq:List Nat:=[0,1,2,3,4,5,6,18,19,27,45,64,70,72]
attribute [local irreducible] TR TC
theorem mw9 (gl:List (Nat × List D))(g:Gu)(h0:0<=g.kind):FnD prog gl 143 [.d (dGu g)] (λv=>v=.d (.bool (Jw g))):=by
 have c1:=je4 gl g.cond;have c2:=kk8 gl g.cond;have c3:=x3 gl g.av;have c5:=je4 gl g.time;have t1:=λa b=>v8 gl g.aj a b;have t2:=λa b=>y6 gl g.values a b;have hn:=x9 gl g.name;have w1:=js7 gl (.mk 0 g.name ex0 g.av g.aj g.values g.time []) gu0;have w3:=js7 gl (.mk 0 g.name ex0 ex0 [] g.values g.time []) gu0;have w4:=js7 gl (.mk 0 g.name ex0 ex0 g.aj g.values ex0 []) gu0;have w5:=js7 gl (.mk 0 g.name g.cond g.av g.aj [] g.time []) gu0;have w6:=js7 gl (.mk 0 g.name g.cond g.av g.aj g.values g.time []) gu0;have w7:=js7 gl (.mk 0 ByteArray.empty g.cond g.av [] g.values g.time []) gu0;have hz:∀ (a:Int) b c d e f h i,eqB (Gu.mk a b c d e f h i) gu0=true↔(a=0/\b=ByteArray.empty/\c=ex0/\d=ex0/\e=[]/\f=[]/\h=ex0/\i=[]):=λa b c d e f h i=>by rw[r8];simp[gu0]
 simp only[k9]at c1 c2 c3 c5;rw[jb9]at w1 w3 w4 w5 w6 w7 ⊢;have hk:∀ n:Int,g.kind=n\/¬g.kind=n:=λn=>Decidable.em _;rcases(by omega:g.kind=1\/g.kind=2\/g.kind=3\/g.kind=4\/g.kind=5\/g.kind=6\/g.kind=7\/(g.kind≠1/\g.kind≠2/\g.kind≠3/\g.kind≠4/\g.kind≠5/\g.kind≠6/\g.kind≠7)) with k|k|k|k|k|k|k|k
 all_goals as_aux_lemma=>
  (refine j5 func143 ntmps143 results143 λw M=>?_)
  (repeat' first|apply Ca 1;(refine Cm 1 ?_)|apply Ca 3;(refine j3 3 ?_)|refine zas [12,30,35,48,53,77,85,91] ?_;(first|refine yyp ?_;try refine Ce ?_ ?_<;>intro hb|refine yy2 ?_ ?_<;>intro hcmp);all_goals try (first|refine Dl true 12 5 Pq ?_|refine Dl false 30 4 Pq ?_|refine Dl false 35 4 Pq ?_|refine Dl false 48 4 Pq ?_|refine Dl false 53 4 Pq ?_|refine Dl false 77 4 Pq ?_|refine Dl false 85 2 Pq ?_|refine Dl false 91 2 Pq ?_)|apply Ca 19;refine yyp ?_;try refine Ce ?_ ?_<;>intro hb|apply Ca 25;refine z_p Cq ?_|apply Ca 27;refine yyp ?_;try refine Ce ?_ ?_<;>intro hb|apply Ca 40;refine z_p Cq ?_|apply Ca 42;refine z_p Cq ?_|apply Ca 45;refine yyp ?_;try refine Ce ?_ ?_<;>intro hb|apply Ca 58;refine z_p Cq ?_|apply Ca 60;refine z_p Cq ?_|apply Ca 62;refine z_p Cq ?_|apply Ca 64;refine yyp ?_;try refine Ce ?_ ?_<;>intro hb|apply Ca 70;refine yyp ?_;try refine Ce ?_ ?_<;>intro hb|apply Ca 72;refine yyp ?_;try refine Ce ?_ ?_<;>intro hb|refine yyp ?_|refine yy ?_|refine yy2 ?_ ?_<;>intro hcmp|apply Cg 153;refine Ci (hc:=c2) ?_|apply Cg 16;refine Ci (hc:=(by first|exact c1|exact c5)) ?_|apply Cg 110;refine Ci (hc:=c3) ?_|apply Cg 108;refine Ci (hc:=(t1 _ _)) ?_|apply Cg 109;refine Ci (hc:=(t2 _ _)) ?_|apply Cg 112;refine Ci (hc:=hn) ?_|apply Cg 183;refine Ci (hc:=(by first|exact w1|exact w3|exact w4|exact w5|exact w6|exact w7)) ?_|apply ah;refine Cc Pq ?_|refine Cb λK hK=>?_|apply_assumption -exfalso -symm)
  all_goals as_aux_lemma=>first
   |(have k8:=k.2.2.2.2.2.2
     (refine j1 (j8 ?_))
     (repeat (rename (∀ S,TC _ _ _ S->_)=>hX;clear hX))
     clear c1 c2 c3 c5 t1 t2 hn w1 w3 w4 w5 w6 w7;have hf:Jw g=false:=by
      unfold Jw;by_cases hz0:g.kind=0
      ·simp[hz0]
      ·have:¬g.kind<=7:=by omega
       simp[this]
     rw[hf]
     first
      |done
      |rfl)
   |((refine j1 (j8 ?_))
     (repeat (rename (∀ S,TC _ _ _ S->_)=>hX;clear hX))
     clear c1 c2 c3 c5 t1 t2 hn w1 w3 w4 w5 w6 w7;simp only[aF,Aw,Aq];rw[En];simp only[Jw,Iy,jf7,k,Int.reduceEq,Int.reduceLE,or_self,or_true,true_or,or_false,false_or,if_true,if_false,Kc,ne_eq,not_true_eq_false,not_false_eq_true,decide_true,decide_false,Bf,Bt,Ay,Bc,Ed,Ef,Eg,Eh,Ab,Bq,Aj,r8,hz,true_and,and_true,Eo,Az,iff_false,false_iff]at *
     first
      |done
      |grind [r8,Eo])
end
section
def vi6:List Nat:=[0,1,4,5,6,7,9,17]
section
variable {E:Set}{S:Sd}{dst:Option Tmp}{ty:TypeId}{pos:String}{af:Array Edge}{gd:Option (Nat × Bool)}
end
section
variable {E:Set}{Q:Exit->Sd->Prop}{ops:Array Oper}{draw:Bool}{rest:Todo}{way:Jj}{ty:TypeId}{pos:String}{af:Array Edge}{gd:Option (Nat × Bool)}
variable {env:List (Nat × V)}{H:List (Nat × Ob)}{gl:List (Nat × List D)}{d:Nat}
end
attribute [local irreducible] TR TC
end
end Go.Proofs.YtklklgfpkpglgaaGreatDoor
