/- Parts. -/
import Derived.Test.YtklklgfpkpglgaaGreatDoorQ38
set_option linter.all false
set_option maxRecDepth 100000
set_option maxHeartbeats 0
namespace Go.Proofs.YtklklgfpkpglgaaGreatDoor
open Go.RowKit Go.Proofs.Tryz Lx
section
def Pg:List Nat:=[0,1,2,3,4,5,6,18,19,27,45,64,70,72]
attribute [local irreducible] TR TC
theorem qb4 (gl:List (Nat × List D))(g:Gu)(h0:0<=g.kind):FnD prog gl 143 [.d (dGu g)] (λv=>v=.d (.bool (Jr g))):=by
 have c1:=jf9 gl g.cond;have c2:=kl4 gl g.cond;have c3:=x3 gl g.av;have c5:=jf9 gl g.time;have t1:=λa b=>v8 gl g.aj a b;have t2:=λa b=>y5 gl g.values a b;have hn:=x7 gl g.name;have w1:=jr6 gl (.mk 0 g.name ex0 g.av g.aj g.values g.time []) gu0;have w3:=jr6 gl (.mk 0 g.name ex0 ex0 [] g.values g.time []) gu0;have w4:=jr6 gl (.mk 0 g.name ex0 ex0 g.aj g.values ex0 []) gu0;have w5:=jr6 gl (.mk 0 g.name g.cond g.av g.aj [] g.time []) gu0;have w6:=jr6 gl (.mk 0 g.name g.cond g.av g.aj g.values g.time []) gu0;have w7:=jr6 gl (.mk 0 ByteArray.empty g.cond g.av [] g.values g.time []) gu0;have hz:∀ (a:Int) b c d e f h i,eqB (Gu.mk a b c d e f h i) gu0=true↔(a=0/\b=ByteArray.empty/\c=ex0/\d=ex0/\e=[]/\f=[]/\h=ex0/\i=[]):=λa b c d e f h i=>by rw[j9];simp[gu0]
 simp only[r8]at c1 c2 c3 c5;rw[jb7]at w1 w3 w4 w5 w6 w7 ⊢;have hk:∀ n:Int,g.kind=n\/¬g.kind=n:=λn=>Decidable.em _;rcases(by omega:g.kind=1\/g.kind=2\/g.kind=3\/g.kind=4\/g.kind=5\/g.kind=6\/g.kind=7\/(g.kind≠1/\g.kind≠2/\g.kind≠3/\g.kind≠4/\g.kind≠5/\g.kind≠6/\g.kind≠7)) with k|k|k|k|k|k|k|k
 all_goals as_aux_lemma=>
  (refine j4 func143 ntmps143 results143 λw M=>?_)
  (repeat' first|apply Ca 1;(refine Ck 1 ?_)|apply Ca 3;(refine j2 3 ?_)|refine zas [12,30,35,48,53,77,85,91] ?_;(first|refine yyp ?_;try refine Ce ?_ ?_<;>intro hb|refine yy2 ?_ ?_<;>intro hcmp);all_goals try (first|refine Dj true 12 5 Pg ?_|refine Dj false 30 4 Pg ?_|refine Dj false 35 4 Pg ?_|refine Dj false 48 4 Pg ?_|refine Dj false 53 4 Pg ?_|refine Dj false 77 4 Pg ?_|refine Dj false 85 2 Pg ?_|refine Dj false 91 2 Pg ?_)|apply Ca 19;refine yyp ?_;try refine Ce ?_ ?_<;>intro hb|apply Ca 25;refine z_p Cu ?_|apply Ca 27;refine yyp ?_;try refine Ce ?_ ?_<;>intro hb|apply Ca 40;refine z_p Cu ?_|apply Ca 42;refine z_p Cu ?_|apply Ca 45;refine yyp ?_;try refine Ce ?_ ?_<;>intro hb|apply Ca 58;refine z_p Cu ?_|apply Ca 60;refine z_p Cu ?_|apply Ca 62;refine z_p Cu ?_|apply Ca 64;refine yyp ?_;try refine Ce ?_ ?_<;>intro hb|apply Ca 70;refine yyp ?_;try refine Ce ?_ ?_<;>intro hb|apply Ca 72;refine yyp ?_;try refine Ce ?_ ?_<;>intro hb|refine yyp ?_|refine yy ?_|refine yy2 ?_ ?_<;>intro hcmp|apply Cf 153;refine Ci (hc:=c2) ?_|apply Cf 16;refine Ci (hc:=(by first|exact c1|exact c5)) ?_|apply Cf 110;refine Ci (hc:=c3) ?_|apply Cf 108;refine Ci (hc:=(t1 _ _)) ?_|apply Cf 109;refine Ci (hc:=(t2 _ _)) ?_|apply Cf 112;refine Ci (hc:=hn) ?_|apply Cf 183;refine Ci (hc:=(by first|exact w1|exact w3|exact w4|exact w5|exact w6|exact w7)) ?_|apply ah;refine Cc Pg ?_|refine Cb λK hK=>?_|apply_assumption -exfalso -symm)
  all_goals as_aux_lemma=>first
   |(have k8:=k.2.2.2.2.2.2
     (refine j1 (j7 ?_))
     (repeat (rename (∀ S,TC _ _ _ S->_)=>hX;clear hX))
     clear c1 c2 c3 c5 t1 t2 hn w1 w3 w4 w5 w6 w7;have hf:Jr g=false:=by
      unfold Jr;by_cases hz0:g.kind=0
      ·simp[hz0]
      ·have:¬g.kind<=7:=by omega
       simp[this]
     rw[hf]
     first
      |done
      |rfl)
   |((refine j1 (j7 ?_))
     (repeat (rename (∀ S,TC _ _ _ S->_)=>hX;clear hX))
     clear c1 c2 c3 c5 t1 t2 hn w1 w3 w4 w5 w6 w7;simp only[aF,At,Am];rw[Ej];simp only[Jr,Ip,jf5,k,Int.reduceEq,Int.reduceLE,or_self,or_true,true_or,or_false,false_or,if_true,if_false,Jz,ne_eq,not_true_eq_false,not_false_eq_true,decide_true,decide_false,Bf,Bu,As,Be,Ec,Ee,Ef,Eh,Aa,Bn,Ah,j9,hz,true_and,and_true,Em,Bb,iff_false,false_iff]at *
     first
      |done
      |grind [j9,Em])
end
end Go.Proofs.YtklklgfpkpglgaaGreatDoor
