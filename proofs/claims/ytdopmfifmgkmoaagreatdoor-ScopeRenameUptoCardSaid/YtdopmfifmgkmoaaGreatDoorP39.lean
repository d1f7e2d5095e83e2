/- Parts: O32, O33, D35. -/
import Derived.Test.YtdopmfifmgkmoaaGreatDoorP38
import Derived.Test.YtdopmfifmgkmoaaGreatDoorP37
set_option linter.all false
set_option maxRecDepth 100000
set_option maxHeartbeats 16000000
namespace Go.Proofs.YtdopmfifmgkmoaaGreatDoor
open Go.RowKit Go.Proofs.Tryz
section
def Kg:List Nat:=[0,1,2,3,4,5,6,9,10,22,41,60,72,93]
attribute [local irreducible] TR TC
theorem mr5 (gl:List (Nat × List D))(s:Sp)(k:s.kind=5):FnD prog gl 131 [.d (dSp s)] (fun v=>v=.d (.bool (Lx.Jf s))):=by
 have q7:=fun a b=>ko7 gl s.names a b;have w4:=kc9 gl (.mk 0 s.type [] s.e s.proto [] []) sp0;have hz:∀ (a:Int) b c d e f h,eqB (Sp.mk a b c d e f h) sp0=true↔(a=0/\b=ty0/\c=[]/\d=ex0/\e=pt0/\f=[]/\h=[]):=fun a b c d e f h=>by rw[k7];simp[sp0]
 (refine j3 func131 ntmps131 results131 fun w M=>?_)
 (repeat' first|refine Ca 1 ?_;(refine j6 1 ?_)|refine Ca 3 ?_;(refine Cj 3 ?_)|refine Ca 10 ?_;refine yyp ?_;try refine Cc ?_ ?_<;>intro hb|refine Ca 22 ?_;refine yyp ?_;try refine Cc ?_ ?_<;>intro hb|refine Ca 41 ?_;refine yyp ?_;try refine Cc ?_ ?_<;>intro hb|refine Ca 60 ?_;refine yyp ?_;try refine Cc ?_ ?_<;>intro hb|refine Ca 72 ?_;refine yyp ?_;try refine Cc ?_ ?_<;>intro hb|refine Ca 77 ?_;(first|refine yyp ?_;try refine Cc ?_ ?_<;>intro hb|refine yy2 ?_ ?_<;>intro hcmp);all_goals try refine Db false 77 4 Kg ?_|refine Ca 83 ?_;(first|refine yyp ?_;try refine Cc ?_ ?_<;>intro hb|refine yy2 ?_ ?_<;>intro hcmp);all_goals try refine Db false 83 4 Kg ?_|refine yyp ?_|refine yy ?_|refine yy2 ?_ ?_<;>intro hcmp|refine Cf 166 ?_;refine Cg (hc:=(q7 _ _)) ?_|refine at_nil ?_;refine Ce Kg ?_|refine Cb fun K hK=>?_|apply_assumption -exfalso -symm)
 all_goals refine jn1 1 14 rfl rfl fun hsm=>?_
 all_goals simp only[Aa]at hsm
 next=>
  as_aux_lemma=>
   (refine j8 ([9]++[4,5,89,90,91,92,93,94,95,96,97,98,99,100,101,102,103,104]) [] (fun i:Nat=>[(5,.d (.int .i64 i)),(4,.d (.bool ((s.formals.take i).all Lx.Mg)))]) (fun _=>[]) (fun i=>i<=s.formals.length) (fun i=>s.formals.length - i) 0 (Ak _) fun i hi=>?_
    dsimp only[Ac,Ad];rcases Ah i s.formals.length with hi2|hi2
    ·have hfo:=mg8 gl s.formals[i];have hnx:(s.formals.take (i+1)).all Lx.Mg=((s.formals.take i).all Lx.Mg && Lx.Mg s.formals[i]):=by rw[<-ja3 _ _ hi2,List.all_append];simp
     (repeat' first|refine yyp ?_;try refine Cc ?_ ?_<;>intro hb|refine yy ?_|refine Cf 169 ?_;refine Cg (hc:=hfo) ?_;try refine Cc ?_ ?_<;>intro hb|refine at_nil ?_;refine Ce Kg ?_|refine Cb fun K hK=>?_|apply_assumption -exfalso -symm)
     all_goals
      refine⟨i+1,by omega,by omega,?_⟩
      first
       |(have e:(s.formals.take (i+1)).all Lx.Mg=true:=by rw[hnx];simp only[*,Bool.and_self]
         rw[e];exact v6)
       |(have e:(s.formals.take (i+1)).all Lx.Mg=false:=by rw[hnx];simp only[*,Az,Av]
         rw[e];exact v6)
    ·obtain rfl:i=s.formals.length:=by omega
     rw[Au]
     (repeat' first|refine Ca 109 ?_;(first|refine yyp ?_;try refine Cc ?_ ?_<;>intro hb|refine yy2 ?_ ?_<;>intro hcmp);all_goals try refine Db false 109 2 Kg ?_|refine yyp ?_|refine yy ?_|refine Cf 48 ?_;refine Cg (hc:=(by first|exact w4)) ?_|refine at_nil ?_;refine Ce Kg ?_|refine Cb fun K hK=>?_|apply_assumption -exfalso -symm)
     skip
     all_goals
      (refine j0 (j5 ?_))
      (repeat (rename (∀ S:Sd,TC _ _ _ S->_)=>hX;clear hX))
      clear q7 w4;simp only[oneOf,Ax,An];rw[Ej];simp only[Lx.Jf,Lx.Jm,Lx.Da,Lx.hasB,k,Int.reduceEq,or_self,or_true,true_or,or_false,false_or,if_true,if_false,ne_eq,not_true_eq_false,not_false_eq_true,decide_true,decide_false,Bc,Bn,Av,Az,Ab,Al,k7,hz,true_and,and_true,El,Ay,iff_false,false_iff]at *
      first
       |done
       |grind [k7,El])
 all_goals as_aux_lemma=>first
  |(refine j8 ([9]++[4,5,89,90,91,92,93,94,95,96,97,98,99,100,101,102,103,104]) [] (fun i:Nat=>[(5,.d (.int .i64 i)),(4,.d (.bool false))]) (fun _=>[]) (fun i=>i<=s.formals.length) (fun i=>s.formals.length - i) 0 (Ak _) fun i hi=>?_
    dsimp only[Ac,Ad];rcases Ah i s.formals.length with hi2|hi2
    ·(repeat' first|refine Ca 97 ?_;(first|refine yyp ?_;try refine Cc ?_ ?_<;>intro hb|refine yy2 ?_ ?_<;>intro hcmp);all_goals try refine Db false 97 4 Kg ?_|refine yyp ?_;try refine Cc ?_ ?_<;>intro hb|refine yy ?_|refine at_nil ?_;refine Ce Kg ?_|refine Cb fun K hK=>?_|apply_assumption -exfalso -symm)
     refine⟨i+1,by omega,by omega,v6⟩
    ·obtain rfl:i=s.formals.length:=by omega
     (repeat' first|refine Ca 109 ?_;(first|refine yyp ?_;try refine Cc ?_ ?_<;>intro hb|refine yy2 ?_ ?_<;>intro hcmp);all_goals try refine Db false 109 2 Kg ?_|refine yyp ?_;try refine Cc ?_ ?_<;>intro hb|refine yy ?_|refine at_nil ?_;refine Ce Kg ?_|refine Cb fun K hK=>?_|apply_assumption -exfalso -symm)
     (refine j0 (j5 ?_))
     (repeat (rename (∀ S:Sd,TC _ _ _ S->_)=>hX;clear hX))
     clear q7 w4;simp only[oneOf,Ax,An];symm;rw[Bool.eq_false_iff];simp only[Lx.Jf,Lx.Jm,Lx.Da,Lx.hasB,k,Int.reduceEq,or_self,or_true,true_or,or_false,false_or,if_true,if_false,ne_eq,not_true_eq_false,not_false_eq_true,decide_true,decide_false,Bc,Bn,Av,Az,Ab,Al,k7,hz,true_and,and_true,El,Ay,iff_false,false_iff]at *
     first
      |done
      |grind [k7,El])
theorem qe5 (gl:List (Nat × List D))(s:Sp)(h5:s.kind≠5):FnD prog gl 131 [.d (dSp s)] (fun v=>v=.d (.bool (Lx.Jf s))):=by
 have q1:=jx9 gl s.type;have q2:=ko6 gl s.type;have q3:=jf5 gl s.e;have q4:=x6 gl s.e;have q5:=mr4 gl s.proto;have q7:=fun a b=>ko7 gl s.names a b;have w1:=kc9 gl (.mk 0 ty0 [] s.e s.proto s.formals s.body) sp0;have w2:=kc9 gl (.mk 0 ty0 [] ex0 s.proto s.formals s.body) sp0;have w3:=kc9 gl (.mk 0 s.type [] s.e pt0 s.formals s.body) sp0;have hz:∀ (a:Int) b c d e f h,eqB (Sp.mk a b c d e f h) sp0=true↔(a=0/\b=ty0/\c=[]/\d=ex0/\e=pt0/\f=[]/\h=[]):=fun a b c d e f h=>by rw[k7];simp[sp0]
 simp only[r9]at q3 q4;rcases(by omega:s.kind=1\/s.kind=2\/s.kind=3\/s.kind=4\/(s.kind≠1/\s.kind≠2/\s.kind≠3/\s.kind≠4)) with k|k|k|k|k
 all_goals as_aux_lemma=>
  (refine j3 func131 ntmps131 results131 fun w M=>?_)
  (repeat' first|refine Ca 1 ?_;(refine j6 1 ?_)|refine Ca 3 ?_;(refine Cj 3 ?_)|refine Ca 10 ?_;refine yyp ?_;try refine Cc ?_ ?_<;>intro hb|refine Ca 15 ?_;(first|refine yyp ?_;try refine Cc ?_ ?_<;>intro hb|refine yy2 ?_ ?_<;>intro hcmp);all_goals try refine Db false 15 4 Kg ?_|refine Ca 20 ?_;refine z_p Cr ?_|refine Ca 22 ?_;refine yyp ?_;try refine Cc ?_ ?_<;>intro hb|refine Ca 27 ?_;(first|refine yyp ?_;try refine Cc ?_ ?_<;>intro hb|refine yy2 ?_ ?_<;>intro hcmp);all_goals try refine Db false 27 4 Kg ?_|refine Ca 32 ?_;(first|refine yyp ?_;try refine Cc ?_ ?_<;>intro hb|refine yy2 ?_ ?_<;>intro hcmp);all_goals try refine Db false 32 4 Kg ?_|refine Ca 37 ?_;refine z_p Cr ?_|refine Ca 39 ?_;refine z_p Cr ?_|refine Ca 41 ?_;refine yyp ?_;try refine Cc ?_ ?_<;>intro hb|refine Ca 46 ?_;(first|refine yyp ?_;try refine Cc ?_ ?_<;>intro hb|refine yy2 ?_ ?_<;>intro hcmp);all_goals try refine Db false 46 4 Kg ?_|refine Ca 51 ?_;(first|refine yyp ?_;try refine Cc ?_ ?_<;>intro hb|refine yy2 ?_ ?_<;>intro hcmp);all_goals try refine Db false 51 4 Kg ?_|refine Ca 56 ?_;refine z_p Cr ?_|refine Ca 58 ?_;refine z_p Cr ?_|refine Ca 60 ?_;refine yyp ?_;try refine Cc ?_ ?_<;>intro hb|refine Ca 65 ?_;(first|refine yyp ?_;try refine Cc ?_ ?_<;>intro hb|refine yy2 ?_ ?_<;>intro hcmp);all_goals try refine Db false 65 4 Kg ?_|refine Ca 70 ?_;refine z_p Cr ?_|refine Ca 72 ?_;refine yyp ?_;try refine Cc ?_ ?_<;>intro hb|refine Ca 109 ?_;(first|refine yyp ?_;try refine Cc ?_ ?_<;>intro hb|refine yy2 ?_ ?_<;>intro hcmp);all_goals try refine Db false 109 2 Kg ?_|refine yyp ?_|refine yy ?_|refine Cf 165 ?_;refine Cg (hc:=q1) ?_|refine Cf 166 ?_;refine Cg (hc:=(q7 _ _)) ?_|refine Cf 167 ?_;refine Cg (hc:=q2) ?_|refine Cf 160 ?_;refine Cg (hc:=q3) ?_|refine Cf 128 ?_;refine Cg (hc:=q4) ?_|refine Cf 168 ?_;refine Cg (hc:=q5) ?_|refine Cf 48 ?_;refine Cg (hc:=(by first|exact w1|exact w2|exact w3)) ?_|refine at_nil ?_;refine Ce Kg ?_|refine Cb fun K hK=>?_|apply_assumption -exfalso -symm)
  all_goals
   (refine j0 (j5 ?_))
   (repeat (rename (∀ S:Sd,TC _ _ _ S->_)=>hX;clear hX))
   clear q1 q2 q3 q4 q5 q7 w1 w2 w3;simp only[oneOf,Ax,An];rw[Ej];simp only[Lx.Jf,Lx.Jm,k,h5,Int.reduceEq,or_self,or_true,true_or,or_false,false_or,if_true,if_false,ne_eq,not_true_eq_false,not_false_eq_true,decide_true,decide_false,Bc,Bn,Av,Az,Ab,Al,k7,hz,true_and,and_true,El,Ay,iff_false,false_iff]at *
   first
    |done
    |grind [k7,El]
theorem z6 (gl:List (Nat × List D))(s:Sp):FnD prog gl 131 [.d (dSp s)] (fun v=>v=.d (.bool (Lx.Jf s))):=by
 by_cases h:s.kind=5
 ·exact mr5 gl s h
 ·exact qe5 gl s h
end
section
def Wm:List Nat:=[0,1,2,3,4,10,11,21,25,51]
attribute [local irreducible] TR TC
theorem y6 (gl:List (Nat × List D))(l:List Gu)(a b lo hi:Int)(hkk:∀ g∈l,0<=g.kind):FnD prog gl 129 [.d (.list 23 (l.map dGu)),.d (.int .i64 a),.d (.int .i64 b),.d (.int .u8 lo),.d (.int .u8 hi)] (fun v=>v=.d (.bool (Lx.Dq l a b lo hi))):=by
 have hall:=fun(g:Gu) (h:g∈l)=>mr2 gl g (hkk g h);simp only[je9]at hall ⊢;unfold Lx.Dq
 (refine j3 func129 ntmps129 results129 fun w M=>?_)
 refine r7 0 rfl fun hn=>?_;simp only[Aa]at hn
 (repeat' first|refine yyp ?_;try refine Cc ?_ ?_<;>intro hb|refine yy ?_|refine yy2 ?_ ?_<;>intro hcmp|refine at_nil ?_;refine Ce Wm ?_|refine Cb fun K hK=>?_|apply_assumption -exfalso -symm)
 ·(refine j0 (j5 ?_))
  simp only[oneOf,Lx.Da,Lx.hasB,Bq (by omega:¬a<=(l.length:Int)),Av]
 ·(refine j0 (j5 ?_))
  simp only[oneOf,Lx.Da,Lx.hasB,Bq (by omega:¬(l.length:Int)<=b),Av,Az]
 have hd:Lx.hasB a b l.length=true:=by
  unfold Lx.hasB;rw[Bt (by omega),Bt (by omega)];rfl
 refine j8 [10,11,22,23,24,25,26,27,28,29,30,31,32,33,34,35,36,37,38,39,40,41,42,43,44,45,46,47,48,49,50,51] [] (fun k:Nat=>[(11,.d (.int .i64 k))]) (fun _=>[]) (fun k=>k<=l.length/\(l.all fun g=>decide (lo<=g.kind) && decide (g.kind<=hi) && Lx.Lh g)=((l.drop k).all fun g=>decide (lo<=g.kind) && decide (g.kind<=hi) && Lx.Lh g)) (fun k=>l.length - k) 0 ⟨by omega,rfl⟩ fun k ⟨hk,hi'⟩=>?_;dsimp only[Ac,Ad];rcases Ah k l.length with hk2|hk2
 ·rw[Bd hk2,Ei]at hi';have hone:=hall l[k] (Ar hk2)
  (repeat' first|refine yyp ?_;try refine Cc ?_ ?_<;>intro hb|refine yy ?_|refine yy2 ?_ ?_<;>intro hcmp|refine Cf 161 ?_;refine Cg (hc:=hone) ?_;try refine Cc ?_ ?_<;>intro hb|refine at_nil ?_;refine Ce Wm ?_|refine Cb fun K hK=>?_|apply_assumption -exfalso -symm)
  all_goals first
   |(refine⟨k+1,⟨by omega,?_⟩,by omega,v6⟩
     rw[hi',hb,Bt (by omega),Bt (by omega)];rfl)
   |((refine j0 (j5 ?_))
     have hf:(decide (lo<=l[k].kind) && decide (l[k].kind<=hi) && Lx.Lh l[k])=false:=by
      first
       |(rw[hb,Az])
       |(rw[Bq (by omega:¬lo<=l[k].kind)];rfl)
       |(rw[Bq (by omega:¬l[k].kind<=hi),Az];rfl)
     rw[hf,Av]at hi';simp only[oneOf,Lx.Da,hi',Az])
 ·rw[Br hk2]at hi'
  (repeat' first|refine yyp ?_;try refine Cc ?_ ?_<;>intro hb|refine yy ?_|refine at_nil ?_;refine Ce Wm ?_|refine Cb fun K hK=>?_|apply_assumption -exfalso -symm)
  (refine j0 (j5 ?_))
  simp only[oneOf,Lx.Da,hi',hd,List.all_nil,Bool.and_self]
end
section
section
variable {E:Set}{S:Sd}{Q:Exit->Sd->Prop}{ops:Array Oper}{draw:Bool}{rest:Todo}{way:Kt}{ty:TypeId}{pos:String}{af:Array Edge}{gd:Option (Nat × Bool)}
end
end
end Go.Proofs.YtdopmfifmgkmoaaGreatDoor
