/- Parts. -/
import Derived.Test.YtklklgfpkpglgaaGreatDoorW47
set_option linter.all false
set_option maxRecDepth 100000
set_option maxHeartbeats 0
namespace Go.Proofs.YtklklgfpkpglgaaGreatDoor
open Go.RowKit Go.Proofs.Tryz
variable (gl:List (Nat × List D))
section
def Jc:List Nat:=[0,1,2,4,5,6,7,8,9,10,11,12,13,14,15,16,25,39,47,63,64,65,66,102,103,104,117,127,151]
def jc5:Plan:=lin [0,4,16,20,9,25,14,30,32,36]
def jc8:Plan:=lin [0,4,8,12,20,24,28,17,33,38,40,44,48,52,56]
def rh5:Plan:=lin [0,4,8,12,20,24,28,17,33,39,40,44,48,52,56]
namespace Al
open Lx Sc
theorem rh6 {E:Set}{Q:Exit->Sd->Prop}(id:Nat){S:Sd}{y:Code}{ops:Array Oper}{dr:Bool}(h:TC E (.seq (.region id ops dr) y) Q S):TC E (.seq (.region id ops dr) y) Q S:=h
inductive Nm (ω:Wd):Pr->Pr->ByteArray->Prop
 |spec {p q:Pr} {n:ByteArray} (h1:q.kind=18/\Ja ω q.spec.kind q.spec.e (hdP q.l)=false) (hn:p.spec.names.head? =some n):Nm ω p q n
 |call {p q:Pr} (h1:¬(q.kind=18/\Ja ω q.spec.kind q.spec.e (hdP q.l)=false)) (h2:q.kind=17/\Ow ω q.name q.au=false):Nm ω p q p.name
 |tgt {p q:Pr} {k:Nat} {e:Ex} (h1:¬(q.kind=18/\Ja ω q.spec.kind q.spec.e (hdP q.l)=false)) (h2:¬(q.kind=17/\Ow ω q.name q.au=false)) (h3:Jm ω [] q.aj=some k) (he:p.aj[k]? =some e):Nm ω p q e.s
 |gu {p q:Pr} {k m:Nat} {g h:Gu} {e:Ex} (h1:¬(q.kind=18/\Ja ω q.spec.kind q.spec.e (hdP q.l)=false)) (h2:¬(q.kind=17/\Ow ω q.name q.au=false)) (h3:Nl ω q.aj=false) (hy:∀ y∈(aB q).take (p.spec.body.length+k),brB ω y=false)
  (hg:∀ (j:Nat) (g:Gu),j<k->q.ak[j]? =some g->Nl ω g.aj=false) (e1:q.ak[k]? =some g) (e2:Jm ω [] g.aj=some m) (e3:p.ak[k]? =some h) (e4:h.aj[m]? =some e):Nm ω p q e.s
 |part {p q x y:Pr} {i:Nat} {n:ByteArray} (h1:¬(q.kind=18/\Ja ω q.spec.kind q.spec.e (hdP q.l)=false)) (h2:¬(q.kind=17/\Ow ω q.name q.au=false)) (h3:Nl ω q.aj=false) (hy:∀ y∈(aB q).take i,brB ω y=false)
  (hg:∀ (j:Nat) (g:Gu),p.spec.body.length+j<=i->q.ak[j]? =some g->Nl ω g.aj=false) (e1:(aB p)[i]? =some x) (e2:(aB q)[i]? =some y) (hb:brB ω y=true) (hn:Nm ω x y n):Nm ω p q n
theorem qo6 {ω:Wd}{l:List Ex}{k:Nat}(h:mz3 ω l=(k:Int)):Jm ω [] l=some k:=by
 unfold mz3 at h;cases h2:Jm ω [] l with
 |none=>
  rw[h2]at h;have h3:(-1:Int)=(k:Nat):=h;omega
 |some j=>
  rw[h2]at h;have h3:((j:Nat):Int)=(k:Nat):=h;have:j=k:=by omega
  rw[this]
def rb4 (p:Pr):Nat->List D
 |0=>p.spec.body.map dPr
 |j+1=>(p.spec.body++(p.ak.take (j+1)).map λg=>hdP g.body).map dPr
theorem km7 (p:Pr)(j:Nat):rb4 p j=(p.spec.body++(p.ak.take j).map λg=>hdP g.body).map dPr:=by
 cases j with
 |zero=>simp[rb4]
 |succ j=>rfl
theorem mg6 (p:Pr)(j:Nat)(h:j<p.ak.length):rb4 p (j+1)=rb4 p j++[dP (hdP p.ak[j].body)]:=by
 rw[km7,km7,Ao h,Ar,Ar,Ar,Ar,Ea];rw[v6];rfl
theorem kg6 (p:Pr)(j:Nat):(rb4 p j).length<=p.spec.body.length+p.ak.length:=by
 rw[km7];simp only[Aa,Ag,Ak];omega
attribute [local irreducible] TR TC
theorem va1 (ω:Wd)(hr:Rank ω.is)(p q:Pr)(hlk:Alike p q)(hnm:p.kind=18->p.spec.names≠[])(hq18:q.kind=18->q.l≠[])(hgp:∀ g∈p.ak,∃ b,g.body=[b])(hgq:∀ g∈q.ak,∃ b,g.body=[b])(hln:p.spec.body.length<=3000/\p.ak.length<=3000/\p.l.length<=3000)
 (hab:q.kind=18->Iw (hdP q.l)/\exN q.spec.e<=10000) (hca:Gb q.au<=10000)
 (hrec:∀ (i:Nat) (h:i<(aB p).length) (h':i<(aB q).length),FnE prog gl 37 [.ptr 900 0,.d (dPr (aB p)[i]),.d (dPr (aB q)[i])] (HA ω) (λv H1=>∃ n:ByteArray,(brB ω (aB q)[i]=true->Nm ω (aB p)[i] (aB q)[i] n)/\v=.tup [.d (.str n),.d (.bool (brB ω (aB q)[i]))]/\H1=HA ω)):
 FnE prog gl 37 [.ptr 900 0,.d (dPr p),.d (dPr q)] (HA ω) (λv H1=>∃ n:ByteArray,(brB ω q=true->Nm ω p q n)/\v=.tup [.d (.str n),.d (.bool (brB ω q))]/\H1=HA ω):=by
 have hkk:=hlk.kind;have ca:=λ(h:q.kind=18) (a:Pr) (l:List Pr) (hl:q.l=a::l)=>rp9 gl ω hr q a l hl (by have:=(hab h).1;rw[hl]at this;exact this) (hab h).2;have cc:=rq3 gl ω hr q hca;have ct:=λl=>qo3 gl ω hr l;simp only[v6]at ca cc hrec;rw[v6];dsimp only[HA]at ca cc ct hrec ⊢
 (refine j2 func37 ntmps37 results37 λw M E b0=>?_)
 have hbr:=mt8 (w:=ω) q
 (repeat' first|apply Ca 4;(refine Cm 4 ?_)|apply Ca 5;(refine Cm 5 ?_)|refine yyp ?_;try refine Ce ?_ ?_<;>intro hb|refine yy ?_|apply ah;refine Cc Jc ?_|refine Cb λK hK=>?_|apply Cf 8;refine j0 [] jc5 ?_|apply Cf 12;refine j0 [10,17] q03 ?_|apply Cf 14;refine j0 [3,7] q0d ?_|apply Cf 24;refine j0 [] jc8 ?_|apply_assumption -exfalso -symm)
 refine qv6 rfl ?_;refine jp1 [] [] (λ_:Unit=>[]) (λ_=>[]) (λ_=>¬(q.kind=18/\Ja ω q.spec.kind q.spec.e (hdP q.l)=false)) ?_ ?_
 ·by_cases h18:q.kind=18
  ·obtain⟨a,l,hl⟩:∃ a l,q.l=a::l:=by
    cases h:q.l with
    |nil=>exact absurd h (hq18 h18)
    |cons a l=>exact⟨a,l,rfl⟩
   obtain⟨s0,ns,hn⟩:∃ s l,p.spec.names=s::l:=by
    cases h:p.spec.names with
    |nil=>exact absurd h (hnm (by omega))
    |cons a l=>exact⟨a,l,rfl⟩
   have c1:=ca h18 a l hl;have hhd:hdP q.l=a:=by rw[hl];rfl
   rw[hhd]at hbr ⊢;rw[hn];cases hab2:Ja ω q.spec.kind q.spec.e a with
   |false=>
    rw[hab2]at c1
    (repeat' first|apply Ca 23;refine Ch (hc:=c1) ?_;try refine Ce ?_ ?_<;>intro hb|refine yyp ?_;try refine Ce ?_ ?_<;>intro hb|refine yy ?_|apply ah;refine Cc Jc ?_|refine Cb λK hK=>?_|apply Cf 8;refine j0 [] jc5 ?_|apply Cf 12;refine j0 [10,17] q03 ?_|apply Cf 14;refine j0 [3,7] q0d ?_|apply Cf 24;refine j0 [] jc8 ?_|apply_assumption -exfalso -symm)
    all_goals first
     |(exfalso;omega)
     |(refine j1 (j6 ⟨s0,λ_=>.spec ⟨h18,by rw[hhd];exact hab2⟩ (by rw[hn];rfl),?_,rfl⟩)
       rw[hbr.2 (.inl ⟨h18,hab2⟩)];rfl)
   |true=>
    rw[hab2]at c1
    (repeat' first|apply Ca 23;refine Ch (hc:=c1) ?_;try refine Ce ?_ ?_<;>intro hb|refine yyp ?_;try refine Ce ?_ ?_<;>intro hb|refine yy ?_|apply ah;refine Cc Jc ?_|refine Cb λK hK=>?_|apply Cf 8;refine j0 [] jc5 ?_|apply Cf 12;refine j0 [10,17] q03 ?_|apply Cf 14;refine j0 [3,7] q0d ?_|apply Cf 24;refine j0 [] jc8 ?_|apply_assumption -exfalso -symm)
    all_goals first
     |(exfalso;omega)
     |exact⟨(),(λh=>by cases h.2),r9⟩
  ·(repeat' first|refine yyp ?_;try refine Ce ?_ ?_<;>intro hb|refine yy ?_|apply ah;refine Cc Jc ?_|refine Cb λK hK=>?_|apply Cf 8;refine j0 [] jc5 ?_|apply Cf 12;refine j0 [10,17] q03 ?_|apply Cf 14;refine j0 [3,7] q0d ?_|apply Cf 24;refine j0 [] jc8 ?_|apply_assumption -exfalso -symm)
   all_goals first
    |(exfalso;omega)
    |exact⟨(),λh=>h18 h.1,r9⟩
 rintro _ hno1;dsimp only[Ac,Ad]
 ((repeat' first|refine jy6 3 ?_;refine halt ?_|refine Cb λK hK=>?_|apply Cf 8;refine j0 [] jc5 ?_|apply Cf 12;refine j0 [10,17] q03 ?_|apply Cf 14;refine j0 [3,7] q0d ?_|apply Cf 24;refine j0 [] jc8 ?_|apply_assumption -exfalso -symm);all_goals try refine unhalt ?_)
 refine jp1 [] [] (λ_:Unit=>[]) (λ_=>[]) (λ_=>¬(q.kind=17/\Ow ω q.name q.au=false)) ?_ ?_
 ·by_cases h17:q.kind=17
  ·cases hcb:Ow ω q.name q.au with
   |false=>
    rw[hcb]at cc
    (repeat' first|apply Ca 37;refine Ch (hc:=cc) ?_;try refine Ce ?_ ?_<;>intro hb|refine yyp ?_;try refine Ce ?_ ?_<;>intro hb|refine yy ?_|apply ah;refine Cc Jc ?_|refine Cb λK hK=>?_|apply Cf 8;refine j0 [] jc5 ?_|apply Cf 12;refine j0 [10,17] q03 ?_|apply Cf 14;refine j0 [3,7] q0d ?_|apply Cf 24;refine j0 [] jc8 ?_|apply_assumption -exfalso -symm)
    all_goals first
     |(exfalso;omega)
     |(refine j1 (j6 ⟨p.name,λ_=>.call hno1 ⟨h17,hcb⟩,?_,rfl⟩)
       rw[hbr.2 (.inr (.inl ⟨h17,hcb⟩))];rfl)
   |true=>
    rw[hcb]at cc
    (repeat' first|apply Ca 37;refine Ch (hc:=cc) ?_;try refine Ce ?_ ?_<;>intro hb|refine yyp ?_;try refine Ce ?_ ?_<;>intro hb|refine yy ?_|apply ah;refine Cc Jc ?_|refine Cb λK hK=>?_|apply Cf 8;refine j0 [] jc5 ?_|apply Cf 12;refine j0 [10,17] q03 ?_|apply Cf 14;refine j0 [3,7] q0d ?_|apply Cf 24;refine j0 [] jc8 ?_|apply_assumption -exfalso -symm)
    all_goals first
     |(exfalso;omega)
     |exact⟨(),(λh=>by cases h.2),r9⟩
  ·(repeat' first|refine yyp ?_;try refine Ce ?_ ?_<;>intro hb|refine yy ?_|apply ah;refine Cc Jc ?_|refine Cb λK hK=>?_|apply Cf 8;refine j0 [] jc5 ?_|apply Cf 12;refine j0 [10,17] q03 ?_|apply Cf 14;refine j0 [3,7] q0d ?_|apply Cf 24;refine j0 [] jc8 ?_|apply_assumption -exfalso -symm)
   all_goals first
    |(exfalso;omega)
    |exact⟨(),λh=>h17 h.1,r9⟩
 rintro _ hno2;dsimp only[Ac,Ad];have ht1:=mt9 ω q.aj;have c5:=ct q.aj;rw[k9]at c5 ⊢;cases htb:Nl ω q.aj with
 |true=>
  obtain⟨k,hk,hkl⟩:=ht1.2 htb;have hkl2:k<p.aj.length:=by rw[<-hlk.aj];exact hkl
  rw[hk]at c5
  (repeat' first|apply Ca 45;refine Ch (hc:=c5) ?_|refine yyp ?_;try refine Ce ?_ ?_<;>intro hb|refine yy ?_|apply ah;refine Cc Jc ?_|refine Cb λK hK=>?_|apply Cf 8;refine j0 [] jc5 ?_|apply Cf 12;refine j0 [10,17] q03 ?_|apply Cf 14;refine j0 [3,7] q0d ?_|apply Cf 24;refine j0 [] jc8 ?_|apply_assumption -exfalso -symm)
  all_goals first
   |(exfalso;omega)
   |(refine j1 (j6 ⟨p.aj[k].s,λ_=>.tgt hno1 hno2 (qo6 hk) (Ax hkl2),?_,rfl⟩)
     rw[hbr.2 (.inr (.inr (.inl htb)))];rfl)
 |false=>
  have htn:¬0<=mz3 ω q.aj:=λh=>by rw[ht1.1.1 h]at htb;cases htb
  generalize mz3 ω q.aj=tv at c5 htn
  ((repeat' first|apply Ca 45;refine Ch (hc:=c5) ?_|refine rh6 8 ?_;refine halt ?_|refine yyp ?_;try refine Ce ?_ ?_<;>intro hb|refine yy ?_|apply ah;refine Cc Jc ?_|refine Cb λK hK=>?_|apply Cf 8;refine j0 [] jc5 ?_|apply Cf 12;refine j0 [10,17] q03 ?_|apply Cf 14;refine j0 [3,7] q0d ?_|apply Cf 24;refine j0 [] jc8 ?_|apply_assumption -exfalso -symm);all_goals try refine unhalt ?_)
  rw[<-k9,rh4 hgp,rh4 hgq];have c8:=kx9 gl (p.spec.body.map dPr) (by rw[Aa];omega);have c9:=ky0 gl (q.spec.body.map dPr) (by rw[Aa,hlk.body];omega);refine jp1 [] [] (λ_:Unit=>[(9,.own 933 0),(10,.own 934 0)]) (λ_=>[(933,.row 45 42 true (p.spec.body.map dPr) 0),(934,.row 45 42 true (q.spec.body.map dPr) 0)]) (λ_=>True) ?_ ?_
  ·(repeat' first|apply Ca 57;refine Ch (hc:=c8) ?_|apply Ca 61;refine Ch (hc:=c9) ?_|refine yyp ?_;try refine Ce ?_ ?_<;>intro hb|apply ah;refine Cc Jc ?_|refine Ht ?_ ?_|(apply Gn (x:=.region 8 _ _);focus ((apply Cf 8;refine j0 [3,7] q0d ?_);(repeat' (first|apply Ca 57;refine Ch (hc:=c8) ?_));(all_goals first|exact Wk.refl _ _|exact r9);done))|refine Cb λK hK=>?_|apply Cf 8;refine j0 [3,7] q0d ?_|apply Cf 12;refine j0 [10,17] q03 ?_|apply Cf 14;refine j0 [3,7] q0d ?_|apply Cf 24;refine j0 [] jc8 ?_|apply_assumption -exfalso -symm)
   all_goals exact⟨(),trivial,r9⟩
  rintro _ _;dsimp only[Ac,Ad]
  (repeat' first|refine yyp ?_;try refine Ce ?_ ?_<;>intro hb|refine yy ?_|apply ah;refine Cc Jc ?_|refine Cb λK hK=>?_|apply Cf 8;refine j0 [] jc5 ?_|apply Cf 12;refine j0 [10,17] q03 ?_|apply Cf 14;refine j0 [3,7] q0d ?_|apply Cf 24;refine j0 [] jc8 ?_|apply_assumption -exfalso -symm)
  refine k7 63 rfl λhsm=>?_;simp only[Aa]at hsm;refine j9 [9,10,11,12,65,66,67,68,69,70,71,72,73,74,75,76,77,78,79,80,81,82,83,84,85,86,87,88] [933,934] (λx:Nat × Nat × Nat=>[(65,.d (.int .i64 x.1)),(9,.own 933 x.2.1),(10,.own 934 x.2.2)]) (λx=>[(933,.row 45 42 true (rb4 p x.1) x.2.1),(934,.row 45 42 true (rb4 q x.1) x.2.2)]) (λx=>x.1<=q.ak.length) (λx=>q.ak.length - x.1) (0,0,0) (Ai _) λ⟨j,k1,k2⟩ hj=>?_;dsimp only[Ac,Ad]at hj ⊢;rcases Ah j q.ak.length with hj2|hj2
  ·have hjp:j<p.ak.length:=by rw[<-hlk.ak];exact hj2
   have hr1:=kg6 p j;have hr2:=kg6 q j;have hb1:=hlk.body;have hb2:=hlk.ak;have hs1:=mg6 p j hjp;have hs2:=mg6 q j hj2
   (repeat' first|apply Ca 12;(refine j3 12 ?_)|apply Ca 79;(refine Df 79 ?_)|apply Ca 86;(refine Df 86 ?_)|refine yyp ?_;try refine Ce ?_ ?_<;>intro hb|refine yy ?_|(apply Cw;first|(refine Da (λkv=>?_))|(refine ai (λsx sp kv hsx hsp hsl=>?_)))|apply ah;refine Cc Jc ?_|refine ju0 ?_ ?_|refine Ht ?_ ?_|refine Cb λK hK=>?_|apply Cf 8;refine j0 [] jc5 ?_|apply Cf 12;refine j0 [10,17] q03 ?_|apply Cf 14;refine j0 [3,7] q0d ?_|apply Cf 24;refine j0 [] jc8 ?_|apply_assumption -exfalso -symm)
   all_goals exact⟨(j+1,_,_),(by dsimp only;omega),(by dsimp only;omega),by
    dsimp only;rw[hs1,hs2];exact r9⟩
  obtain rfl:j=q.ak.length:=by omega
  have hpp:=mu0 hgp;have hpq:=mu0 hgq;have e1:rb4 p q.ak.length++p.l.map dPr=(aB p).map dPr:=by rw[km7,hlk.ak,Bk,hpp];simp only[Ar]
  have e2:rb4 q q.ak.length++q.l.map dPr=(aB q).map dPr:=by rw[km7,Bk,hpq];simp only[Ar]
  have hr1:=kg6 p q.ak.length;have hr2:=kg6 q q.ak.length;have hb1:=hlk.body;have hb2:=hlk.ak;have hb3:=hlk.l
  ((repeat' first|refine rh6 14 ?_;refine halt ?_|refine yyp ?_;try refine Ce ?_ ?_<;>intro hb|refine yy ?_|apply ah;refine Cc Jc ?_|refine Cb λK hK=>?_|apply Cf 8;refine j0 [] jc5 ?_|apply Cf 12;refine j0 [10,17] q03 ?_|apply Cf 14;refine j0 [3,7] q0d ?_|apply Cf 24;refine j0 [] jc8 ?_|apply_assumption -exfalso -symm);all_goals try refine unhalt ?_)
  refine jp1 [9,10] [933,934] (λx:Nat × Nat=>[(9,.own 933 x.1),(10,.own 934 x.2)]) (λx=>[(933,.row 45 42 true ((aB p).map dPr) x.1),(934,.row 45 42 true ((aB q).map dPr) x.2)]) (λ_=>True) ?_ ?_
  ·rw[<-e1,<-e2]
   (repeat' first|refine yyp ?_;try refine Ce ?_ ?_<;>intro hb|(apply Cw;first|(refine Da (λkv=>?_))|(refine ai (λsx sp kv hsx hsp hsl=>?_)))|apply ah;refine Cc Jc ?_|refine Ht ?_ ?_|refine Cb λK hK=>?_|apply Cf 8;refine j0 [] jc5 ?_|apply Cf 12;refine j0 [10,17] q03 ?_|apply Cf 14;refine j0 [3,7] q0d ?_|apply Cf 24;refine j0 [] jc8 ?_|apply_assumption -exfalso -symm)
   all_goals exact⟨(_,_),trivial,r9⟩
  rintro⟨k3,k4⟩ _;dsimp only[Ac,Ad];refine jm1 (ku3 9 rfl (ToD.own rfl)) ?_;refine jm1 (ku3 10 rfl (ToD.own rfl)) ?_;rw[v6];have hN:(aB q).length=(aB p).length:=je0 hlk.parts;refine k7 9 rfl λhsm3=>?_;simp only[Aa]at hsm3
  (repeat' first|refine yyp ?_;try refine Ce ?_ ?_<;>intro hb|refine yy ?_|apply ah;refine Cc Jc ?_|refine Cb λK hK=>?_|apply Cf 8;refine j0 [] jc5 ?_|apply Cf 12;refine j0 [10,17] q03 ?_|apply Cf 14;refine j0 [3,7] q0d ?_|apply Cf 24;refine j0 [] jc8 ?_|apply_assumption -exfalso -symm)
  refine j9 [6,7,14,15,16,103,104,105,106,107,108,109,110,111,112,113,114,115,116,117,118,119,120,121,122,123,124,125,126,127,128,129,130,131,132,133,134,135,136,137,138,139,140,141,142,143,144,145,146,147,148,149,150,151,152] [] (λx:Nat × ByteArray=>[(103,.d (.int .i64 x.1)),(6,.d (.str x.2)),(7,.d (.bool false))]) (λ_=>[]) (λx=>x.1<=(aB p).length/\(∀ y∈(aB q).take x.1,brB ω y=false)/\∀ (k:Nat) (g:Gu),q.ak[k]? =some g->p.spec.body.length+k<x.1->Nl ω g.aj=false) (λx=>(aB p).length - x.1) (0,_) ⟨Ai _,by simp,λk g _ h=>by omega⟩ λ⟨i,n⟩ ⟨hi,hy,hg⟩=>?_;dsimp only[Ac,Ad]at hi hy hg ⊢;rcases Ah i (aB p).length with hi2|hi2
  ·have hiq:i<(aB q).length:=by omega
   have hone:=hrec i hi2 hiq
   ((repeat' first|refine jy6 19 ?_;refine halt ?_|refine yyp ?_;try refine Ce ?_ ?_<;>intro hb|refine yy ?_|apply ah;refine Cc Jc ?_|refine Cb λK hK=>?_|apply Cf 8;refine j0 [] jc5 ?_|apply Cf 12;refine j0 [10,17] q03 ?_|apply Cf 14;refine j0 [3,7] q0d ?_|apply Cf 24;refine j0 [] jc8 ?_|apply_assumption -exfalso -symm);all_goals try refine unhalt ?_)
   refine jp1 [] [] (λ_:Unit=>[]) (λ_=>[]) (λ_=>∀ (k:Nat) (g:Gu),q.ak[k]? =some g->p.spec.body.length+k=i->Nl ω g.aj=false) ?_ ?_
   ·rcases Ah i p.spec.body.length with hA|hA
    ·(repeat' first|refine yyp ?_;try refine Ce ?_ ?_<;>intro hb|refine yy ?_|apply ah;refine Cc Jc ?_|refine Cb λK hK=>?_|apply Cf 8;refine j0 [] jc5 ?_|apply Cf 12;refine j0 [10,17] q03 ?_|apply Cf 14;refine j0 [3,7] q0d ?_|apply Cf 24;refine j0 [] jc8 ?_|apply_assumption -exfalso -symm)
     all_goals first
      |(exfalso;omega)
      |exact⟨(),λk g _ h=>by omega,r9⟩
    obtain⟨k,rfl⟩:∃ k,i=p.spec.body.length+k:=⟨i - p.spec.body.length,by omega⟩;have hsub:(((p.spec.body.length+k:Nat):Int) - (p.spec.body.length:Nat))=(k:Nat):=by omega
    rcases Ah k p.ak.length with hB|hB
    ·have hkq:k<q.ak.length:=by rw[hlk.ak];exact hB
     have c7:=ct q.ak[k].aj;have ht7:=mt9 ω q.ak[k].aj;rw[k9]at c7;cases htb2:Nl ω q.ak[k].aj with
     |true=>
      obtain⟨m,hm,hml⟩:=ht7.2 htb2;have hml2:m<p.ak[k].aj.length:=by rw[<-hlk.gt k hB hkq];exact hml
      rw[hm]at c7
      (repeat' first|apply Ca 108;(refine yyp ?_;rw[hsub])|apply Ca 125;refine Ch (hc:=c7) ?_|refine yyp ?_;try refine Ce ?_ ?_<;>intro hb|refine yy ?_|apply ah;refine Cc Jc ?_|refine Cb λK hK=>?_|apply Cf 8;refine j0 [] jc5 ?_|apply Cf 12;refine j0 [10,17] q03 ?_|apply Cf 14;refine j0 [3,7] q0d ?_|apply Cf 24;refine j0 [] jc8 ?_|apply_assumption -exfalso -symm)
      all_goals first
       |(exfalso;omega)
       |(refine j1 (j6 ⟨p.ak[k].aj[m].s,λ_=>.gu hno1 hno2 htb hy (λj g hj h=>hg j g h (by omega)) (Ax hkq) (qo6 hm) (Ax hB) (Ax hml2),?_,rfl⟩)
         rw[hbr.2 (.inr (.inr (.inr (.inl ⟨_,At hkq,htb2⟩))))];rfl)
     |false=>
      have htn2:¬0<=mz3 ω q.ak[k].aj:=λh=>by rw[ht7.1.1 h]at htb2;cases htb2
      generalize mz3 ω q.ak[k].aj=tv2 at c7 htn2
      (repeat' first|apply Ca 108;(refine yyp ?_;rw[hsub])|apply Ca 125;refine Ch (hc:=c7) ?_|refine yyp ?_;try refine Ce ?_ ?_<;>intro hb|refine yy ?_|apply ah;refine Cc Jc ?_|refine Cb λK hK=>?_|apply Cf 8;refine j0 [] jc5 ?_|apply Cf 12;refine j0 [10,17] q03 ?_|apply Cf 14;refine j0 [3,7] q0d ?_|apply Cf 24;refine j0 [] jc8 ?_|apply_assumption -exfalso -symm)
      all_goals first
       |(exfalso;omega)
       |exact⟨(),λk2 g h1 h2=>by
         obtain rfl:k2=k:=by omega
         rw[Ax hkq]at h1;cases h1;exact htb2,r9⟩
    ·(repeat' first|apply Ca 108;(refine yyp ?_;rw[hsub])|refine yyp ?_;try refine Ce ?_ ?_<;>intro hb|refine yy ?_|apply ah;refine Cc Jc ?_|refine Cb λK hK=>?_|apply Cf 8;refine j0 [] jc5 ?_|apply Cf 12;refine j0 [10,17] q03 ?_|apply Cf 14;refine j0 [3,7] q0d ?_|apply Cf 24;refine j0 [] jc8 ?_|apply_assumption -exfalso -symm)
     all_goals first
      |(exfalso;omega)
      |exact⟨(),λk2 g h1 h2=>by
        have:=(Bb.1 h1).1;omega,r9⟩
   rintro _ hgi;dsimp only[Ac,Ad];cases hbb:brB ω (aB q)[i]with
   |true=>
    rw[hbb]at hone
    (repeat' first|apply Ca 148;(refine Ga (hc:=hone) ?_;rintro n2 hn2)|refine yyp ?_;try refine Ce ?_ ?_<;>intro hb|refine yy ?_|apply ah;refine Cc Jc ?_|refine Cb λK hK=>?_|apply Cf 8;refine j0 [] jc5 ?_|apply Cf 12;refine j0 [10,17] q03 ?_|apply Cf 14;refine j0 [3,7] q0d ?_|apply Cf 24;refine j0 [9] rh5 ?_|apply_assumption -exfalso -symm)
    refine j1 (j6 ⟨n2,λ_=>.part hno1 hno2 htb hy (λj g hj h=>?_) (Ax hi2) (Ax hiq) hbb (hn2 rfl),?_,rfl⟩)
    ·rcases Ah (p.spec.body.length+j) i with h3|h3
     ·exact hg j g h h3
     ·exact hgi j g h (by omega)
    rw[hbr.2 (.inr (.inr (.inr (.inr ⟨_,At hiq,hbb⟩))))];rfl
   |false=>
    rw[hbb]at hone
    (repeat' first|apply Ca 148;(refine Ga (hc:=hone) ?_;rintro n2 hn2)|refine yyp ?_;try refine Ce ?_ ?_<;>intro hb|refine yy ?_|apply ah;refine Cc Jc ?_|refine Cb λK hK=>?_|apply Cf 8;refine j0 [] jc5 ?_|apply Cf 12;refine j0 [10,17] q03 ?_|apply Cf 14;refine j0 [3,7] q0d ?_|apply Cf 24;refine j0 [9] rh5 ?_|apply_assumption -exfalso -symm)
    refine⟨(i+1,n2),⟨by dsimp only;omega,λy hyy=>?_,λk g h1 h2=>?_⟩,by dsimp only;omega,r9⟩
    ·dsimp only at hyy;rw[Ao hiq,Bi,Bu]at hyy;rcases hyy with hyy|rfl
     ·exact hy y hyy
     ·exact hbb
    ·dsimp only at h2;rcases Ah (p.spec.body.length+k) i with h3|h3
     ·exact hg k g h1 h3
     ·exact hgi k g h1 (by omega)
  ·have hlp:(aB p).length=p.spec.body.length+p.ak.length+p.l.length:=by
    rw[hpp];simp only[Ag,Aa]
   have hfin:brB ω q=false:=by
    cases hbq:brB ω q with
    |false=>rfl
    |true=>
     rcases hbr.1 hbq with h|h|h|⟨g,hg',h⟩|⟨x,hx,h⟩
     ·exact absurd h hno1
     ·exact absurd h hno2
     ·rw[htb]at h;cases h
     ·obtain⟨k,hk⟩:=List.getElem?_of_mem hg';have hk2:=(Bb.1 hk).1;rw[hg k g hk (by omega)]at h;cases h
     ·rw[hy x (by rw[Am (by omega)];exact hx)]at h;cases h
   (repeat' first|refine yyp ?_;try refine Ce ?_ ?_<;>intro hb|refine yy ?_|apply ah;refine Cc Jc ?_|refine Cb λK hK=>?_|apply Cf 8;refine j0 [] jc5 ?_|apply Cf 12;refine j0 [10,17] q03 ?_|apply Cf 14;refine j0 [3,7] q0d ?_|apply Cf 24;refine j0 [] jc8 ?_|apply_assumption -exfalso -symm)
   refine j1 (j6 ⟨n,(λh=>by rw[hfin]at h;cases h),?_,rfl⟩);rw[hfin];rfl
theorem va2 (ω:Wd)(hr:Rank ω.is):∀ (n:Nat) (p q:Pr),SizeOf.sizeOf p<=n->jl2 p q->Iw p->Iw q->FnE prog gl 37 [.ptr 900 0,.d (dPr p),.d (dPr q)] (HA ω) (λv H1=>∃ n:ByteArray,(brB ω q=true->Nm ω p q n)/\v=.tup [.d (.str n),.d (.bool (brB ω q))]/\H1=HA ω):=by
 intro n
 induction n with
 |zero=>intro p q h;cases p;simp only[Pr.mk.sizeOf_spec]at h;omega
 |succ n ih=>
  intro p q hp hl ha hb;have hmp:=jr1 ha;have hmq:=jr1 hb;have fp:=jg2 hmp;have fq:=jg2 hmq;have hbl:=mt5 hmp;refine va1 gl ω hr p q (va0 hl) (λh=>(kf6 (fp.spec h).2).names) (λh=>(fq.spec h).1) (rq2 hmp).gus (rq2 hmq).gus ⟨by omega,by have:=fp.lens;omega,by have:=fp.lens;omega⟩ (λh=>⟨?_,?_⟩) (by have:=fq.head;omega) λi h h'=>ih _ _ ?_ (km5 (va0 hl).parts i h h') (jk0 ha (At h)) (jk0 hb (At h'))
  ·have:=(fq.spec h).1;cases hql:q.l with
   |nil=>exact absurd hql this
   |cons a l=>exact jk0 hb (by simp only[aB,Bi];rw[hql];exact .inr Be)
  ·have:=fq.head.1;simp only[Gb]at this;omega
  ·have:=jb6 (At h);omega
end Al
end
end Go.Proofs.YtklklgfpkpglgaaGreatDoor
