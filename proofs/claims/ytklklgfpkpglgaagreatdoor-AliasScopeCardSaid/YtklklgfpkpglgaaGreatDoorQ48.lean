/- Parts. -/
import Derived.Test.YtklklgfpkpglgaaGreatDoorQ47
set_option linter.all false
set_option maxRecDepth 100000
set_option maxHeartbeats 0
namespace Go.Proofs.YtklklgfpkpglgaaGreatDoor
open Go.RowKit Go.Proofs.Tryz
variable (gl:List (Nat × List D))
section
def Iy:List Nat:=[0,1,2,4,5,6,7,8,9,10,11,12,13,14,15,16,25,39,47,63,64,65,66,102,103,104,117,127,151]
def jc0:Plan:=lin [0,4,16,20,9,25,14,30,32,36]
def jc4:Plan:=lin [0,4,8,12,20,24,28,17,33,38,40,44,48,52,56]
def rq1:Plan:=lin [0,4,8,12,20,24,28,17,33,39,40,44,48,52,56]
namespace Al
open Lx Sc
theorem rq2 {E:Set}{Q:Exit->Sd->Prop}(id:Nat){S:Sd}{y:Code}{ops:Array Oper}{dr:Bool}(h:TC E (.seq (.region id ops dr) y) Q S):TC E (.seq (.region id ops dr) y) Q S:=h
inductive Nm (ω:Wd):Pr->Pr->ByteArray->Prop
 |spec {p q:Pr} {n:ByteArray} (h1:q.kind=18/\Ik ω q.spec.kind q.spec.e (hdP q.l)=false) (hn:p.spec.names.head? =some n):Nm ω p q n
 |call {p q:Pr} (h1:¬(q.kind=18/\Ik ω q.spec.kind q.spec.e (hdP q.l)=false)) (h2:q.kind=17/\Li ω q.name q.au=false):Nm ω p q p.name
 |tgt {p q:Pr} {k:Nat} {e:Ex} (h1:¬(q.kind=18/\Ik ω q.spec.kind q.spec.e (hdP q.l)=false)) (h2:¬(q.kind=17/\Li ω q.name q.au=false)) (h3:Ih ω [] q.aj=some k) (he:p.aj[k]? =some e):Nm ω p q e.s
 |gu {p q:Pr} {k m:Nat} {g h:Gu} {e:Ex} (h1:¬(q.kind=18/\Ik ω q.spec.kind q.spec.e (hdP q.l)=false)) (h2:¬(q.kind=17/\Li ω q.name q.au=false)) (h3:Mc ω q.aj=false) (hy:∀ y∈(aB q).take (p.spec.body.length+k),brB ω y=false)
  (hg:∀ (j:Nat) (g:Gu),j<k->q.ak[j]? =some g->Mc ω g.aj=false) (e1:q.ak[k]? =some g) (e2:Ih ω [] g.aj=some m) (e3:p.ak[k]? =some h) (e4:h.aj[m]? =some e):Nm ω p q e.s
 |part {p q x y:Pr} {i:Nat} {n:ByteArray} (h1:¬(q.kind=18/\Ik ω q.spec.kind q.spec.e (hdP q.l)=false)) (h2:¬(q.kind=17/\Li ω q.name q.au=false)) (h3:Mc ω q.aj=false) (hy:∀ y∈(aB q).take i,brB ω y=false)
  (hg:∀ (j:Nat) (g:Gu),p.spec.body.length+j<=i->q.ak[j]? =some g->Mc ω g.aj=false) (e1:(aB p)[i]? =some x) (e2:(aB q)[i]? =some y) (hb:brB ω y=true) (hn:Nm ω x y n):Nm ω p q n
theorem qu1 {ω:Wd}{l:List Ex}{k:Nat}(h:qd7 ω l=(k:Int)):Ih ω [] l=some k:=by
 unfold qd7 at h;cases h2:Ih ω [] l with
 |none=>
  rw[h2]at h;have h3:(-1:Int)=(k:Nat):=h;omega
 |some j=>
  rw[h2]at h;have h3:((j:Nat):Int)=(k:Nat):=h;have:j=k:=by omega
  rw[this]
def rj2 (p:Pr):Nat->List D
 |0=>p.spec.body.map dPr
 |j+1=>(p.spec.body++(p.ak.take (j+1)).map λg=>hdP g.body).map dPr
theorem kn6 (p:Pr)(j:Nat):rj2 p j=(p.spec.body++(p.ak.take j).map λg=>hdP g.body).map dPr:=by
 cases j with
 |zero=>simp[rj2]
 |succ j=>rfl
theorem mj6 (p:Pr)(j:Nat)(h:j<p.ak.length):rj2 p (j+1)=rj2 p j++[dP (hdP p.ak[j].body)]:=by
 rw[kn6,kn6,An h,Av,Av,Av,Av,Eg];rw[v7];rfl
theorem kg3 (p:Pr)(j:Nat):(rj2 p j).length<=p.spec.body.length+p.ak.length:=by
 rw[kn6];simp only[Ab,Ag,Aq];omega
attribute [local irreducible] TR TC
theorem vk1 (ω:Wd)(hr:Rank ω.is)(p q:Pr)(hlk:Alike p q)(hnm:p.kind=18->p.spec.names≠[])(hq18:q.kind=18->q.l≠[])(hgp:∀ g∈p.ak,∃ b,g.body=[b])(hgq:∀ g∈q.ak,∃ b,g.body=[b])(hln:p.spec.body.length<=3000/\p.ak.length<=3000/\p.l.length<=3000)
 (hab:q.kind=18->Hz (hdP q.l)/\exN q.spec.e<=10000) (hca:Gw q.au<=10000)
 (hrec:∀ (i:Nat) (h:i<(aB p).length) (h':i<(aB q).length),FnE prog gl 37 [.ptr 900 0,.d (dPr (aB p)[i]),.d (dPr (aB q)[i])] (HA ω) (λv H1=>∃ n:ByteArray,(brB ω (aB q)[i]=true->Nm ω (aB p)[i] (aB q)[i] n)/\v=.tup [.d (.str n),.d (.bool (brB ω (aB q)[i]))]/\H1=HA ω)):
 FnE prog gl 37 [.ptr 900 0,.d (dPr p),.d (dPr q)] (HA ω) (λv H1=>∃ n:ByteArray,(brB ω q=true->Nm ω p q n)/\v=.tup [.d (.str n),.d (.bool (brB ω q))]/\H1=HA ω):=by
 have hkk:=hlk.kind;have ca:=λ(h:q.kind=18) (a:Pr) (l:List Pr) (hl:q.l=a::l)=>rz5 gl ω hr q a l hl (by have:=(hab h).1;rw[hl]at this;exact this) (hab h).2;have cc:=rz8 gl ω hr q hca;have ct:=λl=>qt8 gl ω hr l;simp only[v7]at ca cc hrec;rw[v7];dsimp only[HA]at ca cc ct hrec ⊢
 (refine j3 func37 ntmps37 results37 λw M E b0=>?_)
 have hbr:=mx2 (w:=ω) q
 (repeat' first|apply Ca 4;(refine Ck 4 ?_)|apply Ca 5;(refine Ck 5 ?_)|refine yyp ?_;try refine Ce ?_ ?_<;>intro hb|refine yy ?_|apply ah;refine Cc Iy ?_|refine Cb λK hK=>?_|apply Cg 8;refine j0 [] jc0 ?_|apply Cg 12;refine j0 [10,17] q03 ?_|apply Cg 14;refine j0 [3,7] q0c ?_|apply Cg 24;refine j0 [] jc4 ?_|apply_assumption -exfalso -symm)
 refine rd0 rfl ?_;refine jp9 [] [] (λ_:Unit=>[]) (λ_=>[]) (λ_=>¬(q.kind=18/\Ik ω q.spec.kind q.spec.e (hdP q.l)=false)) ?_ ?_
 ·by_cases h18:q.kind=18
  ·obtain⟨a,l,hl⟩:∃ a l,q.l=a::l:=by
    cases h:q.l with
    |nil=>exact absurd h (hq18 h18)
    |cons a l=>exact⟨a,l,rfl⟩
   obtain⟨s0,ns,hn⟩:∃ s l,p.spec.names=s::l:=by
    cases h:p.spec.names with
    |nil=>exact absurd h (hnm (by omega))
    |cons a l=>exact⟨a,l,rfl⟩
   have c1:=ca h18 a l hl;have hhd:hdP q.l=a:=by rw[hl];rfl
   rw[hhd]at hbr ⊢;rw[hn];cases hab2:Ik ω q.spec.kind q.spec.e a with
   |false=>
    rw[hab2]at c1
    (repeat' first|apply Ca 23;refine Ch (hc:=c1) ?_;try refine Ce ?_ ?_<;>intro hb|refine yyp ?_;try refine Ce ?_ ?_<;>intro hb|refine yy ?_|apply ah;refine Cc Iy ?_|refine Cb λK hK=>?_|apply Cg 8;refine j0 [] jc0 ?_|apply Cg 12;refine j0 [10,17] q03 ?_|apply Cg 14;refine j0 [3,7] q0c ?_|apply Cg 24;refine j0 [] jc4 ?_|apply_assumption -exfalso -symm)
    all_goals first
     |(exfalso;omega)
     |(refine j1 (j8 ⟨s0,λ_=>.spec ⟨h18,by rw[hhd];exact hab2⟩ (by rw[hn];rfl),?_,rfl⟩)
       rw[hbr.2 (.inl ⟨h18,hab2⟩)];rfl)
   |true=>
    rw[hab2]at c1
    (repeat' first|apply Ca 23;refine Ch (hc:=c1) ?_;try refine Ce ?_ ?_<;>intro hb|refine yyp ?_;try refine Ce ?_ ?_<;>intro hb|refine yy ?_|apply ah;refine Cc Iy ?_|refine Cb λK hK=>?_|apply Cg 8;refine j0 [] jc0 ?_|apply Cg 12;refine j0 [10,17] q03 ?_|apply Cg 14;refine j0 [3,7] q0c ?_|apply Cg 24;refine j0 [] jc4 ?_|apply_assumption -exfalso -symm)
    all_goals first
     |(exfalso;omega)
     |exact⟨(),(λh=>by cases h.2),v6⟩
  ·(repeat' first|refine yyp ?_;try refine Ce ?_ ?_<;>intro hb|refine yy ?_|apply ah;refine Cc Iy ?_|refine Cb λK hK=>?_|apply Cg 8;refine j0 [] jc0 ?_|apply Cg 12;refine j0 [10,17] q03 ?_|apply Cg 14;refine j0 [3,7] q0c ?_|apply Cg 24;refine j0 [] jc4 ?_|apply_assumption -exfalso -symm)
   all_goals first
    |(exfalso;omega)
    |exact⟨(),λh=>h18 h.1,v6⟩
 rintro _ hno1;dsimp only[Ac,Ae]
 ((repeat' first|refine ke1 3 ?_;refine halt ?_|refine Cb λK hK=>?_|apply Cg 8;refine j0 [] jc0 ?_|apply Cg 12;refine j0 [10,17] q03 ?_|apply Cg 14;refine j0 [3,7] q0c ?_|apply Cg 24;refine j0 [] jc4 ?_|apply_assumption -exfalso -symm);all_goals try refine unhalt ?_)
 refine jp9 [] [] (λ_:Unit=>[]) (λ_=>[]) (λ_=>¬(q.kind=17/\Li ω q.name q.au=false)) ?_ ?_
 ·by_cases h17:q.kind=17
  ·cases hcb:Li ω q.name q.au with
   |false=>
    rw[hcb]at cc
    (repeat' first|apply Ca 37;refine Ch (hc:=cc) ?_;try refine Ce ?_ ?_<;>intro hb|refine yyp ?_;try refine Ce ?_ ?_<;>intro hb|refine yy ?_|apply ah;refine Cc Iy ?_|refine Cb λK hK=>?_|apply Cg 8;refine j0 [] jc0 ?_|apply Cg 12;refine j0 [10,17] q03 ?_|apply Cg 14;refine j0 [3,7] q0c ?_|apply Cg 24;refine j0 [] jc4 ?_|apply_assumption -exfalso -symm)
    all_goals first
     |(exfalso;omega)
     |(refine j1 (j8 ⟨p.name,λ_=>.call hno1 ⟨h17,hcb⟩,?_,rfl⟩)
       rw[hbr.2 (.inr (.inl ⟨h17,hcb⟩))];rfl)
   |true=>
    rw[hcb]at cc
    (repeat' first|apply Ca 37;refine Ch (hc:=cc) ?_;try refine Ce ?_ ?_<;>intro hb|refine yyp ?_;try refine Ce ?_ ?_<;>intro hb|refine yy ?_|apply ah;refine Cc Iy ?_|refine Cb λK hK=>?_|apply Cg 8;refine j0 [] jc0 ?_|apply Cg 12;refine j0 [10,17] q03 ?_|apply Cg 14;refine j0 [3,7] q0c ?_|apply Cg 24;refine j0 [] jc4 ?_|apply_assumption -exfalso -symm)
    all_goals first
     |(exfalso;omega)
     |exact⟨(),(λh=>by cases h.2),v6⟩
  ·(repeat' first|refine yyp ?_;try refine Ce ?_ ?_<;>intro hb|refine yy ?_|apply ah;refine Cc Iy ?_|refine Cb λK hK=>?_|apply Cg 8;refine j0 [] jc0 ?_|apply Cg 12;refine j0 [10,17] q03 ?_|apply Cg 14;refine j0 [3,7] q0c ?_|apply Cg 24;refine j0 [] jc4 ?_|apply_assumption -exfalso -symm)
   all_goals first
    |(exfalso;omega)
    |exact⟨(),λh=>h17 h.1,v6⟩
 rintro _ hno2;dsimp only[Ac,Ae];have ht1:=mx3 ω q.aj;have c5:=ct q.aj;rw[r8]at c5 ⊢;cases htb:Mc ω q.aj with
 |true=>
  obtain⟨k,hk,hkl⟩:=ht1.2 htb;have hkl2:k<p.aj.length:=by rw[<-hlk.aj];exact hkl
  rw[hk]at c5
  (repeat' first|apply Ca 45;refine Ch (hc:=c5) ?_|refine yyp ?_;try refine Ce ?_ ?_<;>intro hb|refine yy ?_|apply ah;refine Cc Iy ?_|refine Cb λK hK=>?_|apply Cg 8;refine j0 [] jc0 ?_|apply Cg 12;refine j0 [10,17] q03 ?_|apply Cg 14;refine j0 [3,7] q0c ?_|apply Cg 24;refine j0 [] jc4 ?_|apply_assumption -exfalso -symm)
  all_goals first
   |(exfalso;omega)
   |(refine j1 (j8 ⟨p.aj[k].s,λ_=>.tgt hno1 hno2 (qu1 hk) (Ar hkl2),?_,rfl⟩)
     rw[hbr.2 (.inr (.inr (.inl htb)))];rfl)
 |false=>
  have htn:¬0<=qd7 ω q.aj:=λh=>by rw[ht1.1.1 h]at htb;cases htb
  generalize qd7 ω q.aj=tv at c5 htn
  ((repeat' first|apply Ca 45;refine Ch (hc:=c5) ?_|refine rq2 8 ?_;refine halt ?_|refine yyp ?_;try refine Ce ?_ ?_<;>intro hb|refine yy ?_|apply ah;refine Cc Iy ?_|refine Cb λK hK=>?_|apply Cg 8;refine j0 [] jc0 ?_|apply Cg 12;refine j0 [10,17] q03 ?_|apply Cg 14;refine j0 [3,7] q0c ?_|apply Cg 24;refine j0 [] jc4 ?_|apply_assumption -exfalso -symm);all_goals try refine unhalt ?_)
  rw[<-r8,rq0 hgp,rq0 hgq];have c8:=kz9 gl (p.spec.body.map dPr) (by rw[Ab];omega);have c9:=ma0 gl (q.spec.body.map dPr) (by rw[Ab,hlk.body];omega);refine jp9 [] [] (λ_:Unit=>[(9,.own 933 0),(10,.own 934 0)]) (λ_=>[(933,.row 45 42 true (p.spec.body.map dPr) 0),(934,.row 45 42 true (q.spec.body.map dPr) 0)]) (λ_=>True) ?_ ?_
  ·(repeat' first|apply Ca 57;refine Ch (hc:=c8) ?_|apply Ca 61;refine Ch (hc:=c9) ?_|refine yyp ?_;try refine Ce ?_ ?_<;>intro hb|apply ah;refine Cc Iy ?_|refine Jd ?_ ?_|(apply Iz (x:=.region 8 _ _);focus ((apply Cg 8;refine j0 [3,7] q0c ?_);(repeat' (first|apply Ca 57;refine Ch (hc:=c8) ?_));(all_goals first|exact Wk.refl _ _|exact v6);done))|refine Cb λK hK=>?_|apply Cg 8;refine j0 [3,7] q0c ?_|apply Cg 12;refine j0 [10,17] q03 ?_|apply Cg 14;refine j0 [3,7] q0c ?_|apply Cg 24;refine j0 [] jc4 ?_|apply_assumption -exfalso -symm)
   all_goals exact⟨(),trivial,v6⟩
  rintro _ _;dsimp only[Ac,Ae]
  (repeat' first|refine yyp ?_;try refine Ce ?_ ?_<;>intro hb|refine yy ?_|apply ah;refine Cc Iy ?_|refine Cb λK hK=>?_|apply Cg 8;refine j0 [] jc0 ?_|apply Cg 12;refine j0 [10,17] q03 ?_|apply Cg 14;refine j0 [3,7] q0c ?_|apply Cg 24;refine j0 [] jc4 ?_|apply_assumption -exfalso -symm)
  refine k7 63 rfl λhsm=>?_;simp only[Ab]at hsm;refine k9 [9,10,11,12,65,66,67,68,69,70,71,72,73,74,75,76,77,78,79,80,81,82,83,84,85,86,87,88] [933,934] (λx:Nat × Nat × Nat=>[(65,.d (.int .i64 x.1)),(9,.own 933 x.2.1),(10,.own 934 x.2.2)]) (λx=>[(933,.row 45 42 true (rj2 p x.1) x.2.1),(934,.row 45 42 true (rj2 q x.1) x.2.2)]) (λx=>x.1<=q.ak.length) (λx=>q.ak.length - x.1) (0,0,0) (Ak _) λ⟨j,k1,k2⟩ hj=>?_;dsimp only[Ac,Ae]at hj ⊢;rcases Ai j q.ak.length with hj2|hj2
  ·have hjp:j<p.ak.length:=by rw[<-hlk.ak];exact hj2
   have hr1:=kg3 p j;have hr2:=kg3 q j;have hb1:=hlk.body;have hb2:=hlk.ak;have hs1:=mj6 p j hjp;have hs2:=mj6 q j hj2
   (repeat' first|apply Ca 12;(refine j2 12 ?_)|apply Ca 79;(refine Fu 79 ?_)|apply Ca 86;(refine Fu 86 ?_)|refine yyp ?_;try refine Ce ?_ ?_<;>intro hb|refine yy ?_|(apply Dw;first|(refine Gj (λkv=>?_))|(refine ai (λsx sp kv hsx hsp hsl=>?_)))|apply ah;refine Cc Iy ?_|refine qo9 ?_ ?_|refine Jd ?_ ?_|refine Cb λK hK=>?_|apply Cg 8;refine j0 [] jc0 ?_|apply Cg 12;refine j0 [10,17] q03 ?_|apply Cg 14;refine j0 [3,7] q0c ?_|apply Cg 24;refine j0 [] jc4 ?_|apply_assumption -exfalso -symm)
   all_goals exact⟨(j+1,_,_),(by dsimp only;omega),(by dsimp only;omega),by
    dsimp only;rw[hs1,hs2];exact v6⟩
  obtain rfl:j=q.ak.length:=by omega
  have hpp:=mx4 hgp;have hpq:=mx4 hgq;have e1:rj2 p q.ak.length++p.l.map dPr=(aB p).map dPr:=by rw[kn6,hlk.ak,Bv,hpp];simp only[Av]
  have e2:rj2 q q.ak.length++q.l.map dPr=(aB q).map dPr:=by rw[kn6,Bv,hpq];simp only[Av]
  have hr1:=kg3 p q.ak.length;have hr2:=kg3 q q.ak.length;have hb1:=hlk.body;have hb2:=hlk.ak;have hb3:=hlk.l
  ((repeat' first|refine rq2 14 ?_;refine halt ?_|refine yyp ?_;try refine Ce ?_ ?_<;>intro hb|refine yy ?_|apply ah;refine Cc Iy ?_|refine Cb λK hK=>?_|apply Cg 8;refine j0 [] jc0 ?_|apply Cg 12;refine j0 [10,17] q03 ?_|apply Cg 14;refine j0 [3,7] q0c ?_|apply Cg 24;refine j0 [] jc4 ?_|apply_assumption -exfalso -symm);all_goals try refine unhalt ?_)
  refine jp9 [9,10] [933,934] (λx:Nat × Nat=>[(9,.own 933 x.1),(10,.own 934 x.2)]) (λx=>[(933,.row 45 42 true ((aB p).map dPr) x.1),(934,.row 45 42 true ((aB q).map dPr) x.2)]) (λ_=>True) ?_ ?_
  ·rw[<-e1,<-e2]
   (repeat' first|refine yyp ?_;try refine Ce ?_ ?_<;>intro hb|(apply Dw;first|(refine Gj (λkv=>?_))|(refine ai (λsx sp kv hsx hsp hsl=>?_)))|apply ah;refine Cc Iy ?_|refine Jd ?_ ?_|refine Cb λK hK=>?_|apply Cg 8;refine j0 [] jc0 ?_|apply Cg 12;refine j0 [10,17] q03 ?_|apply Cg 14;refine j0 [3,7] q0c ?_|apply Cg 24;refine j0 [] jc4 ?_|apply_assumption -exfalso -symm)
   all_goals exact⟨(_,_),trivial,v6⟩
  rintro⟨k3,k4⟩ _;dsimp only[Ac,Ae];refine jl3 (kw3 9 rfl (ToD.own rfl)) ?_;refine jl3 (kw3 10 rfl (ToD.own rfl)) ?_;rw[v7];have hN:(aB q).length=(aB p).length:=jd6 hlk.parts;refine k7 9 rfl λhsm3=>?_;simp only[Ab]at hsm3
  (repeat' first|refine yyp ?_;try refine Ce ?_ ?_<;>intro hb|refine yy ?_|apply ah;refine Cc Iy ?_|refine Cb λK hK=>?_|apply Cg 8;refine j0 [] jc0 ?_|apply Cg 12;refine j0 [10,17] q03 ?_|apply Cg 14;refine j0 [3,7] q0c ?_|apply Cg 24;refine j0 [] jc4 ?_|apply_assumption -exfalso -symm)
  refine k9 [6,7,14,15,16,103,104,105,106,107,108,109,110,111,112,113,114,115,116,117,118,119,120,121,122,123,124,125,126,127,128,129,130,131,132,133,134,135,136,137,138,139,140,141,142,143,144,145,146,147,148,149,150,151,152] [] (λx:Nat × ByteArray=>[(103,.d (.int .i64 x.1)),(6,.d (.str x.2)),(7,.d (.bool false))]) (λ_=>[]) (λx=>x.1<=(aB p).length/\(∀ y∈(aB q).take x.1,brB ω y=false)/\∀ (k:Nat) (g:Gu),q.ak[k]? =some g->p.spec.body.length+k<x.1->Mc ω g.aj=false) (λx=>(aB p).length - x.1) (0,_) ⟨Ak _,by simp,λk g _ h=>by omega⟩ λ⟨i,n⟩ ⟨hi,hy,hg⟩=>?_;dsimp only[Ac,Ae]at hi hy hg ⊢;rcases Ai i (aB p).length with hi2|hi2
  ·have hiq:i<(aB q).length:=by omega
   have hone:=hrec i hi2 hiq
   ((repeat' first|refine ke1 19 ?_;refine halt ?_|refine yyp ?_;try refine Ce ?_ ?_<;>intro hb|refine yy ?_|apply ah;refine Cc Iy ?_|refine Cb λK hK=>?_|apply Cg 8;refine j0 [] jc0 ?_|apply Cg 12;refine j0 [10,17] q03 ?_|apply Cg 14;refine j0 [3,7] q0c ?_|apply Cg 24;refine j0 [] jc4 ?_|apply_assumption -exfalso -symm);all_goals try refine unhalt ?_)
   refine jp9 [] [] (λ_:Unit=>[]) (λ_=>[]) (λ_=>∀ (k:Nat) (g:Gu),q.ak[k]? =some g->p.spec.body.length+k=i->Mc ω g.aj=false) ?_ ?_
   ·rcases Ai i p.spec.body.length with hA|hA
    ·(repeat' first|refine yyp ?_;try refine Ce ?_ ?_<;>intro hb|refine yy ?_|apply ah;refine Cc Iy ?_|refine Cb λK hK=>?_|apply Cg 8;refine j0 [] jc0 ?_|apply Cg 12;refine j0 [10,17] q03 ?_|apply Cg 14;refine j0 [3,7] q0c ?_|apply Cg 24;refine j0 [] jc4 ?_|apply_assumption -exfalso -symm)
     all_goals first
      |(exfalso;omega)
      |exact⟨(),λk g _ h=>by omega,v6⟩
    obtain⟨k,rfl⟩:∃ k,i=p.spec.body.length+k:=⟨i - p.spec.body.length,by omega⟩;have hsub:(((p.spec.body.length+k:Nat):Int) - (p.spec.body.length:Nat))=(k:Nat):=by omega
    rcases Ai k p.ak.length with hB|hB
    ·have hkq:k<q.ak.length:=by rw[hlk.ak];exact hB
     have c7:=ct q.ak[k].aj;have ht7:=mx3 ω q.ak[k].aj;rw[r8]at c7;cases htb2:Mc ω q.ak[k].aj with
     |true=>
      obtain⟨m,hm,hml⟩:=ht7.2 htb2;have hml2:m<p.ak[k].aj.length:=by rw[<-hlk.gt k hB hkq];exact hml
      rw[hm]at c7
      (repeat' first|apply Ca 108;(refine yyp ?_;rw[hsub])|apply Ca 125;refine Ch (hc:=c7) ?_|refine yyp ?_;try refine Ce ?_ ?_<;>intro hb|refine yy ?_|apply ah;refine Cc Iy ?_|refine Cb λK hK=>?_|apply Cg 8;refine j0 [] jc0 ?_|apply Cg 12;refine j0 [10,17] q03 ?_|apply Cg 14;refine j0 [3,7] q0c ?_|apply Cg 24;refine j0 [] jc4 ?_|apply_assumption -exfalso -symm)
      all_goals first
       |(exfalso;omega)
       |(refine j1 (j8 ⟨p.ak[k].aj[m].s,λ_=>.gu hno1 hno2 htb hy (λj g hj h=>hg j g h (by omega)) (Ar hkq) (qu1 hm) (Ar hB) (Ar hml2),?_,rfl⟩)
         rw[hbr.2 (.inr (.inr (.inr (.inl ⟨_,Ao hkq,htb2⟩))))];rfl)
     |false=>
      have htn2:¬0<=qd7 ω q.ak[k].aj:=λh=>by rw[ht7.1.1 h]at htb2;cases htb2
      generalize qd7 ω q.ak[k].aj=tv2 at c7 htn2
      (repeat' first|apply Ca 108;(refine yyp ?_;rw[hsub])|apply Ca 125;refine Ch (hc:=c7) ?_|refine yyp ?_;try refine Ce ?_ ?_<;>intro hb|refine yy ?_|apply ah;refine Cc Iy ?_|refine Cb λK hK=>?_|apply Cg 8;refine j0 [] jc0 ?_|apply Cg 12;refine j0 [10,17] q03 ?_|apply Cg 14;refine j0 [3,7] q0c ?_|apply Cg 24;refine j0 [] jc4 ?_|apply_assumption -exfalso -symm)
      all_goals first
       |(exfalso;omega)
       |exact⟨(),λk2 g h1 h2=>by
         obtain rfl:k2=k:=by omega
         rw[Ar hkq]at h1;cases h1;exact htb2,v6⟩
    ·(repeat' first|apply Ca 108;(refine yyp ?_;rw[hsub])|refine yyp ?_;try refine Ce ?_ ?_<;>intro hb|refine yy ?_|apply ah;refine Cc Iy ?_|refine Cb λK hK=>?_|apply Cg 8;refine j0 [] jc0 ?_|apply Cg 12;refine j0 [10,17] q03 ?_|apply Cg 14;refine j0 [3,7] q0c ?_|apply Cg 24;refine j0 [] jc4 ?_|apply_assumption -exfalso -symm)
     all_goals first
      |(exfalso;omega)
      |exact⟨(),λk2 g h1 h2=>by
        have:=(Ay.1 h1).1;omega,v6⟩
   rintro _ hgi;dsimp only[Ac,Ae];cases hbb:brB ω (aB q)[i]with
   |true=>
    rw[hbb]at hone
    (repeat' first|apply Ca 148;(refine Fy (hc:=hone) ?_;rintro n2 hn2)|refine yyp ?_;try refine Ce ?_ ?_<;>intro hb|refine yy ?_|apply ah;refine Cc Iy ?_|refine Cb λK hK=>?_|apply Cg 8;refine j0 [] jc0 ?_|apply Cg 12;refine j0 [10,17] q03 ?_|apply Cg 14;refine j0 [3,7] q0c ?_|apply Cg 24;refine j0 [9] rq1 ?_|apply_assumption -exfalso -symm)
    refine j1 (j8 ⟨n2,λ_=>.part hno1 hno2 htb hy (λj g hj h=>?_) (Ar hi2) (Ar hiq) hbb (hn2 rfl),?_,rfl⟩)
    ·rcases Ai (p.spec.body.length+j) i with h3|h3
     ·exact hg j g h h3
     ·exact hgi j g h (by omega)
    rw[hbr.2 (.inr (.inr (.inr (.inr ⟨_,Ao hiq,hbb⟩))))];rfl
   |false=>
    rw[hbb]at hone
    (repeat' first|apply Ca 148;(refine Fy (hc:=hone) ?_;rintro n2 hn2)|refine yyp ?_;try refine Ce ?_ ?_<;>intro hb|refine yy ?_|apply ah;refine Cc Iy ?_|refine Cb λK hK=>?_|apply Cg 8;refine j0 [] jc0 ?_|apply Cg 12;refine j0 [10,17] q03 ?_|apply Cg 14;refine j0 [3,7] q0c ?_|apply Cg 24;refine j0 [9] rq1 ?_|apply_assumption -exfalso -symm)
    refine⟨(i+1,n2),⟨by dsimp only;omega,λy hyy=>?_,λk g h1 h2=>?_⟩,by dsimp only;omega,v6⟩
    ·dsimp only at hyy;rw[An hiq,Au,Bs]at hyy;rcases hyy with hyy|rfl
     ·exact hy y hyy
     ·exact hbb
    ·dsimp only at h2;rcases Ai (p.spec.body.length+k) i with h3|h3
     ·exact hg k g h1 h3
     ·exact hgi k g h1 (by omega)
  ·have hlp:(aB p).length=p.spec.body.length+p.ak.length+p.l.length:=by
    rw[hpp];simp only[Ag,Ab]
   have hfin:brB ω q=false:=by
    cases hbq:brB ω q with
    |false=>rfl
    |true=>
     rcases hbr.1 hbq with h|h|h|⟨g,hg',h⟩|⟨x,hx,h⟩
     ·exact absurd h hno1
     ·exact absurd h hno2
     ·rw[htb]at h;cases h
     ·obtain⟨k,hk⟩:=List.getElem?_of_mem hg';have hk2:=(Ay.1 hk).1;rw[hg k g hk (by omega)]at h;cases h
     ·rw[hy x (by rw[Ba (by omega)];exact hx)]at h;cases h
   (repeat' first|refine yyp ?_;try refine Ce ?_ ?_<;>intro hb|refine yy ?_|apply ah;refine Cc Iy ?_|refine Cb λK hK=>?_|apply Cg 8;refine j0 [] jc0 ?_|apply Cg 12;refine j0 [10,17] q03 ?_|apply Cg 14;refine j0 [3,7] q0c ?_|apply Cg 24;refine j0 [] jc4 ?_|apply_assumption -exfalso -symm)
   refine j1 (j8 ⟨n,(λh=>by rw[hfin]at h;cases h),?_,rfl⟩);rw[hfin];rfl
theorem vk2 (ω:Wd)(hr:Rank ω.is):∀ (n:Nat) (p q:Pr),SizeOf.sizeOf p<=n->jk3 p q->Hz p->Hz q->FnE prog gl 37 [.ptr 900 0,.d (dPr p),.d (dPr q)] (HA ω) (λv H1=>∃ n:ByteArray,(brB ω q=true->Nm ω p q n)/\v=.tup [.d (.str n),.d (.bool (brB ω q))]/\H1=HA ω):=by
 intro n
 induction n with
 |zero=>intro p q h;cases p;simp only[Pr.mk.sizeOf_spec]at h;omega
 |succ n ih=>
  intro p q hp hl ha hb;have hmp:=jm3 ha;have hmq:=jm3 hb;have fp:=jd7 hmp;have fq:=jd7 hmq;have hbl:=mw9 hmp;refine vk1 gl ω hr p q (vk0 hl) (λh=>(jy2 (fp.spec h).2).names) (λh=>(fq.spec h).1) (rz9 hmp).gus (rz9 hmq).gus ⟨by omega,by have:=fp.lens;omega,by have:=fp.lens;omega⟩ (λh=>⟨?_,?_⟩) (by have:=fq.head;omega) λi h h'=>ih _ _ ?_ (kn4 (vk0 hl).parts i h h') (jj3 ha (Ao h)) (jj3 hb (Ao h'))
  ·have:=(fq.spec h).1;cases hql:q.l with
   |nil=>exact absurd hql this
   |cons a l=>exact jj3 hb (by simp only[aB,Au];rw[hql];exact .inr Aw)
  ·have:=fq.head.1;simp only[Gw]at this;omega
  ·have:=jb0 (Ao h);omega
end Al
end
end Go.Proofs.YtklklgfpkpglgaaGreatDoor
