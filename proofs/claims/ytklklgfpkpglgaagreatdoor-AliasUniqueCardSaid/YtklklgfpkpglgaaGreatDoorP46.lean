/- Parts: A20. -/
import Derived.Test.YtklklgfpkpglgaaGreatDoorP45
set_option linter.all false
set_option maxRecDepth 100000
set_option maxHeartbeats 16000000
namespace Go.Proofs.YtklklgfpkpglgaaGreatDoor
open Go.RowKit Go.Proofs.Tryz
section
def Jb:List Nat:=[0,1,2,4,5,6,7,8,9,10,11,12,13,14,15,16,25,39,47,63,64,65,66,102,103,104,117,127,151]
def jb6:Plan:=lin [0,4,16,20,9,25,14,30,32,36]
def jc0:Plan:=lin [0,4,8,12,20,24,28,17,33,38,40,44,48,52,56]
def rh4:Plan:=lin [0,4,8,12,20,24,28,17,33,39,40,44,48,52,56]
namespace Al
open Lx Sc
theorem rh5 {E:Set}{Q:Exit->Sd->Prop}(id:Nat){S:Sd}{y:Code}{ops:Array Oper}{dr:Bool}(h:TC E (.seq (.region id ops dr) y) Q S):TC E (.seq (.region id ops dr) y) Q S:=h
inductive Nm (ω:Wd):Pr->Pr->ByteArray->Prop
 |spec {p q:Pr} {n:ByteArray} (h1:q.kind=18/\Jj ω q.spec.kind q.spec.e (hdP q.l)=false) (hn:p.spec.names.head? =some n):Nm ω p q n
 |call {p q:Pr} (h1:¬(q.kind=18/\Jj ω q.spec.kind q.spec.e (hdP q.l)=false)) (h2:q.kind=17/\Og ω q.name q.exprs=false):Nm ω p q p.name
 |tgt {p q:Pr} {k:Nat} {e:Ex} (h1:¬(q.kind=18/\Jj ω q.spec.kind q.spec.e (hdP q.l)=false)) (h2:¬(q.kind=17/\Og ω q.name q.exprs=false)) (h3:Jl ω [] q.targets=some k) (he:p.targets[k]? =some e):Nm ω p q e.s
 |gu {p q:Pr} {k m:Nat} {g h:Gu} {e:Ex} (h1:¬(q.kind=18/\Jj ω q.spec.kind q.spec.e (hdP q.l)=false)) (h2:¬(q.kind=17/\Og ω q.name q.exprs=false)) (h3:Ng ω q.targets=false) (hy:∀ y∈(partsOf q).take (p.spec.body.length+k),brB ω y=false)
  (hg:∀ (j:Nat) (g:Gu),j<k->q.guards[j]? =some g->Ng ω g.targets=false) (e1:q.guards[k]? =some g) (e2:Jl ω [] g.targets=some m) (e3:p.guards[k]? =some h) (e4:h.targets[m]? =some e):Nm ω p q e.s
 |part {p q x y:Pr} {i:Nat} {n:ByteArray} (h1:¬(q.kind=18/\Jj ω q.spec.kind q.spec.e (hdP q.l)=false)) (h2:¬(q.kind=17/\Og ω q.name q.exprs=false)) (h3:Ng ω q.targets=false) (hy:∀ y∈(partsOf q).take i,brB ω y=false)
  (hg:∀ (j:Nat) (g:Gu),p.spec.body.length+j<=i->q.guards[j]? =some g->Ng ω g.targets=false) (e1:(partsOf p)[i]? =some x) (e2:(partsOf q)[i]? =some y) (hb:brB ω y=true) (hn:Nm ω x y n):Nm ω p q n
theorem qo9 {ω:Wd}{l:List Ex}{k:Nat}(h:qa6 ω l=(k:Int)):Jl ω [] l=some k:=by
 unfold qa6 at h;cases h2:Jl ω [] l with
 |none=>
  rw[h2]at h;have h3:(-1:Int)=(k:Nat):=h;omega
 |some j=>
  rw[h2]at h;have h3:((j:Nat):Int)=(k:Nat):=h;have:j=k:=by omega
  rw[this]
def rb7 (p:Pr):Nat->List D
 |0=>p.spec.body.map dPr
 |j+1=>(p.spec.body++(p.guards.take (j+1)).map fun g=>hdP g.body).map dPr
theorem ko1 (p:Pr)(j:Nat):rb7 p j=(p.spec.body++(p.guards.take j).map fun g=>hdP g.body).map dPr:=by
 cases j with
 |zero=>simp[rb7]
 |succ j=>rfl
theorem mh9 (p:Pr)(j:Nat)(h:j<p.guards.length):rb7 p (j+1)=rb7 p j++[dP (hdP p.guards[j].body)]:=by
 rw[ko1,ko1,Ao h,As,As,As,As,Bv];rw[j9];rfl
theorem kh8 (p:Pr)(j:Nat):(rb7 p j).length<=p.spec.body.length+p.guards.length:=by
 rw[ko1];simp only[Ab,Ag,Aj];omega
attribute [local irreducible] TR TC
theorem ry7 (gl:List (Nat × List D))(ω:Wd)(hr:Rank ω.is)(p q:Pr)(hlk:Alike p q)(hnm:p.kind=18->p.spec.names≠[])(hq18:q.kind=18->q.l≠[])(hgp:∀ g∈p.guards,∃ b,g.body=[b])(hgq:∀ g∈q.guards,∃ b,g.body=[b])(hln:p.spec.body.length<=3000/\p.guards.length<=3000/\p.l.length<=3000)
 (hab:q.kind=18->Ik (hdP q.l)/\exN q.spec.e<=10000) (hca:Gj q.exprs<=10000)
 (hrec:∀ (i:Nat) (h:i<(partsOf p).length) (h':i<(partsOf q).length),FnE prog gl 37 [.ptr 900 0,.d (dPr (partsOf p)[i]),.d (dPr (partsOf q)[i])] (HA ω) (fun v H1=>∃ n:ByteArray,(brB ω (partsOf q)[i]=true->Nm ω (partsOf p)[i] (partsOf q)[i] n)/\v=.tup [.d (.str n),.d (.bool (brB ω (partsOf q)[i]))]/\H1=HA ω)):
 FnE prog gl 37 [.ptr 900 0,.d (dPr p),.d (dPr q)] (HA ω) (fun v H1=>∃ n:ByteArray,(brB ω q=true->Nm ω p q n)/\v=.tup [.d (.str n),.d (.bool (brB ω q))]/\H1=HA ω):=by
 have hkk:=hlk.kind;have ca:=fun(h:q.kind=18) (a:Pr) (l:List Pr) (hl:q.l=a::l)=>rp3 gl ω hr q a l hl (by have:=(hab h).1;rw[hl]at this;exact this) (hab h).2;have cc:=rp7 gl ω hr q hca;have ct:=fun l=>qo6 gl ω hr l;simp only[j9]at ca cc hrec;rw[j9];dsimp only[HA]at ca cc ct hrec ⊢
 (refine j2 func37 ntmps37 results37 fun w M E b0=>?_)
 have hbr:=mv9 (w:=ω) q
 (repeat' first|refine Ca 4 ?_;(refine Cq 4 ?_)|refine Ca 5 ?_;(refine Cq 5 ?_)|refine yyp ?_;try refine Ce ?_ ?_<;>intro hb|refine yy ?_|refine at_nil ?_;refine Cc Jb ?_|refine Cb fun K hK=>?_|refine Cf 8 ?_;refine j0 [] jb6 ?_|refine Cf 12 ?_;refine j0 [10,17] q03 ?_|refine Cf 14 ?_;refine j0 [3,7] q0c ?_|refine Cf 24 ?_;refine j0 [] jc0 ?_|apply_assumption -exfalso -symm)
 refine qv9 rfl ?_;refine jq9 [] [] (fun _:Unit=>[]) (fun _=>[]) (fun _=>¬(q.kind=18/\Jj ω q.spec.kind q.spec.e (hdP q.l)=false)) ?_ ?_
 ·by_cases h18:q.kind=18
  ·obtain⟨a,l,hl⟩:∃ a l,q.l=a::l:=by
    cases h:q.l with
    |nil=>exact absurd h (hq18 h18)
    |cons a l=>exact⟨a,l,rfl⟩
   obtain⟨s0,ns,hn⟩:∃ s l,p.spec.names=s::l:=by
    cases h:p.spec.names with
    |nil=>exact absurd h (hnm (by omega))
    |cons a l=>exact⟨a,l,rfl⟩
   have c1:=ca h18 a l hl;have hhd:hdP q.l=a:=by rw[hl];rfl
   rw[hhd]at hbr ⊢;rw[hn];cases hab2:Jj ω q.spec.kind q.spec.e a with
   |false=>
    rw[hab2]at c1
    (repeat' first|refine Ca 23 ?_;refine Cg (hc:=c1) ?_;try refine Ce ?_ ?_<;>intro hb|refine yyp ?_;try refine Ce ?_ ?_<;>intro hb|refine yy ?_|refine at_nil ?_;refine Cc Jb ?_|refine Cb fun K hK=>?_|refine Cf 8 ?_;refine j0 [] jb6 ?_|refine Cf 12 ?_;refine j0 [10,17] q03 ?_|refine Cf 14 ?_;refine j0 [3,7] q0c ?_|refine Cf 24 ?_;refine j0 [] jc0 ?_|apply_assumption -exfalso -symm)
    all_goals first
     |(exfalso;omega)
     |(refine j1 (j4 ⟨s0,fun _=>.spec ⟨h18,by rw[hhd];exact hab2⟩ (by rw[hn];rfl),?_,rfl⟩)
       rw[hbr.2 (.inl ⟨h18,hab2⟩)];rfl)
   |true=>
    rw[hab2]at c1
    (repeat' first|refine Ca 23 ?_;refine Cg (hc:=c1) ?_;try refine Ce ?_ ?_<;>intro hb|refine yyp ?_;try refine Ce ?_ ?_<;>intro hb|refine yy ?_|refine at_nil ?_;refine Cc Jb ?_|refine Cb fun K hK=>?_|refine Cf 8 ?_;refine j0 [] jb6 ?_|refine Cf 12 ?_;refine j0 [10,17] q03 ?_|refine Cf 14 ?_;refine j0 [3,7] q0c ?_|refine Cf 24 ?_;refine j0 [] jc0 ?_|apply_assumption -exfalso -symm)
    all_goals first
     |(exfalso;omega)
     |exact⟨(),(fun h=>by cases h.2),k8⟩
  ·(repeat' first|refine yyp ?_;try refine Ce ?_ ?_<;>intro hb|refine yy ?_|refine at_nil ?_;refine Cc Jb ?_|refine Cb fun K hK=>?_|refine Cf 8 ?_;refine j0 [] jb6 ?_|refine Cf 12 ?_;refine j0 [10,17] q03 ?_|refine Cf 14 ?_;refine j0 [3,7] q0c ?_|refine Cf 24 ?_;refine j0 [] jc0 ?_|apply_assumption -exfalso -symm)
   all_goals first
    |(exfalso;omega)
    |exact⟨(),fun h=>h18 h.1,k8⟩
 rintro _ hno1;dsimp only[Ac,Af]
 ((repeat' first|refine kf3 3 ?_;refine halt ?_|refine Cb fun K hK=>?_|refine Cf 8 ?_;refine j0 [] jb6 ?_|refine Cf 12 ?_;refine j0 [10,17] q03 ?_|refine Cf 14 ?_;refine j0 [3,7] q0c ?_|refine Cf 24 ?_;refine j0 [] jc0 ?_|apply_assumption -exfalso -symm);all_goals try refine unhalt ?_)
 refine jq9 [] [] (fun _:Unit=>[]) (fun _=>[]) (fun _=>¬(q.kind=17/\Og ω q.name q.exprs=false)) ?_ ?_
 ·by_cases h17:q.kind=17
  ·cases hcb:Og ω q.name q.exprs with
   |false=>
    rw[hcb]at cc
    (repeat' first|refine Ca 37 ?_;refine Cg (hc:=cc) ?_;try refine Ce ?_ ?_<;>intro hb|refine yyp ?_;try refine Ce ?_ ?_<;>intro hb|refine yy ?_|refine at_nil ?_;refine Cc Jb ?_|refine Cb fun K hK=>?_|refine Cf 8 ?_;refine j0 [] jb6 ?_|refine Cf 12 ?_;refine j0 [10,17] q03 ?_|refine Cf 14 ?_;refine j0 [3,7] q0c ?_|refine Cf 24 ?_;refine j0 [] jc0 ?_|apply_assumption -exfalso -symm)
    all_goals first
     |(exfalso;omega)
     |(refine j1 (j4 ⟨p.name,fun _=>.call hno1 ⟨h17,hcb⟩,?_,rfl⟩)
       rw[hbr.2 (.inr (.inl ⟨h17,hcb⟩))];rfl)
   |true=>
    rw[hcb]at cc
    (repeat' first|refine Ca 37 ?_;refine Cg (hc:=cc) ?_;try refine Ce ?_ ?_<;>intro hb|refine yyp ?_;try refine Ce ?_ ?_<;>intro hb|refine yy ?_|refine at_nil ?_;refine Cc Jb ?_|refine Cb fun K hK=>?_|refine Cf 8 ?_;refine j0 [] jb6 ?_|refine Cf 12 ?_;refine j0 [10,17] q03 ?_|refine Cf 14 ?_;refine j0 [3,7] q0c ?_|refine Cf 24 ?_;refine j0 [] jc0 ?_|apply_assumption -exfalso -symm)
    all_goals first
     |(exfalso;omega)
     |exact⟨(),(fun h=>by cases h.2),k8⟩
  ·(repeat' first|refine yyp ?_;try refine Ce ?_ ?_<;>intro hb|refine yy ?_|refine at_nil ?_;refine Cc Jb ?_|refine Cb fun K hK=>?_|refine Cf 8 ?_;refine j0 [] jb6 ?_|refine Cf 12 ?_;refine j0 [10,17] q03 ?_|refine Cf 14 ?_;refine j0 [3,7] q0c ?_|refine Cf 24 ?_;refine j0 [] jc0 ?_|apply_assumption -exfalso -symm)
   all_goals first
    |(exfalso;omega)
    |exact⟨(),fun h=>h17 h.1,k8⟩
 rintro _ hno2;dsimp only[Ac,Af];have ht1:=mw0 ω q.targets;have c5:=ct q.targets;rw[k9]at c5 ⊢;cases htb:Ng ω q.targets with
 |true=>
  obtain⟨k,hk,hkl⟩:=ht1.2 htb;have hkl2:k<p.targets.length:=by rw[<-hlk.targets];exact hkl
  rw[hk]at c5
  (repeat' first|refine Ca 45 ?_;refine Cg (hc:=c5) ?_|refine yyp ?_;try refine Ce ?_ ?_<;>intro hb|refine yy ?_|refine at_nil ?_;refine Cc Jb ?_|refine Cb fun K hK=>?_|refine Cf 8 ?_;refine j0 [] jb6 ?_|refine Cf 12 ?_;refine j0 [10,17] q03 ?_|refine Cf 14 ?_;refine j0 [3,7] q0c ?_|refine Cf 24 ?_;refine j0 [] jc0 ?_|apply_assumption -exfalso -symm)
  all_goals first
   |(exfalso;omega)
   |(refine j1 (j4 ⟨p.targets[k].s,fun _=>.tgt hno1 hno2 (qo9 hk) (At hkl2),?_,rfl⟩)
     rw[hbr.2 (.inr (.inr (.inl htb)))];rfl)
 |false=>
  have htn:¬0<=qa6 ω q.targets:=fun h=>by rw[ht1.1.1 h]at htb;cases htb
  generalize qa6 ω q.targets=tv at c5 htn
  ((repeat' first|refine Ca 45 ?_;refine Cg (hc:=c5) ?_|refine rh5 8 ?_;refine halt ?_|refine yyp ?_;try refine Ce ?_ ?_<;>intro hb|refine yy ?_|refine at_nil ?_;refine Cc Jb ?_|refine Cb fun K hK=>?_|refine Cf 8 ?_;refine j0 [] jb6 ?_|refine Cf 12 ?_;refine j0 [10,17] q03 ?_|refine Cf 14 ?_;refine j0 [3,7] q0c ?_|refine Cf 24 ?_;refine j0 [] jc0 ?_|apply_assumption -exfalso -symm);all_goals try refine unhalt ?_)
  rw[<-k9,rh3 hgp,rh3 hgq];have c8:=kz0 gl (p.spec.body.map dPr) (by rw[Ab];omega);have c9:=kz1 gl (q.spec.body.map dPr) (by rw[Ab,hlk.body];omega);refine jq9 [] [] (fun _:Unit=>[(9,.own 933 0),(10,.own 934 0)]) (fun _=>[(933,.row 45 42 true (p.spec.body.map dPr) 0),(934,.row 45 42 true (q.spec.body.map dPr) 0)]) (fun _=>True) ?_ ?_
  ·(repeat' first|refine Ca 57 ?_;refine Cg (hc:=c8) ?_|refine Ca 61 ?_;refine Cg (hc:=c9) ?_|refine yyp ?_;try refine Ce ?_ ?_<;>intro hb|refine at_nil ?_;refine Cc Jb ?_|refine Hz ?_ ?_|(apply Hy (x:=.region 8 _ _);focus ((refine Cf 8 ?_;refine j0 [3,7] q0c ?_);(repeat' (first|refine Ca 57 ?_;refine Cg (hc:=c8) ?_));(all_goals first|exact Wk.refl _ _|exact k8);done))|refine Cb fun K hK=>?_|refine Cf 8 ?_;refine j0 [3,7] q0c ?_|refine Cf 12 ?_;refine j0 [10,17] q03 ?_|refine Cf 14 ?_;refine j0 [3,7] q0c ?_|refine Cf 24 ?_;refine j0 [] jc0 ?_|apply_assumption -exfalso -symm)
   all_goals exact⟨(),trivial,k8⟩
  rintro _ _;dsimp only[Ac,Af]
  (repeat' first|refine yyp ?_;try refine Ce ?_ ?_<;>intro hb|refine yy ?_|refine at_nil ?_;refine Cc Jb ?_|refine Cb fun K hK=>?_|refine Cf 8 ?_;refine j0 [] jb6 ?_|refine Cf 12 ?_;refine j0 [10,17] q03 ?_|refine Cf 14 ?_;refine j0 [3,7] q0c ?_|refine Cf 24 ?_;refine j0 [] jc0 ?_|apply_assumption -exfalso -symm)
  refine j8 63 rfl fun hsm=>?_;simp only[Ab]at hsm;refine j6 [9,10,11,12,65,66,67,68,69,70,71,72,73,74,75,76,77,78,79,80,81,82,83,84,85,86,87,88] [933,934] (fun x:Nat × Nat × Nat=>[(65,.d (.int .i64 x.1)),(9,.own 933 x.2.1),(10,.own 934 x.2.2)]) (fun x=>[(933,.row 45 42 true (rb7 p x.1) x.2.1),(934,.row 45 42 true (rb7 q x.1) x.2.2)]) (fun x=>x.1<=q.guards.length) (fun x=>q.guards.length - x.1) (0,0,0) (Ai _) fun⟨j,k1,k2⟩ hj=>?_;dsimp only[Ac,Af]at hj ⊢;rcases Ah j q.guards.length with hj2|hj2
  ·have hjp:j<p.guards.length:=by rw[<-hlk.guards];exact hj2
   have hr1:=kh8 p j;have hr2:=kh8 q j;have hb1:=hlk.body;have hb2:=hlk.guards;have hs1:=mh9 p j hjp;have hs2:=mh9 q j hj2
   (repeat' first|refine Ca 12 ?_;(refine j3 12 ?_)|refine Ca 79 ?_;(refine Dn 79 ?_)|refine Ca 86 ?_;(refine Dn 86 ?_)|refine yyp ?_;try refine Ce ?_ ?_<;>intro hb|refine yy ?_|(refine Da ?_;first|(refine Df (fun kv=>?_))|(refine z_append_suf (fun sx sp kv hsx hsp hsl=>?_)))|refine at_nil ?_;refine Cc Jb ?_|refine kf2 ?_ ?_|refine Hz ?_ ?_|refine Cb fun K hK=>?_|refine Cf 8 ?_;refine j0 [] jb6 ?_|refine Cf 12 ?_;refine j0 [10,17] q03 ?_|refine Cf 14 ?_;refine j0 [3,7] q0c ?_|refine Cf 24 ?_;refine j0 [] jc0 ?_|apply_assumption -exfalso -symm)
   all_goals exact⟨(j+1,_,_),(by dsimp only;omega),(by dsimp only;omega),by
    dsimp only;rw[hs1,hs2];exact k8⟩
  obtain rfl:j=q.guards.length:=by omega
  have hpp:=mw1 hgp;have hpq:=mw1 hgq;have e1:rb7 p q.guards.length++p.l.map dPr=(partsOf p).map dPr:=by rw[ko1,hlk.guards,Bg,hpp];simp only[As]
  have e2:rb7 q q.guards.length++q.l.map dPr=(partsOf q).map dPr:=by rw[ko1,Bg,hpq];simp only[As]
  have hr1:=kh8 p q.guards.length;have hr2:=kh8 q q.guards.length;have hb1:=hlk.body;have hb2:=hlk.guards;have hb3:=hlk.l
  ((repeat' first|refine rh5 14 ?_;refine halt ?_|refine yyp ?_;try refine Ce ?_ ?_<;>intro hb|refine yy ?_|refine at_nil ?_;refine Cc Jb ?_|refine Cb fun K hK=>?_|refine Cf 8 ?_;refine j0 [] jb6 ?_|refine Cf 12 ?_;refine j0 [10,17] q03 ?_|refine Cf 14 ?_;refine j0 [3,7] q0c ?_|refine Cf 24 ?_;refine j0 [] jc0 ?_|apply_assumption -exfalso -symm);all_goals try refine unhalt ?_)
  refine jq9 [9,10] [933,934] (fun x:Nat × Nat=>[(9,.own 933 x.1),(10,.own 934 x.2)]) (fun x=>[(933,.row 45 42 true ((partsOf p).map dPr) x.1),(934,.row 45 42 true ((partsOf q).map dPr) x.2)]) (fun _=>True) ?_ ?_
  ·rw[<-e1,<-e2]
   (repeat' first|refine yyp ?_;try refine Ce ?_ ?_<;>intro hb|(refine Da ?_;first|(refine Df (fun kv=>?_))|(refine z_append_suf (fun sx sp kv hsx hsp hsl=>?_)))|refine at_nil ?_;refine Cc Jb ?_|refine Hz ?_ ?_|refine Cb fun K hK=>?_|refine Cf 8 ?_;refine j0 [] jb6 ?_|refine Cf 12 ?_;refine j0 [10,17] q03 ?_|refine Cf 14 ?_;refine j0 [3,7] q0c ?_|refine Cf 24 ?_;refine j0 [] jc0 ?_|apply_assumption -exfalso -symm)
   all_goals exact⟨(_,_),trivial,k8⟩
  rintro⟨k3,k4⟩ _;dsimp only[Ac,Af];refine jm4 (kv0 9 rfl (ToD.own rfl)) ?_;refine jm4 (kv0 10 rfl (ToD.own rfl)) ?_;rw[j9];have hN:(partsOf q).length=(partsOf p).length:=jd3 hlk.parts;refine j8 9 rfl fun hsm3=>?_;simp only[Ab]at hsm3
  (repeat' first|refine yyp ?_;try refine Ce ?_ ?_<;>intro hb|refine yy ?_|refine at_nil ?_;refine Cc Jb ?_|refine Cb fun K hK=>?_|refine Cf 8 ?_;refine j0 [] jb6 ?_|refine Cf 12 ?_;refine j0 [10,17] q03 ?_|refine Cf 14 ?_;refine j0 [3,7] q0c ?_|refine Cf 24 ?_;refine j0 [] jc0 ?_|apply_assumption -exfalso -symm)
  refine j6 [6,7,14,15,16,103,104,105,106,107,108,109,110,111,112,113,114,115,116,117,118,119,120,121,122,123,124,125,126,127,128,129,130,131,132,133,134,135,136,137,138,139,140,141,142,143,144,145,146,147,148,149,150,151,152] [] (fun x:Nat × ByteArray=>[(103,.d (.int .i64 x.1)),(6,.d (.str x.2)),(7,.d (.bool false))]) (fun _=>[]) (fun x=>x.1<=(partsOf p).length/\(∀ y∈(partsOf q).take x.1,brB ω y=false)/\∀ (k:Nat) (g:Gu),q.guards[k]? =some g->p.spec.body.length+k<x.1->Ng ω g.targets=false) (fun x=>(partsOf p).length - x.1) (0,_) ⟨Ai _,by simp,fun k g _ h=>by omega⟩ fun⟨i,n⟩ ⟨hi,hy,hg⟩=>?_;dsimp only[Ac,Af]at hi hy hg ⊢;rcases Ah i (partsOf p).length with hi2|hi2
  ·have hiq:i<(partsOf q).length:=by omega
   have hone:=hrec i hi2 hiq
   ((repeat' first|refine kf3 19 ?_;refine halt ?_|refine yyp ?_;try refine Ce ?_ ?_<;>intro hb|refine yy ?_|refine at_nil ?_;refine Cc Jb ?_|refine Cb fun K hK=>?_|refine Cf 8 ?_;refine j0 [] jb6 ?_|refine Cf 12 ?_;refine j0 [10,17] q03 ?_|refine Cf 14 ?_;refine j0 [3,7] q0c ?_|refine Cf 24 ?_;refine j0 [] jc0 ?_|apply_assumption -exfalso -symm);all_goals try refine unhalt ?_)
   refine jq9 [] [] (fun _:Unit=>[]) (fun _=>[]) (fun _=>∀ (k:Nat) (g:Gu),q.guards[k]? =some g->p.spec.body.length+k=i->Ng ω g.targets=false) ?_ ?_
   ·rcases Ah i p.spec.body.length with hA|hA
    ·(repeat' first|refine yyp ?_;try refine Ce ?_ ?_<;>intro hb|refine yy ?_|refine at_nil ?_;refine Cc Jb ?_|refine Cb fun K hK=>?_|refine Cf 8 ?_;refine j0 [] jb6 ?_|refine Cf 12 ?_;refine j0 [10,17] q03 ?_|refine Cf 14 ?_;refine j0 [3,7] q0c ?_|refine Cf 24 ?_;refine j0 [] jc0 ?_|apply_assumption -exfalso -symm)
     all_goals first
      |(exfalso;omega)
      |exact⟨(),fun k g _ h=>by omega,k8⟩
    obtain⟨k,rfl⟩:∃ k,i=p.spec.body.length+k:=⟨i - p.spec.body.length,by omega⟩;have hsub:(((p.spec.body.length+k:Nat):Int) - (p.spec.body.length:Nat))=(k:Nat):=by omega
    rcases Ah k p.guards.length with hB|hB
    ·have hkq:k<q.guards.length:=by rw[hlk.guards];exact hB
     have c7:=ct q.guards[k].targets;have ht7:=mw0 ω q.guards[k].targets;rw[k9]at c7;cases htb2:Ng ω q.guards[k].targets with
     |true=>
      obtain⟨m,hm,hml⟩:=ht7.2 htb2;have hml2:m<p.guards[k].targets.length:=by rw[<-hlk.gt k hB hkq];exact hml
      rw[hm]at c7
      (repeat' first|refine Ca 108 ?_;(refine yyp ?_;rw[hsub])|refine Ca 125 ?_;refine Cg (hc:=c7) ?_|refine yyp ?_;try refine Ce ?_ ?_<;>intro hb|refine yy ?_|refine at_nil ?_;refine Cc Jb ?_|refine Cb fun K hK=>?_|refine Cf 8 ?_;refine j0 [] jb6 ?_|refine Cf 12 ?_;refine j0 [10,17] q03 ?_|refine Cf 14 ?_;refine j0 [3,7] q0c ?_|refine Cf 24 ?_;refine j0 [] jc0 ?_|apply_assumption -exfalso -symm)
      all_goals first
       |(exfalso;omega)
       |(refine j1 (j4 ⟨p.guards[k].targets[m].s,fun _=>.gu hno1 hno2 htb hy (fun j g hj h=>hg j g h (by omega)) (At hkq) (qo9 hm) (At hB) (At hml2),?_,rfl⟩)
         rw[hbr.2 (.inr (.inr (.inr (.inl ⟨_,Aw hkq,htb2⟩))))];rfl)
     |false=>
      have htn2:¬0<=qa6 ω q.guards[k].targets:=fun h=>by rw[ht7.1.1 h]at htb2;cases htb2
      generalize qa6 ω q.guards[k].targets=tv2 at c7 htn2
      (repeat' first|refine Ca 108 ?_;(refine yyp ?_;rw[hsub])|refine Ca 125 ?_;refine Cg (hc:=c7) ?_|refine yyp ?_;try refine Ce ?_ ?_<;>intro hb|refine yy ?_|refine at_nil ?_;refine Cc Jb ?_|refine Cb fun K hK=>?_|refine Cf 8 ?_;refine j0 [] jb6 ?_|refine Cf 12 ?_;refine j0 [10,17] q03 ?_|refine Cf 14 ?_;refine j0 [3,7] q0c ?_|refine Cf 24 ?_;refine j0 [] jc0 ?_|apply_assumption -exfalso -symm)
      all_goals first
       |(exfalso;omega)
       |exact⟨(),fun k2 g h1 h2=>by
         obtain rfl:k2=k:=by omega
         rw[At hkq]at h1;cases h1;exact htb2,k8⟩
    ·(repeat' first|refine Ca 108 ?_;(refine yyp ?_;rw[hsub])|refine yyp ?_;try refine Ce ?_ ?_<;>intro hb|refine yy ?_|refine at_nil ?_;refine Cc Jb ?_|refine Cb fun K hK=>?_|refine Cf 8 ?_;refine j0 [] jb6 ?_|refine Cf 12 ?_;refine j0 [10,17] q03 ?_|refine Cf 14 ?_;refine j0 [3,7] q0c ?_|refine Cf 24 ?_;refine j0 [] jc0 ?_|apply_assumption -exfalso -symm)
     all_goals first
      |(exfalso;omega)
      |exact⟨(),fun k2 g h1 h2=>by
        have:=(Ay.1 h1).1;omega,k8⟩
   rintro _ hgi;dsimp only[Ac,Af];cases hbb:brB ω (partsOf q)[i]with
   |true=>
    rw[hbb]at hone
    (repeat' first|refine Ca 148 ?_;(refine Gi (hc:=hone) ?_;rintro n2 hn2)|refine yyp ?_;try refine Ce ?_ ?_<;>intro hb|refine yy ?_|refine at_nil ?_;refine Cc Jb ?_|refine Cb fun K hK=>?_|refine Cf 8 ?_;refine j0 [] jb6 ?_|refine Cf 12 ?_;refine j0 [10,17] q03 ?_|refine Cf 14 ?_;refine j0 [3,7] q0c ?_|refine Cf 24 ?_;refine j0 [9] rh4 ?_|apply_assumption -exfalso -symm)
    refine j1 (j4 ⟨n2,fun _=>.part hno1 hno2 htb hy (fun j g hj h=>?_) (At hi2) (At hiq) hbb (hn2 rfl),?_,rfl⟩)
    ·rcases Ah (p.spec.body.length+j) i with h3|h3
     ·exact hg j g h h3
     ·exact hgi j g h (by omega)
    rw[hbr.2 (.inr (.inr (.inr (.inr ⟨_,Aw hiq,hbb⟩))))];rfl
   |false=>
    rw[hbb]at hone
    (repeat' first|refine Ca 148 ?_;(refine Gi (hc:=hone) ?_;rintro n2 hn2)|refine yyp ?_;try refine Ce ?_ ?_<;>intro hb|refine yy ?_|refine at_nil ?_;refine Cc Jb ?_|refine Cb fun K hK=>?_|refine Cf 8 ?_;refine j0 [] jb6 ?_|refine Cf 12 ?_;refine j0 [10,17] q03 ?_|refine Cf 14 ?_;refine j0 [3,7] q0c ?_|refine Cf 24 ?_;refine j0 [9] rh4 ?_|apply_assumption -exfalso -symm)
    refine⟨(i+1,n2),⟨by dsimp only;omega,fun y hyy=>?_,fun k g h1 h2=>?_⟩,by dsimp only;omega,k8⟩
    ·dsimp only at hyy;rw[Ao hiq,Ap,Bn]at hyy;rcases hyy with hyy|rfl
     ·exact hy y hyy
     ·exact hbb
    ·dsimp only at h2;rcases Ah (p.spec.body.length+k) i with h3|h3
     ·exact hg k g h1 h3
     ·exact hgi k g h1 (by omega)
  ·have hlp:(partsOf p).length=p.spec.body.length+p.guards.length+p.l.length:=by
    rw[hpp];simp only[Ag,Ab]
   have hfin:brB ω q=false:=by
    cases hbq:brB ω q with
    |false=>rfl
    |true=>
     rcases hbr.1 hbq with h|h|h|⟨g,hg',h⟩|⟨x,hx,h⟩
     ·exact absurd h hno1
     ·exact absurd h hno2
     ·rw[htb]at h;cases h
     ·obtain⟨k,hk⟩:=List.getElem?_of_mem hg';have hk2:=(Ay.1 hk).1;rw[hg k g hk (by omega)]at h;cases h
     ·rw[hy x (by rw[Am (by omega)];exact hx)]at h;cases h
   (repeat' first|refine yyp ?_;try refine Ce ?_ ?_<;>intro hb|refine yy ?_|refine at_nil ?_;refine Cc Jb ?_|refine Cb fun K hK=>?_|refine Cf 8 ?_;refine j0 [] jb6 ?_|refine Cf 12 ?_;refine j0 [10,17] q03 ?_|refine Cf 14 ?_;refine j0 [3,7] q0c ?_|refine Cf 24 ?_;refine j0 [] jc0 ?_|apply_assumption -exfalso -symm)
   refine j1 (j4 ⟨n,(fun h=>by rw[hfin]at h;cases h),?_,rfl⟩);rw[hfin];rfl
theorem ry8 (gl:List (Nat × List D))(ω:Wd)(hr:Rank ω.is):∀ (n:Nat) (p q:Pr),SizeOf.sizeOf p<=n->ji6 p q->Ik p->Ik q->FnE prog gl 37 [.ptr 900 0,.d (dPr p),.d (dPr q)] (HA ω) (fun v H1=>∃ n:ByteArray,(brB ω q=true->Nm ω p q n)/\v=.tup [.d (.str n),.d (.bool (brB ω q))]/\H1=HA ω):=by
 intro n
 induction n with
 |zero=>intro p q h;cases p;simp only[Pr.mk.sizeOf_spec]at h;omega
 |succ n ih=>
  intro p q hp hl ha hb;have hmp:=jn7 ha;have hmq:=jn7 hb;have fp:=jd5 hmp;have fq:=jd5 hmq;have hbl:=mv6 hmp;refine ry7 gl ω hr p q (ry6 hl) (fun h=>(jz3 (fp.spec h).2).names) (fun h=>(fq.spec h).1) (rp6 hmp).gus (rp6 hmq).gus ⟨by omega,by have:=fp.lens;omega,by have:=fp.lens;omega⟩ (fun h=>⟨?_,?_⟩) (by have:=fq.head;omega) fun i h h'=>ih _ _ ?_ (kn9 (ry6 hl).parts i h h') (jk2 ha (Aw h)) (jk2 hb (Aw h'))
  ·have:=(fq.spec h).1;cases hql:q.l with
   |nil=>exact absurd hql this
   |cons a l=>exact jk2 hb (by simp only[partsOf,Ap];rw[hql];exact .inr Az)
  ·have:=fq.head.1;simp only[Gj]at this;omega
  ·have:=ja9 (Aw h);omega
end Al
end
end Go.Proofs.YtklklgfpkpglgaaGreatDoor
