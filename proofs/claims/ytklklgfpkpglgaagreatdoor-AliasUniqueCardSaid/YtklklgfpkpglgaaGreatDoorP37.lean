/- Parts: S32, S33, S36, S40. -/
import Derived.Test.YtklklgfpkpglgaaGreatDoorP27
import Derived.Test.YtklklgfpkpglgaaGreatDoorP28
import Derived.Test.YtklklgfpkpglgaaGreatDoorP34
set_option linter.all false
set_option maxRecDepth 100000
set_option maxHeartbeats 16000000
namespace Go.Proofs.YtklklgfpkpglgaaGreatDoor
open Go.RowKit Go.Proofs.Tryz
section
variable {mm:Int}
attribute [local irreducible] TR TC
theorem ql2 (k:Sc.Kind)(p:Pr)(σ:Sc.W)(a:ByteArray × Sc.W)(ha:a=if p.kind=17 then Sc.nameOf σ p.name else (p.name,σ))(tag:Bool)(htag:tag=Sc.Db σ.env p.kind p.chan p.exprs)(c:Ex × Sc.W)(hc:c=Cj a.2 p.chan)(t:List Ex × Sc.W)(ht:t=v7 Cj c.2 p.targets)(x:List Ex × Sc.W)(hx:x=Sc.Du tag t.2 p.exprs)(h:Sc.Head × Sc.W)(hh:h=Sc.Gl x.2 p.spec)(b:List Pr)(σb:Sc.W)(hbe:σb.env=Sc.Cm σ.env (p.spec.formals.map (·.name)) h.1.inner)(hown:p.spec.names.length=h.1.own.length)(g':List Gu)(l':List Pr)(σg σm:Sc.W)(hk:p.kind=18)(h0:p.rep.name=ByteArray.empty)(h5:p.kind=5->0<p.exprs.length)(hfit:σ.fit (Sc.Ho p.chan p.targets p.exprs p.rep+Sc.Pk p.spec+1))(hpr:p.procs.length<=10000000)(hl:p.spec.proto.l.length<=1000000000)(hv:∀ v∈p.spec.proto.l,v.items.length<=10000000)
 (hme:σm.env=Sc.Cm σ.env p.spec.names h.1.own) (hB:FnE prog (glS mm) 58 [.d (.list 42 (p.spec.body.map dPr)),.clo (.func 31) [.ptr 900 0] []] (HW k {h.2 with env:=Sc.Cm σ.env (p.spec.formals.map (·.name)) h.1.inner}) (fun v H1=>v=.d (.list 42 (b.map dPr))/\H1=HW k σb))
 (hG:FnE prog (glS mm) 56 [.d (.list 23 (p.guards.map dGu)),.clo (.func 57) [.ptr 900 0] []] (HW k {σb with env:=Sc.Cm σ.env p.spec.names h.1.own}) (fun v H1=>v=.d (.list 23 (g'.map dGu))/\H1=HW k σg))
 (hL:FnE prog (glS mm) 58 [.d (.list 42 (p.l.map dPr)),.clo (.func 31) [.ptr 900 0] []] (HW k σg) (fun v H1=>v=.d (.list 42 (l'.map dPr))/\H1=HW k σm)):
 FnE prog (glS mm) 31 [.ptr 900 0,.d (dPr p)] (HW k σ)
  (fun v H1=>v=.d (dPr (Pr.set2 (.mk p.kind a.1 c.1 t.1 x.1 p.rep p.guards p.l p.procs (p.spec.with' h.1 b)) g' l'))/\H1=HW k {σm with env:=σ.env}):=by
 have hroom:=hfit.room;have hdeep:=hfit.deep;unfold Sc.W.room Sc.Ho Sc.Mr at hroom;have ga:Sc.Grow σ a.2 1:=by
  rw[ha];split
  ·exact Sc.Ia σ p.name
  ·exact Sc.Grow.refl _ _
 have gc:Sc.Grow a.2 c.2 (exN p.chan):=by rw[hc];exact Sc.Cy _ _
 have gt:Sc.Grow c.2 t.2 (Gj p.targets):=by rw[ht];exact Sc.Dz _ _
 have gx:Sc.Grow t.2 x.2 (Gj p.exprs):=by rw[hx];exact Sc.Ib _ _ _
 have e1:=ga.ev;have e2:=gc.ev;have e3:=gt.ev;have e4:=gx.ev;have xenv:x.2.env=σ.env:=((gx.env.trans gt.env).trans gc.env).trans ga.env;have gxx:=((ga.trans gc).trans gt).trans gx;have w1:p.kind=17->FnE prog (glS mm) 46 [.ptr 900 0,.d (.str p.name)] (HW k σ) (fun v H1=>v=.d (.str a.1)/\H1=HW k a.2):=fun h17=>by
  rw[ha,Ad h17];exact jm7 (glS mm) k σ p.name (by unfold Sc.W.room;omega)
 have a17:p.kind≠17->a=(p.name,σ):=fun h17=>by rw[ha,Ae h17]
 have w2:=jh1 (glS mm) k a.2 (.mk p.kind a.1 p.chan p.targets p.exprs p.rep p.guards p.l p.procs p.spec) h5;rw[show Sc.Db a.2.env (Pr.mk p.kind a.1 p.chan p.targets p.exprs p.rep p.guards p.l p.procs p.spec).kind (Pr.mk p.kind a.1 p.chan p.targets p.exprs p.rep p.guards p.l p.procs p.spec).chan (Pr.mk p.kind a.1 p.chan p.targets p.exprs p.rep p.guards p.l p.procs p.spec).exprs=tag by rw[ga.env];exact htag.symm,j9]at w2;have w3:=jc4 (glS mm) k p.chan a.2 (by unfold Sc.W.room;omega);rw[<-hc]at w3;have w4:=jm5 (glS mm) k p.targets c.2 (by unfold Sc.W.room;omega);rw[<-ht]at w4;have w5:=jb4 (glS mm) k tag p.exprs t.2 (by have:=n5 p.exprs;omega) fun j hj=>jc4 (glS mm) k p.exprs[j] _ (by
  have h1:=(Sc.Ib tag t.2 (p.exprs.take j)).ev;have h2:=z1 p.exprs j hj;unfold Sc.W.room;omega)
 rw[<-hx]at w5;have w6:=jh2 (glS mm) p.procs hpr;clear ha hc ht hx htag;have w7:=qg9 (mm:=mm) k p.spec x.2 σb b (v6 gxx (m:=Sc.Pk p.spec+1) (hfit.mono (by unfold Sc.Ho;omega))) hl hv (by rw[<-hh,xenv];exact hbe) (by rw[<-hh,xenv];exact hB);rw[<-hh,xenv]at w7;have w8:=jk9 (glS mm) k {σb with env:=σ.env} σm p.spec.names h.1.own (.mk p.kind a.1 c.1 t.1 x.1 p.rep p.guards p.l p.procs (p.spec.with' h.1 b)) (Pr.set2 (.mk p.kind a.1 c.1 t.1 x.1 p.rep p.guards p.l p.procs (p.spec.with' h.1 b)) g' l') hown (fun u=>by
  have:=hdeep u;unfold Sc.Pk at this;dsimp only;omega) hme (jb3 (glS mm) k _ σg σm (.mk p.kind a.1 c.1 t.1 x.1 p.rep p.guards p.l p.procs (p.spec.with' h.1 b)) g' l' hG hL)
 clear hB hh hown hbe;simp only[k9]at w3;clear hG hL hme gxx e1 e2 e3 e4 ga gc gt gx xenv hdeep hroom hfit;rw[j9];by_cases h17:p.kind=17
 ·exfalso;omega
 ·obtain rfl:=a17 h17;clear w1 a17;cases k
  all_goals dsimp only[HW,ja0,z6]at w2 w3 w4 w5 w8 w7 ⊢
  all_goals (refine j2 func31 ntmps31 results31 fun w M E b0=>?_)
  all_goals (repeat' first|refine Ca 2 ?_;(refine Cq 1002 ?_)|refine Ca 3 ?_;(refine Cq 1003 ?_)|refine Ca 4 ?_;(refine j3 1004 ?_)|refine Ca 19 ?_;refine Cg (hc:=w2) ?_|refine Ca 5 ?_;(refine j3 1005 ?_)|refine Ca 23 ?_;refine Cg (hc:=w3) ?_|refine Ca 29 ?_;refine Cg (hc:=w4) ?_|refine Ca 6 ?_;(refine j3 1006 ?_)|refine Ca 34 ?_;refine Cg (hc:=w5) ?_|refine Ca 47 ?_;(refine Dn 1047 ?_)|refine Ca 78 ?_;refine Cg (hc:=w7) ?_|refine Ca 86 ?_;refine Cg (hc:=w8) ?_|refine yyp ?_|refine yy ?_|refine yy2 ?_ ?_<;>intro hcmp|refine Ch 51 ?_;refine Ck (hc:=w6) ?_|refine at_nil ?_;refine Cc [0,1,2,3,4,5,6,7,8,11,43,45,70] ?_|refine Cb fun K hK=>?_|refine Cf 14 ?_;refine j0 [16] (lin [0,4,8,20,24,40,44,13,17,29,37,49,34,54,56,60,67]) ?_|apply_assumption -exfalso -symm)
  all_goals first
   |(exfalso;exact h17 (by assumption))
   |(exfalso;exact absurd h0 (by assumption))
   |(exfalso;exact absurd hk (by assumption))
   |(exfalso;exact hk (by assumption))
   |(exfalso;exact h0 (by assumption))
   |((refine j1 (j4 ⟨?_,rfl⟩))
     rfl)
end
section
def rg4:List Nat:=[0,1,2,3,4,5,6,7,8,11,43,45,70]
def rg5:Plan:=lin [0,4,8,20,24,40,44,13,17,29,37,49,34,54,56,60,67]
variable {mm:Int}
attribute [local irreducible] TR TC
theorem ql3 (k:Sc.Kind)(p:Pr)(σ:Sc.W)(a:ByteArray × Sc.W)(ha:a=if p.kind=17 then Sc.nameOf σ p.name else (p.name,σ))(tag:Bool)(htag:tag=Sc.Db σ.env p.kind p.chan p.exprs)(c:Ex × Sc.W)(hc:c=Cj a.2 p.chan)(t:List Ex × Sc.W)(ht:t=v7 Cj c.2 p.targets)(x:List Ex × Sc.W)(hx:x=Sc.Du tag t.2 p.exprs)(g':List Gu)(l':List Pr)(σg σm:Sc.W)(hk:p.kind≠18)(h0:p.rep.name=ByteArray.empty)(h5:p.kind=5->0<p.exprs.length)(hfit:σ.fit (Sc.Ho p.chan p.targets p.exprs p.rep+1))(hpr:p.procs.length<=10000000)(hl:p.spec.proto.l.length<=1000000000)(hv:∀ v∈p.spec.proto.l,v.items.length<=10000000)
 (hme:σm.env=Sc.Cm σ.env ([]:List ByteArray) ([]:List Sc.Ent))
 (hG:FnE prog (glS mm) 56 [.d (.list 23 (p.guards.map dGu)),.clo (.func 57) [.ptr 900 0] []] (HW k {x.2 with env:=Sc.Cm σ.env ([]:List ByteArray) ([]:List Sc.Ent)}) (fun v H1=>v=.d (.list 23 (g'.map dGu))/\H1=HW k σg))
 (hL:FnE prog (glS mm) 58 [.d (.list 42 (p.l.map dPr)),.clo (.func 31) [.ptr 900 0] []] (HW k σg) (fun v H1=>v=.d (.list 42 (l'.map dPr))/\H1=HW k σm)):
 FnE prog (glS mm) 31 [.ptr 900 0,.d (dPr p)] (HW k σ)
  (fun v H1=>v=.d (dPr (Pr.set2 (.mk p.kind a.1 c.1 t.1 x.1 p.rep p.guards p.l p.procs p.spec) g' l'))/\H1=HW k {σm with env:=σ.env}):=by
 have hroom:=hfit.room;have hdeep:=hfit.deep;unfold Sc.W.room Sc.Ho Sc.Mr at hroom;have ga:Sc.Grow σ a.2 1:=by
  rw[ha];split
  ·exact Sc.Ia σ p.name
  ·exact Sc.Grow.refl _ _
 have gc:Sc.Grow a.2 c.2 (exN p.chan):=by rw[hc];exact Sc.Cy _ _
 have gt:Sc.Grow c.2 t.2 (Gj p.targets):=by rw[ht];exact Sc.Dz _ _
 have gx:Sc.Grow t.2 x.2 (Gj p.exprs):=by rw[hx];exact Sc.Ib _ _ _
 have e1:=ga.ev;have e2:=gc.ev;have e3:=gt.ev;have e4:=gx.ev;have xenv:x.2.env=σ.env:=((gx.env.trans gt.env).trans gc.env).trans ga.env;have gxx:=((ga.trans gc).trans gt).trans gx;have w1:p.kind=17->FnE prog (glS mm) 46 [.ptr 900 0,.d (.str p.name)] (HW k σ) (fun v H1=>v=.d (.str a.1)/\H1=HW k a.2):=fun h17=>by
  rw[ha,Ad h17];exact jm7 (glS mm) k σ p.name (by unfold Sc.W.room;omega)
 have a17:p.kind≠17->a=(p.name,σ):=fun h17=>by rw[ha,Ae h17]
 have w2:=jh1 (glS mm) k a.2 (.mk p.kind a.1 p.chan p.targets p.exprs p.rep p.guards p.l p.procs p.spec) h5;rw[show Sc.Db a.2.env (Pr.mk p.kind a.1 p.chan p.targets p.exprs p.rep p.guards p.l p.procs p.spec).kind (Pr.mk p.kind a.1 p.chan p.targets p.exprs p.rep p.guards p.l p.procs p.spec).chan (Pr.mk p.kind a.1 p.chan p.targets p.exprs p.rep p.guards p.l p.procs p.spec).exprs=tag by rw[ga.env];exact htag.symm,j9]at w2;have w3:=jc4 (glS mm) k p.chan a.2 (by unfold Sc.W.room;omega);rw[<-hc]at w3;have w4:=jm5 (glS mm) k p.targets c.2 (by unfold Sc.W.room;omega);rw[<-ht]at w4;have w5:=jb4 (glS mm) k tag p.exprs t.2 (by have:=n5 p.exprs;omega) fun j hj=>jc4 (glS mm) k p.exprs[j] _ (by
  have h1:=(Sc.Ib tag t.2 (p.exprs.take j)).ev;have h2:=z1 p.exprs j hj;unfold Sc.W.room;omega)
 rw[<-hx]at w5;have w6:=jh2 (glS mm) p.procs hpr;clear ha hc ht hx htag;have w8:=jk9 (glS mm) k {x.2 with env:=σ.env} σm [] [] (.mk p.kind a.1 c.1 t.1 x.1 p.rep p.guards p.l p.procs p.spec) (Pr.set2 (.mk p.kind a.1 c.1 t.1 x.1 p.rep p.guards p.l p.procs p.spec) g' l') rfl (fun u=>by
  have:=hdeep u;dsimp only[Av];omega) hme (jb3 (glS mm) k _ σg σm (.mk p.kind a.1 c.1 t.1 x.1 p.rep p.guards p.l p.procs p.spec) g' l' hG hL)
 rw[show({x.2 with env:=σ.env}:Sc.W)=x.2 by rw[<-xenv],xenv]at w8;simp only[k9]at w3;clear hG hL hme gxx e1 e2 e3 e4 ga gc gt gx xenv hdeep hroom hfit;rw[j9];by_cases h17:p.kind=17
 ·have w1:=w1 h17;clear a17;cases k
  all_goals dsimp only[HW,ja0,z6]at w1 w2 w3 w4 w5 w8 ⊢
  all_goals (refine j2 func31 ntmps31 results31 fun w M E b0=>?_)
  all_goals (repeat' first|refine Ca 2 ?_;(refine Cq 1002 ?_)|refine Ca 3 ?_;(refine Cq 1003 ?_)|refine Ca 4 ?_;(refine j3 1004 ?_)|refine Ca 15 ?_;refine Cg (hc:=w1) ?_|refine Ca 19 ?_;refine Cg (hc:=w2) ?_|refine Ca 5 ?_;(refine j3 1005 ?_)|refine Ca 23 ?_;refine Cg (hc:=w3) ?_|refine Ca 29 ?_;refine Cg (hc:=w4) ?_|refine Ca 6 ?_;(refine j3 1006 ?_)|refine Ca 34 ?_;refine Cg (hc:=w5) ?_|refine Ca 47 ?_;(refine Dn 1047 ?_)|refine Ca 86 ?_;refine Cg (hc:=w8) ?_|refine yyp ?_|refine yy ?_|refine yy2 ?_ ?_<;>intro hcmp|refine Ch 51 ?_;refine Ck (hc:=w6) ?_|refine at_nil ?_;refine Cc rg4 ?_|refine Cb fun K hK=>?_|refine Cf 14 ?_;refine j0 [16] rg5 ?_|apply_assumption -exfalso -symm)
  all_goals first
   |(exfalso;exact absurd h17 (by assumption))
   |(exfalso;exact absurd h0 (by assumption))
   |(exfalso;exact hk (by assumption))
   |(exfalso;exact h0 (by assumption))
   |((refine j1 (j4 ⟨?_,rfl⟩))
     rfl)
 ·obtain rfl:=a17 h17;clear w1 a17;cases k
  all_goals dsimp only[HW,ja0,z6]at w2 w3 w4 w5 w8 ⊢
  all_goals (refine j2 func31 ntmps31 results31 fun w M E b0=>?_)
  all_goals (repeat' first|refine Ca 2 ?_;(refine Cq 1002 ?_)|refine Ca 3 ?_;(refine Cq 1003 ?_)|refine Ca 4 ?_;(refine j3 1004 ?_)|refine Ca 19 ?_;refine Cg (hc:=w2) ?_|refine Ca 5 ?_;(refine j3 1005 ?_)|refine Ca 23 ?_;refine Cg (hc:=w3) ?_|refine Ca 29 ?_;refine Cg (hc:=w4) ?_|refine Ca 6 ?_;(refine j3 1006 ?_)|refine Ca 34 ?_;refine Cg (hc:=w5) ?_|refine Ca 47 ?_;(refine Dn 1047 ?_)|refine Ca 86 ?_;refine Cg (hc:=w8) ?_|refine yyp ?_|refine yy ?_|refine yy2 ?_ ?_<;>intro hcmp|refine Ch 51 ?_;refine Ck (hc:=w6) ?_|refine at_nil ?_;refine Cc rg4 ?_|refine Cb fun K hK=>?_|refine Cf 14 ?_;refine j0 [16] rg5 ?_|apply_assumption -exfalso -symm)
  all_goals first
   |(exfalso;exact h17 (by assumption))
   |(exfalso;exact absurd h0 (by assumption))
   |(exfalso;exact absurd hk (by assumption))
   |(exfalso;exact hk (by assumption))
   |(exfalso;exact h0 (by assumption))
   |((refine j1 (j4 ⟨?_,rfl⟩))
     rfl)
end
section
variable {mm:Int}
mutual
def kx1:Pr->Prop
 |.mk _ _ _ _ _ _ guards l procs (.mk _ _ _ _ spp _ sb)=>(procs.length<=10000000/\spp.l.length<=1000000000/\∀ v∈spp.l,v.items.length<=10000000)/\jt8 sb/\km3 guards/\jt8 l
def jt8:List Pr->Prop
 |[]=>True
 |p::l=>kx1 p/\jt8 l
def km3:List Gu->Prop
 |[]=>True
 |.mk _ _ _ _ _ _ _ body::l=>jt8 body/\km3 l
end
theorem rn2:∀ p:Pr,1<=Sc.prN p
 |.mk _ _ _ _ _ _ _ _ _ (.mk _ _ _ _ _ _ _)=>by simp only[Sc.prN];omega
theorem mt7:∀ l:List Pr,l.length<=Sc.Kl l
 |[]=>Ai _
 |p::l=>by have:=mt7 l;have:=rn2 p;simp only[An,Sc.Kl];omega
theorem rn3:∀ g:Gu,1<=Sc.guN g
 |.mk _ _ cond _ _ _ _ _=>by have:=kb2 cond;simp only[Sc.guN,Sc.Py];omega
theorem mt8:∀ l:List Gu,l.length<=Sc.Mf l
 |[]=>Ai _
 |p::l=>by have:=mt8 l;have:=rn3 p;simp only[An,Sc.Mf];omega
theorem mg1:∀ (l:List Pr) (j:Nat) (hj:j<l.length),Sc.Kl (l.take j)+Sc.prN l[j]<=Sc.Kl l
 |[],_,h=>by simp at h
 |p::l,0,_=>by simp[Sc.Kl]
 |p::l,j+1,h=>by
  have:=mg1 l j (by simpa using h);simp only[Fc,Sc.Kl,Ff];omega
theorem mg2:∀ (l:List Gu) (j:Nat) (hj:j<l.length),Sc.Mf (l.take j)+Sc.guN l[j]<=Sc.Mf l
 |[],_,h=>by simp at h
 |p::l,0,_=>by simp[Sc.Mf]
 |p::l,j+1,h=>by
  have:=mg2 l j (by simpa using h);simp only[Fc,Sc.Mf,Ff];omega
theorem jy5 (k:Sc.Kind)(l:List Pr)(σ:Sc.W)(hf:σ.fit (Sc.Kl l+1))
 (ih:∀ x∈l,∀ σ:Sc.W,σ.fit (Sc.prN x+1)->FnE prog (glS mm) 31 [.ptr 900 0,.d (dPr x)] (HW k σ) (fun v H1=>v=.d (dPr (Sc.Fx σ x).1)/\H1=HW k (Sc.Fx σ x).2)):
 FnE prog (glS mm) 58 [.d (.list 42 (l.map dPr)),.clo (.func 31) [.ptr 900 0] []] (HW k σ)
  (fun v H1=>v=.d (.list 42 ((v7 Sc.Fx σ l).1.map dPr))/\H1=HW k (v7 Sc.Fx σ l).2):=by
 have hr:=hf.room;unfold Sc.W.room at hr;have:=mt7 l;refine kk1 (glS mm) k l σ (by omega) fun j hj=>ih l[j] (Aw hj) _ ?_;have g:=Sc.Gy (l.take j) σ;rw[Sc.Mh]at g;have h2:=mg1 l j hj;exact v6 g (hf.mono (by omega))
theorem ql4 (k:Sc.Kind)(g:Gu)(σ:Sc.W)(hf:σ.fit (Sc.guN g+1))
 (ih:∀ x∈g.body,∀ σ:Sc.W,σ.fit (Sc.prN x+1)->FnE prog (glS mm) 31 [.ptr 900 0,.d (dPr x)] (HW k σ) (fun v H1=>v=.d (dPr (Sc.Fx σ x).1)/\H1=HW k (Sc.Fx σ x).2)):
 FnE prog (glS mm) 57 [.ptr 900 0,.d (dGu g)] (HW k σ) (fun v H1=>v=.d (dGu (Sc.Iu σ g).1)/\H1=HW k (Sc.Iu σ g).2):=by
 obtain⟨kind,name,cond,chan,targets,values,time,body⟩:=g;simp only[Sc.guN]at hf;have gh:=Sc.Nr σ cond chan targets values time;have hb:=jy5 (mm:=mm) k body (Sc.Hl σ cond chan targets values time).2 (v6 gh (hf.mono (by omega))) ih;have h:=my1 (glS mm) k (.mk kind name cond chan targets values time body) σ _ _ (hf.mono (by simp only[Gu.cond,Gu.chan,Gu.targets,Gu.values,Gu.time];omega)).room hb;simp only[Sc.Iu,Sc.Mh];exact h
theorem kx2 (k:Sc.Kind)(l:List Gu)(σ:Sc.W)(hf:σ.fit (Sc.Mf l+1))
 (ih:∀ g∈l,∀ x∈g.body,∀ σ:Sc.W,σ.fit (Sc.prN x+1)->FnE prog (glS mm) 31 [.ptr 900 0,.d (dPr x)] (HW k σ) (fun v H1=>v=.d (dPr (Sc.Fx σ x).1)/\H1=HW k (Sc.Fx σ x).2)):
 FnE prog (glS mm) 56 [.d (.list 23 (l.map dGu)),.clo (.func 57) [.ptr 900 0] []] (HW k σ)
  (fun v H1=>v=.d (.list 23 ((v7 Sc.Iu σ l).1.map dGu))/\H1=HW k (v7 Sc.Iu σ l).2):=by
 have hr:=hf.room;unfold Sc.W.room at hr;have:=mt8 l;refine kv9 (glS mm) k l σ (by omega) fun j hj=>ql4 k l[j] _ ?_ (ih l[j] (Aw hj));have g:=Sc.Ir (l.take j) σ;rw[Sc.Oh]at g;have h2:=mg2 l j hj;exact v6 g (hf.mono (by omega))
theorem kx3:∀ {l:List Pr},jt8 l->∀ x∈l,kx1 x
 |p::l,h,x,hx=>by
  simp only[jt8]at h;rcases Bc.1 hx with rfl|hx
  ·exact h.1
  ·exact kx3 h.2 x hx
theorem mt9:∀ {l:List Gu},km3 l->∀ g∈l,jt8 g.body
 |.mk _ _ _ _ _ _ _ body::l,h,x,hx=>by
  simp only[km3]at h;rcases Bc.1 hx with rfl|hx
  ·exact h.1
  ·exact mt9 h.2 x hx
theorem mu0:∀ {l:List Pr},Sc.Qb l->∀ x∈l,Sc.Sn x
 |p::l,h,x,hx=>by
  simp only[Sc.Qb]at h;rcases Bc.1 hx with rfl|hx
  ·exact h.1
  ·exact mu0 h.2 x hx
theorem ql5:∀ {l:List Gu},Sc.Ry l->∀ g∈l,Sc.Qb g.body
 |.mk _ _ _ _ _ _ _ body::l,h,x,hx=>by
  simp only[Sc.Ry,Sc.Wn]at h;rcases Bc.1 hx with rfl|hx
  ·exact h.1
  ·exact ql5 h.2 x hx
theorem kg7 (k:Sc.Kind):∀ (n:Nat) (p:Pr),SizeOf.sizeOf p<=n->Sc.Sn p->kx1 p->∀ σ:Sc.W,σ.fit (Sc.prN p+1)->
 FnE prog (glS mm) 31 [.ptr 900 0,.d (dPr p)] (HW k σ) (fun v H1=>v=.d (dPr (Sc.Fx σ p).1)/\H1=HW k (Sc.Fx σ p).2):=by
 intro n
 induction n with
 |zero=>intro p h;cases p;simp only[Pr.mk.sizeOf_spec]at h;omega
 |succ n ih=>
  intro p hp hok hcap σ hf;have il:∀ x∈p.l,SizeOf.sizeOf x<=n:=fun x hx=>by have:=rt4 hx;omega
  have ig:∀ g∈p.guards,∀ x∈g.body,SizeOf.sizeOf x<=n:=fun g hg x hx=>by have:=rt5 hg hx;omega
  have ib:∀ x∈p.spec.body,SizeOf.sizeOf x<=n:=fun x hx=>by have:=rt6 hx;omega
  obtain⟨kind,name,chan,targets,exprs,rep,guards,l,procs,⟨sk,st,sn,se,spp,sf,sb⟩⟩:=p;simp only[Sc.Sn]at hok;simp only[kx1]at hcap;obtain⟨hn,hsp,_,_,hob,hog,hol⟩:=hok;obtain⟨⟨hc1,hc2,hc3⟩,hcb,hcg,hcl⟩:=hcap;simp only[Pr.l,Pr.guards,Pr.spec,Sp.body]at il ig ib;have il:=fun x hx=>ih x (il x hx) (mu0 hol x hx) (kx3 hcl x hx);have ig:=fun g hg x hx=>ih x (ig g hg x hx) (mu0 (ql5 hog g hg) x hx) (kx3 (mt9 hcg g hg) x hx);have ib:=fun x hx=>ih x (ib x hx) (mu0 hob x hx) (kx3 hcb x hx);simp only[Sc.prN]at hf;have gp:=Sc.Nt σ kind name chan targets exprs rep;have h5:kind=5->0<exprs.length:=fun h=>List.length_pos_iff.2 (hn.2 h).1;by_cases hk:kind=18
  ·have h0:=hn.1.1 hk;have hr:Sc.Jc (Sc.Du (Sc.Db σ.env kind chan exprs) (v7 Cj (Cj (if kind=17 then Sc.nameOf σ name else (name,σ)).2 chan).2 targets).2 exprs).2 rep=((rep,[]),(Sc.Du (Sc.Db σ.env kind chan exprs) (v7 Cj (Cj (if kind=17 then Sc.nameOf σ name else (name,σ)).2 chan).2 targets).2 exprs).2):=by
    unfold Sc.Jc;rw[Ad h0]
   simp only[Sc.Fx,Ad hk];unfold Sc.Fz at gp ⊢;dsimp only at gp ⊢;rw[hr]at gp ⊢;dsimp only at gp ⊢;obtain⟨a,ha⟩:∃ a,a=if kind=17 then Sc.nameOf σ name else (name,σ):=⟨_,rfl⟩;rw[<-ha]at gp ⊢;obtain⟨c,hc⟩:∃ c,c=Cj a.2 chan:=⟨_,rfl⟩;rw[<-hc]at gp ⊢;obtain⟨t,ht⟩:∃ t,t=v7 Cj c.2 targets:=⟨_,rfl⟩;rw[<-ht]at gp ⊢;obtain⟨x,hx⟩:∃ x,x=Sc.Du (Sc.Db σ.env kind chan exprs) t.2 exprs:=⟨_,rfl⟩;rw[<-hx]at gp ⊢;have fx:=v6 gp (m:=2 * sn.length+3 * sf.length+exN se+1+Sc.Kl sb+Sc.Mf guards+Sc.Kl l+1) (hf.mono (by omega));have gh:=Sc.Nh x.2 (.mk sk st sn se spp sf []);obtain⟨h,hh⟩:∃ h,h=Sc.Gl x.2 (.mk sk st sn se spp sf []):=⟨_,rfl⟩;rw[<-hh]at gh ⊢;have hN:Sc.Pk (.mk sk st sn se spp sf [])=2 * sn.length+3 * sf.length+exN se+1:=rfl;have fh:=v6 gh (m:=Sc.Kl sb+Sc.Mf guards+Sc.Kl l+1) (fx.mono (by omega));have hil:sf.length=h.1.inner.length:=by
    rw[hh];unfold Sc.Gl;dsimp only;rw[Sc.Lj,Ab];rfl
   have hol':sn.length=h.1.own.length:=by
    rw[hh];unfold Sc.Gl;dsimp only;rw[Sc.Lj,Ab];rfl
   have fb:=kg3 (τ:=h.2) (ns:=sf.map (·.name)) (xs:=h.1.inner) (m:=Sc.Kl sb+Sc.Mf guards+Sc.Kl l+1) (hf.mono (by rw[Ab];omega)) fh (by rw[Ab];exact hil);have hB:=jy5 (mm:=mm) k sb _ (fb.mono (m:=Sc.Kl sb+1) (by omega)) ib;rw[<-Sc.Mh]at hB;have gb:=Sc.Gy sb {h.2 with env:=Sc.Cm σ.env (sf.map (·.name)) h.1.inner};obtain⟨b,hb'⟩:∃ b,b=Sc.Ga {h.2 with env:=Sc.Cm σ.env (sf.map (·.name)) h.1.inner} sb:=⟨_,rfl⟩;rw[<-hb']at hB gb ⊢;have fb2:=v6 gb (m:=Sc.Mf guards+Sc.Kl l+1) (fb.mono (by omega));have fg:=kg3 (τ:=b.2) (ns:=sn) (xs:=h.1.own) (m:=Sc.Mf guards+Sc.Kl l+1) (hf.mono (by omega)) fb2 hol';have hG:=kx2 (mm:=mm) k guards _ (fg.mono (m:=Sc.Mf guards+1) (by omega)) ig;rw[<-Sc.Oh]at hG;have gg:=Sc.Ir guards {b.2 with env:=Sc.Cm σ.env sn h.1.own};obtain⟨g,hg⟩:∃ g,g=Sc.Gm {b.2 with env:=Sc.Cm σ.env sn h.1.own} guards:=⟨_,rfl⟩;rw[<-hg]at hG gg ⊢;have fg2:=v6 gg (m:=Sc.Kl l+1) (fg.mono (by omega));have hL:=jy5 (mm:=mm) k l g.2 fg2 il;rw[<-Sc.Mh]at hL;have gl':=Sc.Gy l g.2;obtain⟨q,hq⟩:∃ q,q=Sc.Ga g.2 l:=⟨_,rfl⟩;rw[<-hq]at hL gl' ⊢;have hhd:Sc.Gl x.2 (.mk sk st sn se spp sf sb)=Sc.Gl x.2 (.mk sk st sn se spp sf []):=rfl;exact ql2 (mm:=mm) k (.mk kind name chan targets exprs rep guards l procs (.mk sk st sn se spp sf sb)) σ a ha _ rfl c hc t ht x hx h (hh.trans hhd.symm) b.1 b.2 gb.env hol' g.1 q.1 g.2 q.2 hk h0 h5 (hf.mono (by have:Sc.Pk (.mk sk st sn se spp sf sb)=2 * sn.length+3 * sf.length+exN se+1:=rfl;simp only[Pr.chan,Pr.targets,Pr.exprs,Pr.rep,Pr.spec];omega)) hc1 hc2 hc3 (gl'.env.trans gg.env) hB hG hL
  ·simp only[Sc.Fx,Ae hk];by_cases h0:rep.name=ByteArray.empty
   ·have hr:Sc.Jc (Sc.Du (Sc.Db σ.env kind chan exprs) (v7 Cj (Cj (if kind=17 then Sc.nameOf σ name else (name,σ)).2 chan).2 targets).2 exprs).2 rep=((rep,[]),(Sc.Du (Sc.Db σ.env kind chan exprs) (v7 Cj (Cj (if kind=17 then Sc.nameOf σ name else (name,σ)).2 chan).2 targets).2 exprs).2):=by
     unfold Sc.Jc;rw[Ad h0]
    rw[Ad h0];unfold Sc.Fz at gp ⊢;dsimp only at gp ⊢;rw[hr]at gp ⊢;dsimp only at gp ⊢;obtain⟨a,ha⟩:∃ a,a=if kind=17 then Sc.nameOf σ name else (name,σ):=⟨_,rfl⟩;rw[<-ha]at gp ⊢;obtain⟨c,hc⟩:∃ c,c=Cj a.2 chan:=⟨_,rfl⟩;rw[<-hc]at gp ⊢;obtain⟨t,ht⟩:∃ t,t=v7 Cj c.2 targets:=⟨_,rfl⟩;rw[<-ht]at gp ⊢;obtain⟨x,hx⟩:∃ x,x=Sc.Du (Sc.Db σ.env kind chan exprs) t.2 exprs:=⟨_,rfl⟩;rw[<-hx]at gp ⊢;have fx:=v6 gp (m:=Sc.Mf guards+Sc.Kl l+1) (hf.mono (by omega));have fg:=kg3 (τ:=x.2) (ns:=([]:List ByteArray)) (xs:=([]:List Sc.Ent)) (m:=Sc.Mf guards+Sc.Kl l+1) (hf.mono (by simp only[An,Av];omega)) fx rfl;have hG:=kx2 (mm:=mm) k guards _ (fg.mono (m:=Sc.Mf guards+1) (by omega)) ig;rw[<-Sc.Oh]at hG;have gg:=Sc.Ir guards {x.2 with env:=Sc.Cm σ.env ([]:List ByteArray) ([]:List Sc.Ent)};obtain⟨g,hg⟩:∃ g,g=Sc.Gm {x.2 with env:=Sc.Cm σ.env ([]:List ByteArray) ([]:List Sc.Ent)} guards:=⟨_,rfl⟩;rw[<-hg]at hG gg ⊢;have fg2:=v6 gg (m:=Sc.Kl l+1) (fg.mono (by omega));have hL:=jy5 (mm:=mm) k l g.2 fg2 il;rw[<-Sc.Mh]at hL;have gl':=Sc.Gy l g.2;obtain⟨q,hq⟩:∃ q,q=Sc.Ga g.2 l:=⟨_,rfl⟩;rw[<-hq]at hL gl' ⊢;exact ql3 (mm:=mm) k (.mk kind name chan targets exprs rep guards l procs (.mk sk st sn se spp sf sb)) σ a ha _ rfl c hc t ht x hx g.1 q.1 g.2 q.2 hk h0 h5 (hf.mono (by simp only[Pr.chan,Pr.targets,Pr.exprs,Pr.rep];omega)) hc1 hc2 hc3 (gl'.env.trans gg.env) hG hL
   ·have hr:Sc.Jc (Sc.Du (Sc.Db σ.env kind chan exprs) (v7 Cj (Cj (if kind=17 then Sc.nameOf σ name else (name,σ)).2 chan).2 targets).2 exprs).2 rep=((⟨(Sc.Cu (Sc.Du (Sc.Db σ.env kind chan exprs) (v7 Cj (Cj (if kind=17 then Sc.nameOf σ name else (name,σ)).2 chan).2 targets).2 exprs).2).1,(Cj (Sc.Cu (Sc.Du (Sc.Db σ.env kind chan exprs) (v7 Cj (Cj (if kind=17 then Sc.nameOf σ name else (name,σ)).2 chan).2 targets).2 exprs).2).2 rep.base).1,(Cj (Cj (Sc.Cu (Sc.Du (Sc.Db σ.env kind chan exprs) (v7 Cj (Cj (if kind=17 then Sc.nameOf σ name else (name,σ)).2 chan).2 targets).2 exprs).2).2 rep.base).2 rep.count).1⟩,[⟨(Sc.Cu (Sc.Du (Sc.Db σ.env kind chan exprs) (v7 Cj (Cj (if kind=17 then Sc.nameOf σ name else (name,σ)).2 chan).2 targets).2 exprs).2).1,false,[]⟩]),(Cj (Cj (Sc.Cu (Sc.Du (Sc.Db σ.env kind chan exprs) (v7 Cj (Cj (if kind=17 then Sc.nameOf σ name else (name,σ)).2 chan).2 targets).2 exprs).2).2 rep.base).2 rep.count).2):=by
     unfold Sc.Jc;rw[Ae h0]
    rw[Ae h0];unfold Sc.Fz at gp ⊢;dsimp only at gp ⊢;rw[hr]at gp ⊢;dsimp only at gp ⊢;obtain⟨a,ha⟩:∃ a,a=if kind=17 then Sc.nameOf σ name else (name,σ):=⟨_,rfl⟩;rw[<-ha]at gp ⊢;obtain⟨c,hc⟩:∃ c,c=Cj a.2 chan:=⟨_,rfl⟩;rw[<-hc]at gp ⊢;obtain⟨t,ht⟩:∃ t,t=v7 Cj c.2 targets:=⟨_,rfl⟩;rw[<-ht]at gp ⊢;obtain⟨x,hx⟩:∃ x,x=Sc.Du (Sc.Db σ.env kind chan exprs) t.2 exprs:=⟨_,rfl⟩;rw[<-hx]at gp ⊢;obtain⟨r,hr'⟩:∃ r,r=Sc.Cu x.2:=⟨_,rfl⟩;rw[<-hr']at gp ⊢;obtain⟨rb,hrb⟩:∃ rb,rb=Cj r.2 rep.base:=⟨_,rfl⟩;rw[<-hrb]at gp ⊢;obtain⟨rc,hrc⟩:∃ rc,rc=Cj rb.2 rep.count:=⟨_,rfl⟩;rw[<-hrc]at gp ⊢;have fx:=v6 gp (m:=Sc.Mf guards+Sc.Kl l+1) (hf.mono (by omega));have fg:=kg3 (τ:=rc.2) (ns:=[rep.name]) (xs:=[(⟨r.1,false,[]⟩:Sc.Ent)]) (m:=Sc.Mf guards+Sc.Kl l+1) (hf.mono (by simp only[An,Av];omega)) fx rfl;have hG:=kx2 (mm:=mm) k guards _ (fg.mono (m:=Sc.Mf guards+1) (by omega)) ig;rw[<-Sc.Oh]at hG;have gg:=Sc.Ir guards {rc.2 with env:=Sc.Cm σ.env [rep.name] [(⟨r.1,false,[]⟩:Sc.Ent)]};obtain⟨g,hg⟩:∃ g,g=Sc.Gm {rc.2 with env:=Sc.Cm σ.env [rep.name] [(⟨r.1,false,[]⟩:Sc.Ent)]} guards:=⟨_,rfl⟩;rw[<-hg]at hG gg ⊢;have fg2:=v6 gg (m:=Sc.Kl l+1) (fg.mono (by omega));have hL:=jy5 (mm:=mm) k l g.2 fg2 il;rw[<-Sc.Mh]at hL;have gl':=Sc.Gy l g.2;obtain⟨q,hq⟩:∃ q,q=Sc.Ga g.2 l:=⟨_,rfl⟩;rw[<-hq]at hL gl' ⊢;by_cases h17:kind=17
    ·cases k with
     |free=>exact kk2 (mm:=mm) (.mk kind name chan targets exprs rep guards l procs (.mk sk st sn se spp sf sb)) σ a ha _ rfl c hc t ht x hx r hr' rb hrb rc hrc g.1 q.1 g.2 q.2 h17 hk h0 h5 (hf.mono (by simp only[Pr.chan,Pr.targets,Pr.exprs,Pr.rep];omega)) hc1 hc2 hc3 (gl'.env.trans gg.env) hG hL
     |check cn=>exact kf6 (mm:=mm) cn (.mk kind name chan targets exprs rep guards l procs (.mk sk st sn se spp sf sb)) σ a ha _ rfl c hc t ht x hx r hr' rb hrb rc hrc g.1 q.1 g.2 q.2 h17 hk h0 h5 (hf.mono (by simp only[Pr.chan,Pr.targets,Pr.exprs,Pr.rep];omega)) hc1 hc2 hc3 (gl'.env.trans gg.env) hG hL
     |none=>exact kk3 (mm:=mm) (.mk kind name chan targets exprs rep guards l procs (.mk sk st sn se spp sf sb)) σ a ha _ rfl c hc t ht x hx r hr' rb hrb rc hrc g.1 q.1 g.2 q.2 h17 hk h0 h5 (hf.mono (by simp only[Pr.chan,Pr.targets,Pr.exprs,Pr.rep];omega)) hc1 hc2 hc3 (gl'.env.trans gg.env) hG hL
    ·cases k with
     |free=>exact kk4 (mm:=mm) (.mk kind name chan targets exprs rep guards l procs (.mk sk st sn se spp sf sb)) σ a ha _ rfl c hc t ht x hx r hr' rb hrb rc hrc g.1 q.1 g.2 q.2 h17 hk h0 h5 (hf.mono (by simp only[Pr.chan,Pr.targets,Pr.exprs,Pr.rep];omega)) hc1 hc2 hc3 (gl'.env.trans gg.env) hG hL
     |check cn=>exact kf7 (mm:=mm) cn (.mk kind name chan targets exprs rep guards l procs (.mk sk st sn se spp sf sb)) σ a ha _ rfl c hc t ht x hx r hr' rb hrb rc hrc g.1 q.1 g.2 q.2 h17 hk h0 h5 (hf.mono (by simp only[Pr.chan,Pr.targets,Pr.exprs,Pr.rep];omega)) hc1 hc2 hc3 (gl'.env.trans gg.env) hG hL
     |none=>exact kk5 (mm:=mm) (.mk kind name chan targets exprs rep guards l procs (.mk sk st sn se spp sf sb)) σ a ha _ rfl c hc t ht x hx r hr' rb hrb rc hrc g.1 q.1 g.2 q.2 h17 hk h0 h5 (hf.mono (by simp only[Pr.chan,Pr.targets,Pr.exprs,Pr.rep];omega)) hc1 hc2 hc3 (gl'.env.trans gg.env) hG hL
end
section
variable {mm:Int}
attribute [local irreducible] TR TC
theorem jl6 (gl:List (Nat × List D))(k:Sc.Kind)(ev:List (ByteArray × Bool)):
 FnE prog gl 29 [ja0 k] (z6 k ⟨fun _=>[],[],0,ev⟩) (fun v H1=>v=.ptr 900 0/\H1=HW k ⟨fun _=>[],[],0,ev⟩):=by
 cases k
 case free=>
  dsimp only[ja0,z6]
  (refine j2 func29 ntmps29 results29 fun w M E b0=>?_)
  (repeat' first|refine Ca 3 ?_;(refine Iz 901 ?_)|refine Ca 4 ?_;(refine Iz 902 ?_)|refine Ca 7 ?_;(refine Cq 900 ?_)|refine yyp ?_;try refine Ce ?_ ?_<;>intro hb|refine yy ?_|refine at_nil ?_;refine Cc [0,2,3,4,5,6] ?_|refine Cb fun K hK=>?_|apply_assumption -exfalso -symm)
  refine jm4 (mk6 (n:=901) 112 3 rfl) ?_;refine jm4 (S':=⟨[(2,.ptr 900 0)],HW .free ⟨fun _=>[],[],0,ev⟩,gl⟩) (by dsimp only[HW,ja0,z6];exact k8) ?_
  (refine j1 (j4 ⟨?_,rfl⟩))
  rfl
 case check nn=>
  dsimp only[ja0,z6]
  (refine j2 func29 ntmps29 results29 fun w M E b0=>?_)
  (repeat' first|refine Ca 3 ?_;(refine Iz 901 ?_)|refine Ca 4 ?_;(refine Iz 902 ?_)|refine Ca 7 ?_;(refine Cq 900 ?_)|refine yyp ?_;try refine Ce ?_ ?_<;>intro hb|refine yy ?_|refine at_nil ?_;refine Cc [0,2,3,4,5,6] ?_|refine Cb fun K hK=>?_|apply_assumption -exfalso -symm)
  refine jm4 (mk6 (n:=901) 112 3 rfl) ?_;refine jm4 (S':=⟨[(2,.ptr 900 0)],HW (.check nn) ⟨fun _=>[],[],0,ev⟩,gl⟩) (by dsimp only[HW,ja0,z6];exact k8) ?_
  (refine j1 (j4 ⟨?_,rfl⟩))
  rfl
 case none=>
  dsimp only[ja0,z6]
  (refine j2 func29 ntmps29 results29 fun w M E b0=>?_)
  (repeat' first|refine Ca 3 ?_;(refine Iz 901 ?_)|refine Ca 4 ?_;(refine Iz 902 ?_)|refine Ca 7 ?_;(refine Cq 900 ?_)|refine yyp ?_;try refine Ce ?_ ?_<;>intro hb|refine yy ?_|refine at_nil ?_;refine Cc [0,2,3,4,5,6] ?_|refine Cb fun K hK=>?_|apply_assumption -exfalso -symm)
  refine jm4 (mk6 (n:=901) 112 3 rfl) ?_;refine jm4 (S':=⟨[(2,.ptr 900 0)],HW .none ⟨fun _=>[],[],0,ev⟩,gl⟩) (by dsimp only[HW,ja0,z6];exact k8) ?_
  (refine j1 (j4 ⟨?_,rfl⟩))
  rfl
end
end Go.Proofs.YtklklgfpkpglgaaGreatDoor
