/- Parts. -/
import Derived.Test.YtklklgfpkpglgaaGreatDoorW30
import Derived.Test.YtklklgfpkpglgaaGreatDoorW31
import Derived.Test.YtklklgfpkpglgaaGreatDoorW18
set_option linter.all false
set_option maxRecDepth 100000
set_option maxHeartbeats 0
namespace Go.Proofs.YtklklgfpkpglgaaGreatDoor
open Go.RowKit Go.Proofs.Tryz Sc
section
variable {mm:Int}
attribute [local irreducible] TR TC
theorem qh0 (k:Sc.Kind)(p:Pr)(σ:W)(a:ByteArray × W)(ha:a=if p.kind=17 then aA σ p.name else (p.name,σ))(tag:Bool)(htag:tag=Dc σ.env p.kind p.av p.au)(c:Ex × W)(hc:c=j4 a.2 p.av)(t:List Ex × W)(ht:t=y9 j4 c.2 p.aj)(x:List Ex × W)(hx:x=Fw tag t.2 p.au)(h:Sc.Head × W)(hh:h=Hf x.2 p.spec)(b:List Pr)(σb:W)(hbe:σb.env=Ck σ.env (p.spec.ax.map (·.name)) h.1.inner)(hown:p.spec.names.length=h.1.own.length)(g':List Gu)(l':List Pr)(σg σm:W)(hk:p.kind=18)(h0:p.rep.name=ByteArray.empty)(h5:p.kind=5->0<p.au.length)(hfit:σ.fit (Gz p.av p.aj p.au p.rep+Qd p.spec+1))(hpr:p.ay.length<=10000000)(hl:p.spec.aN.l.length<=1000000000)(hv:∀ v∈p.spec.aN.l,v.items.length<=10000000)
 (hme:σm.env=Ck σ.env p.spec.names h.1.own) (hB:FnE prog (glS mm) 58 [.d (.list 42 (p.spec.body.map dPr)),.clo (.func 31) [.ptr 900 0] []] (HW k {h.2 with env:=Ck σ.env (p.spec.ax.map (·.name)) h.1.inner}) (λv H1=>v=.d (.list 42 (b.map dPr))/\H1=HW k σb))
 (hG:FnE prog (glS mm) 56 [.d (.list 23 (p.ak.map dGu)),.clo (.func 57) [.ptr 900 0] []] (HW k {σb with env:=Ck σ.env p.spec.names h.1.own}) (λv H1=>v=.d (.list 23 (g'.map dGu))/\H1=HW k σg))
 (hL:FnE prog (glS mm) 58 [.d (.list 42 (p.l.map dPr)),.clo (.func 31) [.ptr 900 0] []] (HW k σg) (λv H1=>v=.d (.list 42 (l'.map dPr))/\H1=HW k σm)):
 FnE prog (glS mm) 31 [.ptr 900 0,.d (dPr p)] (HW k σ)
  (λv H1=>v=.d (dPr (Pr.set2 (.mk p.kind a.1 c.1 t.1 x.1 p.rep p.ak p.l p.ay (p.spec.with' h.1 b)) g' l'))/\H1=HW k {σm with env:=σ.env}):=by
 have hroom:=hfit.room;have hdeep:=hfit.deep;unfold W.room Gz Na at hroom;have ga:Sc.Grow σ a.2 1:=by
  rw[ha];split
  ·exact Hu σ p.name
  ·exact Sc.Grow.refl _ _
 have gc:Sc.Grow a.2 c.2 (exN p.av):=by rw[hc];exact Cz _ _
 have gt:Sc.Grow c.2 t.2 (Gb p.aj):=by rw[ht];exact Fs _ _
 have gx:Sc.Grow t.2 x.2 (Gb p.au):=by rw[hx];exact Ia _ _ _
 have e1:=ga.ev;have e2:=gc.ev;have e3:=gt.ev;have e4:=gx.ev;have xenv:x.2.env=σ.env:=((gx.env.trans gt.env).trans gc.env).trans ga.env;have gxx:=((ga.trans gc).trans gt).trans gx;have w1:p.kind=17->FnE prog (glS mm) 46 [.ptr 900 0,.d (.str p.name)] (HW k σ) (λv H1=>v=.d (.str a.1)/\H1=HW k a.2):=λh17=>by
  rw[ha,Ae h17];exact jm3 (glS mm) k σ p.name (by unfold W.room;omega)
 have a17:p.kind≠17->a=(p.name,σ):=λh17=>by rw[ha,Af h17]
 have w2:=jh0 (glS mm) k a.2 (.mk p.kind a.1 p.av p.aj p.au p.rep p.ak p.l p.ay p.spec) h5;rw[show Dc a.2.env (Pr.mk p.kind a.1 p.av p.aj p.au p.rep p.ak p.l p.ay p.spec).kind (Pr.mk p.kind a.1 p.av p.aj p.au p.rep p.ak p.l p.ay p.spec).av (Pr.mk p.kind a.1 p.av p.aj p.au p.rep p.ak p.l p.ay p.spec).au=tag by rw[ga.env];exact htag.symm,v6]at w2;have w3:=jd1 (glS mm) k p.av a.2 (by unfold W.room;omega);rw[<-hc]at w3;have w4:=jm5 (glS mm) k p.aj c.2 (by unfold W.room;omega);rw[<-ht]at w4;have w5:=jc1 (glS mm) k tag p.au t.2 (by have:=ja0 p.au;omega) λj hj=>jd1 (glS mm) k p.au[j] _ (by
  have h1:=(Ia tag t.2 (p.au.take j)).ev;have h2:=l8 p.au j hj;unfold W.room;omega)
 rw[<-hx]at w5;have w6:=jh1 (glS mm) p.ay hpr;clear ha hc ht hx htag;have w7:=qg5 (mm:=mm) k p.spec x.2 σb b (x6 gxx (m:=Qd p.spec+1) (hfit.mono (by unfold Gz;omega))) hl hv (by rw[<-hh,xenv];exact hbe) (by rw[<-hh,xenv];exact hB);rw[<-hh,xenv]at w7;have w8:=jk8 (glS mm) k {σb with env:=σ.env} σm p.spec.names h.1.own (.mk p.kind a.1 c.1 t.1 x.1 p.rep p.ak p.l p.ay (p.spec.with' h.1 b)) (Pr.set2 (.mk p.kind a.1 c.1 t.1 x.1 p.rep p.ak p.l p.ay (p.spec.with' h.1 b)) g' l') hown (λu=>by
  have:=hdeep u;unfold Qd at this;dsimp only;omega) hme (jc0 (glS mm) k _ σg σm (.mk p.kind a.1 c.1 t.1 x.1 p.rep p.ak p.l p.ay (p.spec.with' h.1 b)) g' l' hG hL)
 clear hB hh hown hbe;simp only[k9]at w3;clear hG hL hme gxx e1 e2 e3 e4 ga gc gt gx xenv hdeep hroom hfit;rw[v6];by_cases h17:p.kind=17
 ·exfalso;omega
 ·obtain rfl:=a17 h17;clear w1 a17;cases k
  all_goals dsimp only[HW,ja9,n7]at w2 w3 w4 w5 w8 w7 ⊢
  all_goals (refine j2 func31 ntmps31 results31 λw M E b0=>?_)
  all_goals (repeat' first|apply Ca 2;(refine Cm 1002 ?_)|apply Ca 3;(refine Cm 1003 ?_)|apply Ca 4;(refine j3 1004 ?_)|apply Ca 19;refine Ch (hc:=w2) ?_|apply Ca 5;(refine j3 1005 ?_)|apply Ca 23;refine Ch (hc:=w3) ?_|apply Ca 29;refine Ch (hc:=w4) ?_|apply Ca 6;(refine j3 1006 ?_)|apply Ca 34;refine Ch (hc:=w5) ?_|apply Ca 47;(refine Df 1047 ?_)|apply Ca 78;refine Ch (hc:=w7) ?_|apply Ca 86;refine Ch (hc:=w8) ?_|refine yyp ?_|refine yy ?_|refine yy2 ?_ ?_<;>intro hcmp|apply Cg 51;refine Ci (hc:=w6) ?_|apply ah;refine Cc [0,1,2,3,4,5,6,7,8,11,43,45,70] ?_|refine Cb λK hK=>?_|apply Cf 14;refine j0 [16] (lin [0,4,8,20,24,40,44,13,17,29,37,49,34,54,56,60,67]) ?_|apply_assumption -exfalso -symm)
  all_goals first
   |(exfalso;exact h17 (by assumption))
   |(exfalso;exact absurd h0 (by assumption))
   |(exfalso;exact absurd hk (by assumption))
   |(exfalso;exact hk (by assumption))
   |(exfalso;exact h0 (by assumption))
   |((refine j1 (j6 ⟨?_,rfl⟩))
     rfl)
end
section
def rg1:List Nat:=[0,1,2,3,4,5,6,7,8,11,43,45,70]
def rg2:Plan:=lin [0,4,8,20,24,40,44,13,17,29,37,49,34,54,56,60,67]
variable {mm:Int}
attribute [local irreducible] TR TC
theorem qh1 (k:Sc.Kind)(p:Pr)(σ:W)(a:ByteArray × W)(ha:a=if p.kind=17 then aA σ p.name else (p.name,σ))(tag:Bool)(htag:tag=Dc σ.env p.kind p.av p.au)(c:Ex × W)(hc:c=j4 a.2 p.av)(t:List Ex × W)(ht:t=y9 j4 c.2 p.aj)(x:List Ex × W)(hx:x=Fw tag t.2 p.au)(g':List Gu)(l':List Pr)(σg σm:W)(hk:p.kind≠18)(h0:p.rep.name=ByteArray.empty)(h5:p.kind=5->0<p.au.length)(hfit:σ.fit (Gz p.av p.aj p.au p.rep+1))(hpr:p.ay.length<=10000000)(hl:p.spec.aN.l.length<=1000000000)(hv:∀ v∈p.spec.aN.l,v.items.length<=10000000)
 (hme:σm.env=Ck σ.env ([]:List ByteArray) ([]:List Sc.Ent))
 (hG:FnE prog (glS mm) 56 [.d (.list 23 (p.ak.map dGu)),.clo (.func 57) [.ptr 900 0] []] (HW k {x.2 with env:=Ck σ.env ([]:List ByteArray) ([]:List Sc.Ent)}) (λv H1=>v=.d (.list 23 (g'.map dGu))/\H1=HW k σg))
 (hL:FnE prog (glS mm) 58 [.d (.list 42 (p.l.map dPr)),.clo (.func 31) [.ptr 900 0] []] (HW k σg) (λv H1=>v=.d (.list 42 (l'.map dPr))/\H1=HW k σm)):
 FnE prog (glS mm) 31 [.ptr 900 0,.d (dPr p)] (HW k σ)
  (λv H1=>v=.d (dPr (Pr.set2 (.mk p.kind a.1 c.1 t.1 x.1 p.rep p.ak p.l p.ay p.spec) g' l'))/\H1=HW k {σm with env:=σ.env}):=by
 have hroom:=hfit.room;have hdeep:=hfit.deep;unfold W.room Gz Na at hroom;have ga:Sc.Grow σ a.2 1:=by
  rw[ha];split
  ·exact Hu σ p.name
  ·exact Sc.Grow.refl _ _
 have gc:Sc.Grow a.2 c.2 (exN p.av):=by rw[hc];exact Cz _ _
 have gt:Sc.Grow c.2 t.2 (Gb p.aj):=by rw[ht];exact Fs _ _
 have gx:Sc.Grow t.2 x.2 (Gb p.au):=by rw[hx];exact Ia _ _ _
 have e1:=ga.ev;have e2:=gc.ev;have e3:=gt.ev;have e4:=gx.ev;have xenv:x.2.env=σ.env:=((gx.env.trans gt.env).trans gc.env).trans ga.env;have gxx:=((ga.trans gc).trans gt).trans gx;have w1:p.kind=17->FnE prog (glS mm) 46 [.ptr 900 0,.d (.str p.name)] (HW k σ) (λv H1=>v=.d (.str a.1)/\H1=HW k a.2):=λh17=>by
  rw[ha,Ae h17];exact jm3 (glS mm) k σ p.name (by unfold W.room;omega)
 have a17:p.kind≠17->a=(p.name,σ):=λh17=>by rw[ha,Af h17]
 have w2:=jh0 (glS mm) k a.2 (.mk p.kind a.1 p.av p.aj p.au p.rep p.ak p.l p.ay p.spec) h5;rw[show Dc a.2.env (Pr.mk p.kind a.1 p.av p.aj p.au p.rep p.ak p.l p.ay p.spec).kind (Pr.mk p.kind a.1 p.av p.aj p.au p.rep p.ak p.l p.ay p.spec).av (Pr.mk p.kind a.1 p.av p.aj p.au p.rep p.ak p.l p.ay p.spec).au=tag by rw[ga.env];exact htag.symm,v6]at w2;have w3:=jd1 (glS mm) k p.av a.2 (by unfold W.room;omega);rw[<-hc]at w3;have w4:=jm5 (glS mm) k p.aj c.2 (by unfold W.room;omega);rw[<-ht]at w4;have w5:=jc1 (glS mm) k tag p.au t.2 (by have:=ja0 p.au;omega) λj hj=>jd1 (glS mm) k p.au[j] _ (by
  have h1:=(Ia tag t.2 (p.au.take j)).ev;have h2:=l8 p.au j hj;unfold W.room;omega)
 rw[<-hx]at w5;have w6:=jh1 (glS mm) p.ay hpr;clear ha hc ht hx htag;have w8:=jk8 (glS mm) k {x.2 with env:=σ.env} σm [] [] (.mk p.kind a.1 c.1 t.1 x.1 p.rep p.ak p.l p.ay p.spec) (Pr.set2 (.mk p.kind a.1 c.1 t.1 x.1 p.rep p.ak p.l p.ay p.spec) g' l') rfl (λu=>by
  have:=hdeep u;dsimp only[Av];omega) hme (jc0 (glS mm) k _ σg σm (.mk p.kind a.1 c.1 t.1 x.1 p.rep p.ak p.l p.ay p.spec) g' l' hG hL)
 rw[show({x.2 with env:=σ.env}:W)=x.2 by rw[<-xenv],xenv]at w8;simp only[k9]at w3;clear hG hL hme gxx e1 e2 e3 e4 ga gc gt gx xenv hdeep hroom hfit;rw[v6];by_cases h17:p.kind=17
 ·have w1:=w1 h17;clear a17;cases k
  all_goals dsimp only[HW,ja9,n7]at w1 w2 w3 w4 w5 w8 ⊢
  all_goals (refine j2 func31 ntmps31 results31 λw M E b0=>?_)
  all_goals (repeat' first|apply Ca 2;(refine Cm 1002 ?_)|apply Ca 3;(refine Cm 1003 ?_)|apply Ca 4;(refine j3 1004 ?_)|apply Ca 15;refine Ch (hc:=w1) ?_|apply Ca 19;refine Ch (hc:=w2) ?_|apply Ca 5;(refine j3 1005 ?_)|apply Ca 23;refine Ch (hc:=w3) ?_|apply Ca 29;refine Ch (hc:=w4) ?_|apply Ca 6;(refine j3 1006 ?_)|apply Ca 34;refine Ch (hc:=w5) ?_|apply Ca 47;(refine Df 1047 ?_)|apply Ca 86;refine Ch (hc:=w8) ?_|refine yyp ?_|refine yy ?_|refine yy2 ?_ ?_<;>intro hcmp|apply Cg 51;refine Ci (hc:=w6) ?_|apply ah;refine Cc rg1 ?_|refine Cb λK hK=>?_|apply Cf 14;refine j0 [16] rg2 ?_|apply_assumption -exfalso -symm)
  all_goals first
   |(exfalso;exact absurd h17 (by assumption))
   |(exfalso;exact absurd h0 (by assumption))
   |(exfalso;exact hk (by assumption))
   |(exfalso;exact h0 (by assumption))
   |((refine j1 (j6 ⟨?_,rfl⟩))
     rfl)
 ·obtain rfl:=a17 h17;clear w1 a17;cases k
  all_goals dsimp only[HW,ja9,n7]at w2 w3 w4 w5 w8 ⊢
  all_goals (refine j2 func31 ntmps31 results31 λw M E b0=>?_)
  all_goals (repeat' first|apply Ca 2;(refine Cm 1002 ?_)|apply Ca 3;(refine Cm 1003 ?_)|apply Ca 4;(refine j3 1004 ?_)|apply Ca 19;refine Ch (hc:=w2) ?_|apply Ca 5;(refine j3 1005 ?_)|apply Ca 23;refine Ch (hc:=w3) ?_|apply Ca 29;refine Ch (hc:=w4) ?_|apply Ca 6;(refine j3 1006 ?_)|apply Ca 34;refine Ch (hc:=w5) ?_|apply Ca 47;(refine Df 1047 ?_)|apply Ca 86;refine Ch (hc:=w8) ?_|refine yyp ?_|refine yy ?_|refine yy2 ?_ ?_<;>intro hcmp|apply Cg 51;refine Ci (hc:=w6) ?_|apply ah;refine Cc rg1 ?_|refine Cb λK hK=>?_|apply Cf 14;refine j0 [16] rg2 ?_|apply_assumption -exfalso -symm)
  all_goals first
   |(exfalso;exact h17 (by assumption))
   |(exfalso;exact absurd h0 (by assumption))
   |(exfalso;exact absurd hk (by assumption))
   |(exfalso;exact hk (by assumption))
   |(exfalso;exact h0 (by assumption))
   |((refine j1 (j6 ⟨?_,rfl⟩))
     rfl)
end
section
variable {mm:Int}
mutual
def kv4:Pr->Prop
 |.mk _ _ _ _ _ _ ak l ay (.mk _ _ _ _ spp _ sb)=>(ay.length<=10000000/\spp.l.length<=1000000000/\∀ v∈spp.l,v.items.length<=10000000)/\jt9 sb/\kj7 ak/\jt9 l
def jt9:List Pr->Prop
 |[]=>True
 |p::l=>kv4 p/\jt9 l
def kj7:List Gu->Prop
 |[]=>True
 |.mk _ _ _ _ _ _ _ body::l=>jt9 body/\kj7 l
end
theorem rm3:∀ p:Pr,1<=Sc.prN p
 |.mk _ _ _ _ _ _ _ _ _ (.mk _ _ _ _ _ _ _)=>by simp only[Sc.prN];omega
theorem mq6:∀ l:List Pr,l.length<=Kw l
 |[]=>Ai _
 |p::l=>by have:=mq6 l;have:=rm3 p;simp only[An,Kw];omega
theorem rm4:∀ g:Gu,1<=Sc.guN g
 |.mk _ _ cond _ _ _ _ _=>by have:=jn7 cond;simp only[Sc.guN,Qm];omega
theorem mq7:∀ l:List Gu,l.length<=Ms l
 |[]=>Ai _
 |p::l=>by have:=mq7 l;have:=rm4 p;simp only[An,Ms];omega
theorem md8:∀ (l:List Pr) (j:Nat) (hj:j<l.length),Kw (l.take j)+Sc.prN l[j]<=Kw l
 |[],_,h=>by simp at h
 |p::l,0,_=>by simp[Kw]
 |p::l,j+1,h=>by
  have:=md8 l j (by simpa using h);simp only[Fb,Kw,Fd];omega
theorem md9:∀ (l:List Gu) (j:Nat) (hj:j<l.length),Ms (l.take j)+Sc.guN l[j]<=Ms l
 |[],_,h=>by simp at h
 |p::l,0,_=>by simp[Ms]
 |p::l,j+1,h=>by
  have:=md9 l j (by simpa using h);simp only[Fb,Ms,Fd];omega
theorem jx3 (k:Sc.Kind)(l:List Pr)(σ:W)(hf:σ.fit (Kw l+1))
 (ih:∀ x∈l,∀ σ:W,σ.fit (Sc.prN x+1)->FnE prog (glS mm) 31 [.ptr 900 0,.d (dPr x)] (HW k σ) (λv H1=>v=.d (dPr (Dp σ x).1)/\H1=HW k (Dp σ x).2)):
 FnE prog (glS mm) 58 [.d (.list 42 (l.map dPr)),.clo (.func 31) [.ptr 900 0] []] (HW k σ)
  (λv H1=>v=.d (.list 42 ((y9 Dp σ l).1.map dPr))/\H1=HW k (y9 Dp σ l).2):=by
 have hr:=hf.room;unfold W.room at hr;have:=mq6 l;refine kj0 (glS mm) k l σ (by omega) λj hj=>ih l[j] (At hj) _ ?_;have g:=Ib (l.take j) σ;rw[Mt]at g;have h2:=md8 l j hj;exact x6 g (hf.mono (by omega))
theorem qh2 (k:Sc.Kind)(g:Gu)(σ:W)(hf:σ.fit (Sc.guN g+1))
 (ih:∀ x∈g.body,∀ σ:W,σ.fit (Sc.prN x+1)->FnE prog (glS mm) 31 [.ptr 900 0,.d (dPr x)] (HW k σ) (λv H1=>v=.d (dPr (Dp σ x).1)/\H1=HW k (Dp σ x).2)):
 FnE prog (glS mm) 57 [.ptr 900 0,.d (dGu g)] (HW k σ) (λv H1=>v=.d (dGu (Jo σ g).1)/\H1=HW k (Jo σ g).2):=by
 obtain⟨kind,name,cond,av,aj,values,time,body⟩:=g;simp only[Sc.guN]at hf;have gh:=Pm σ cond av aj values time;have hb:=jx3 (mm:=mm) k body (Jg σ cond av aj values time).2 (x6 gh (hf.mono (by omega))) ih;have h:=mv7 (glS mm) k (.mk kind name cond av aj values time body) σ _ _ (hf.mono (by simp only[Gu.cond,Gu.av,Gu.aj,Gu.values,Gu.time];omega)).room hb;simp only[Jo,Mt];exact h
theorem kv5 (k:Sc.Kind)(l:List Gu)(σ:W)(hf:σ.fit (Ms l+1))
 (ih:∀ g∈l,∀ x∈g.body,∀ σ:W,σ.fit (Sc.prN x+1)->FnE prog (glS mm) 31 [.ptr 900 0,.d (dPr x)] (HW k σ) (λv H1=>v=.d (dPr (Dp σ x).1)/\H1=HW k (Dp σ x).2)):
 FnE prog (glS mm) 56 [.d (.list 23 (l.map dGu)),.clo (.func 57) [.ptr 900 0] []] (HW k σ)
  (λv H1=>v=.d (.list 23 ((y9 Jo σ l).1.map dGu))/\H1=HW k (y9 Jo σ l).2):=by
 have hr:=hf.room;unfold W.room at hr;have:=mq7 l;refine kv2 (glS mm) k l σ (by omega) λj hj=>qh2 k l[j] _ ?_ (ih l[j] (At hj));have g:=Jr (l.take j) σ;rw[Oy]at g;have h2:=md9 l j hj;exact x6 g (hf.mono (by omega))
theorem kv6:∀ {l:List Pr},jt9 l->∀ x∈l,kv4 x
 |p::l,h,x,hx=>by
  simp only[jt9]at h;rcases Bg.1 hx with rfl|hx
  ·exact h.1
  ·exact kv6 h.2 x hx
theorem mq8:∀ {l:List Gu},kj7 l->∀ g∈l,jt9 g.body
 |.mk _ _ _ _ _ _ _ body::l,h,x,hx=>by
  simp only[kj7]at h;rcases Bg.1 hx with rfl|hx
  ·exact h.1
  ·exact mq8 h.2 x hx
theorem mq9:∀ {l:List Pr},Rv l->∀ x∈l,Uu x
 |p::l,h,x,hx=>by
  simp only[Rv]at h;rcases Bg.1 hx with rfl|hx
  ·exact h.1
  ·exact mq9 h.2 x hx
theorem qh3:∀ {l:List Gu},Ue l->∀ g∈l,Rv g.body
 |.mk _ _ _ _ _ _ _ body::l,h,x,hx=>by
  simp only[Ue,Sc.okGu]at h;rcases Bg.1 hx with rfl|hx
  ·exact h.1
  ·exact qh3 h.2 x hx
theorem kf3 (k:Sc.Kind):∀ (n:Nat) (p:Pr),SizeOf.sizeOf p<=n->Uu p->kv4 p->∀ σ:W,σ.fit (Sc.prN p+1)->
 FnE prog (glS mm) 31 [.ptr 900 0,.d (dPr p)] (HW k σ) (λv H1=>v=.d (dPr (Dp σ p).1)/\H1=HW k (Dp σ p).2):=by
 intro n
 induction n with
 |zero=>intro p h;cases p;simp only[Pr.mk.sizeOf_spec]at h;omega
 |succ n ih=>
  intro p hp hok hcap σ hf;have il:∀ x∈p.l,SizeOf.sizeOf x<=n:=λx hx=>by have:=rk7 hx;omega
  have ig:∀ g∈p.ak,∀ x∈g.body,SizeOf.sizeOf x<=n:=λg hg x hx=>by have:=rk8 hg hx;omega
  have ib:∀ x∈p.spec.body,SizeOf.sizeOf x<=n:=λx hx=>by have:=rk9 hx;omega
  obtain⟨kind,name,av,aj,au,rep,ak,l,ay,⟨sk,st,sn,se,spp,sf,sb⟩⟩:=p;simp only[Uu]at hok;simp only[kv4]at hcap;obtain⟨hn,hsp,_,_,hob,hog,hol⟩:=hok;obtain⟨⟨hc1,hc2,hc3⟩,hcb,hcg,hcl⟩:=hcap;simp only[Pr.l,Pr.ak,Pr.spec,Sp.body]at il ig ib;have il:=λx hx=>ih x (il x hx) (mq9 hol x hx) (kv6 hcl x hx);have ig:=λg hg x hx=>ih x (ig g hg x hx) (mq9 (qh3 hog g hg) x hx) (kv6 (mq8 hcg g hg) x hx);have ib:=λx hx=>ih x (ib x hx) (mq9 hob x hx) (kv6 hcb x hx);simp only[Sc.prN]at hf;have gp:=Pn σ kind name av aj au rep;have h5:kind=5->0<au.length:=λh=>List.length_pos_iff.2 (hn.2 h).1;by_cases hk:kind=18
  ·have h0:=hn.1.1 hk;have hr:Jk (Fw (Dc σ.env kind av au) (y9 j4 (j4 (if kind=17 then aA σ name else (name,σ)).2 av).2 aj).2 au).2 rep=((rep,[]),(Fw (Dc σ.env kind av au) (y9 j4 (j4 (if kind=17 then aA σ name else (name,σ)).2 av).2 aj).2 au).2):=by
    unfold Jk;rw[Ae h0]
   simp only[Dp,Ae hk];unfold Hl at gp ⊢;dsimp only at gp ⊢;rw[hr]at gp ⊢;dsimp only at gp ⊢;obtain⟨a,ha⟩:∃ a,a=if kind=17 then aA σ name else (name,σ):=⟨_,rfl⟩;rw[<-ha]at gp ⊢;obtain⟨c,hc⟩:∃ c,c=j4 a.2 av:=⟨_,rfl⟩;rw[<-hc]at gp ⊢;obtain⟨t,ht⟩:∃ t,t=y9 j4 c.2 aj:=⟨_,rfl⟩;rw[<-ht]at gp ⊢;obtain⟨x,hx⟩:∃ x,x=Fw (Dc σ.env kind av au) t.2 au:=⟨_,rfl⟩;rw[<-hx]at gp ⊢;have fx:=x6 gp (m:=2 * sn.length+3 * sf.length+exN se+1+Kw sb+Ms ak+Kw l+1) (hf.mono (by omega));have gh:=Ox x.2 (.mk sk st sn se spp sf []);obtain⟨h,hh⟩:∃ h,h=Hf x.2 (.mk sk st sn se spp sf []):=⟨_,rfl⟩;rw[<-hh]at gh ⊢;have hN:Qd (.mk sk st sn se spp sf [])=2 * sn.length+3 * sf.length+exN se+1:=rfl;have fh:=x6 gh (m:=Kw sb+Ms ak+Kw l+1) (fx.mono (by omega));have hil:sf.length=h.1.inner.length:=by
    rw[hh];unfold Hf;dsimp only;rw[Ns,Aa];rfl
   have hol':sn.length=h.1.own.length:=by
    rw[hh];unfold Hf;dsimp only;rw[Ns,Aa];rfl
   have fb:=kf2 (τ:=h.2) (ns:=sf.map (·.name)) (xs:=h.1.inner) (m:=Kw sb+Ms ak+Kw l+1) (hf.mono (by rw[Aa];omega)) fh (by rw[Aa];exact hil);have hB:=jx3 (mm:=mm) k sb _ (fb.mono (m:=Kw sb+1) (by omega)) ib;rw[<-Mt]at hB;have gb:=Ib sb {h.2 with env:=Ck σ.env (sf.map (·.name)) h.1.inner};obtain⟨b,hb'⟩:∃ b,b=Gt {h.2 with env:=Ck σ.env (sf.map (·.name)) h.1.inner} sb:=⟨_,rfl⟩;rw[<-hb']at hB gb ⊢;have fb2:=x6 gb (m:=Ms ak+Kw l+1) (fb.mono (by omega));have fg:=kf2 (τ:=b.2) (ns:=sn) (xs:=h.1.own) (m:=Ms ak+Kw l+1) (hf.mono (by omega)) fb2 hol';have hG:=kv5 (mm:=mm) k ak _ (fg.mono (m:=Ms ak+1) (by omega)) ig;rw[<-Oy]at hG;have gg:=Jr ak {b.2 with env:=Ck σ.env sn h.1.own};obtain⟨g,hg⟩:∃ g,g=Hg {b.2 with env:=Ck σ.env sn h.1.own} ak:=⟨_,rfl⟩;rw[<-hg]at hG gg ⊢;have fg2:=x6 gg (m:=Kw l+1) (fg.mono (by omega));have hL:=jx3 (mm:=mm) k l g.2 fg2 il;rw[<-Mt]at hL;have gl':=Ib l g.2;obtain⟨q,hq⟩:∃ q,q=Gt g.2 l:=⟨_,rfl⟩;rw[<-hq]at hL gl' ⊢;have hhd:Hf x.2 (.mk sk st sn se spp sf sb)=Hf x.2 (.mk sk st sn se spp sf []):=rfl;exact qh0 (mm:=mm) k (.mk kind name av aj au rep ak l ay (.mk sk st sn se spp sf sb)) σ a ha _ rfl c hc t ht x hx h (hh.trans hhd.symm) b.1 b.2 gb.env hol' g.1 q.1 g.2 q.2 hk h0 h5 (hf.mono (by have:Qd (.mk sk st sn se spp sf sb)=2 * sn.length+3 * sf.length+exN se+1:=rfl;simp only[Pr.av,Pr.aj,Pr.au,Pr.rep,Pr.spec];omega)) hc1 hc2 hc3 (gl'.env.trans gg.env) hB hG hL
  ·simp only[Dp,Af hk];by_cases h0:rep.name=ByteArray.empty
   ·have hr:Jk (Fw (Dc σ.env kind av au) (y9 j4 (j4 (if kind=17 then aA σ name else (name,σ)).2 av).2 aj).2 au).2 rep=((rep,[]),(Fw (Dc σ.env kind av au) (y9 j4 (j4 (if kind=17 then aA σ name else (name,σ)).2 av).2 aj).2 au).2):=by
     unfold Jk;rw[Ae h0]
    rw[Ae h0];unfold Hl at gp ⊢;dsimp only at gp ⊢;rw[hr]at gp ⊢;dsimp only at gp ⊢;obtain⟨a,ha⟩:∃ a,a=if kind=17 then aA σ name else (name,σ):=⟨_,rfl⟩;rw[<-ha]at gp ⊢;obtain⟨c,hc⟩:∃ c,c=j4 a.2 av:=⟨_,rfl⟩;rw[<-hc]at gp ⊢;obtain⟨t,ht⟩:∃ t,t=y9 j4 c.2 aj:=⟨_,rfl⟩;rw[<-ht]at gp ⊢;obtain⟨x,hx⟩:∃ x,x=Fw (Dc σ.env kind av au) t.2 au:=⟨_,rfl⟩;rw[<-hx]at gp ⊢;have fx:=x6 gp (m:=Ms ak+Kw l+1) (hf.mono (by omega));have fg:=kf2 (τ:=x.2) (ns:=([]:List ByteArray)) (xs:=([]:List Sc.Ent)) (m:=Ms ak+Kw l+1) (hf.mono (by simp only[An,Av];omega)) fx rfl;have hG:=kv5 (mm:=mm) k ak _ (fg.mono (m:=Ms ak+1) (by omega)) ig;rw[<-Oy]at hG;have gg:=Jr ak {x.2 with env:=Ck σ.env ([]:List ByteArray) ([]:List Sc.Ent)};obtain⟨g,hg⟩:∃ g,g=Hg {x.2 with env:=Ck σ.env ([]:List ByteArray) ([]:List Sc.Ent)} ak:=⟨_,rfl⟩;rw[<-hg]at hG gg ⊢;have fg2:=x6 gg (m:=Kw l+1) (fg.mono (by omega));have hL:=jx3 (mm:=mm) k l g.2 fg2 il;rw[<-Mt]at hL;have gl':=Ib l g.2;obtain⟨q,hq⟩:∃ q,q=Gt g.2 l:=⟨_,rfl⟩;rw[<-hq]at hL gl' ⊢;exact qh1 (mm:=mm) k (.mk kind name av aj au rep ak l ay (.mk sk st sn se spp sf sb)) σ a ha _ rfl c hc t ht x hx g.1 q.1 g.2 q.2 hk h0 h5 (hf.mono (by simp only[Pr.av,Pr.aj,Pr.au,Pr.rep];omega)) hc1 hc2 hc3 (gl'.env.trans gg.env) hG hL
   ·have hr:Jk (Fw (Dc σ.env kind av au) (y9 j4 (j4 (if kind=17 then aA σ name else (name,σ)).2 av).2 aj).2 au).2 rep=((⟨(Cx (Fw (Dc σ.env kind av au) (y9 j4 (j4 (if kind=17 then aA σ name else (name,σ)).2 av).2 aj).2 au).2).1,(j4 (Cx (Fw (Dc σ.env kind av au) (y9 j4 (j4 (if kind=17 then aA σ name else (name,σ)).2 av).2 aj).2 au).2).2 rep.base).1,(j4 (j4 (Cx (Fw (Dc σ.env kind av au) (y9 j4 (j4 (if kind=17 then aA σ name else (name,σ)).2 av).2 aj).2 au).2).2 rep.base).2 rep.count).1⟩,[⟨(Cx (Fw (Dc σ.env kind av au) (y9 j4 (j4 (if kind=17 then aA σ name else (name,σ)).2 av).2 aj).2 au).2).1,false,[]⟩]),(j4 (j4 (Cx (Fw (Dc σ.env kind av au) (y9 j4 (j4 (if kind=17 then aA σ name else (name,σ)).2 av).2 aj).2 au).2).2 rep.base).2 rep.count).2):=by
     unfold Jk;rw[Af h0]
    rw[Af h0];unfold Hl at gp ⊢;dsimp only at gp ⊢;rw[hr]at gp ⊢;dsimp only at gp ⊢;obtain⟨a,ha⟩:∃ a,a=if kind=17 then aA σ name else (name,σ):=⟨_,rfl⟩;rw[<-ha]at gp ⊢;obtain⟨c,hc⟩:∃ c,c=j4 a.2 av:=⟨_,rfl⟩;rw[<-hc]at gp ⊢;obtain⟨t,ht⟩:∃ t,t=y9 j4 c.2 aj:=⟨_,rfl⟩;rw[<-ht]at gp ⊢;obtain⟨x,hx⟩:∃ x,x=Fw (Dc σ.env kind av au) t.2 au:=⟨_,rfl⟩;rw[<-hx]at gp ⊢;obtain⟨r,hr'⟩:∃ r,r=Cx x.2:=⟨_,rfl⟩;rw[<-hr']at gp ⊢;obtain⟨rb,hrb⟩:∃ rb,rb=j4 r.2 rep.base:=⟨_,rfl⟩;rw[<-hrb]at gp ⊢;obtain⟨rc,hrc⟩:∃ rc,rc=j4 rb.2 rep.count:=⟨_,rfl⟩;rw[<-hrc]at gp ⊢;have fx:=x6 gp (m:=Ms ak+Kw l+1) (hf.mono (by omega));have fg:=kf2 (τ:=rc.2) (ns:=[rep.name]) (xs:=[(⟨r.1,false,[]⟩:Sc.Ent)]) (m:=Ms ak+Kw l+1) (hf.mono (by simp only[An,Av];omega)) fx rfl;have hG:=kv5 (mm:=mm) k ak _ (fg.mono (m:=Ms ak+1) (by omega)) ig;rw[<-Oy]at hG;have gg:=Jr ak {rc.2 with env:=Ck σ.env [rep.name] [(⟨r.1,false,[]⟩:Sc.Ent)]};obtain⟨g,hg⟩:∃ g,g=Hg {rc.2 with env:=Ck σ.env [rep.name] [(⟨r.1,false,[]⟩:Sc.Ent)]} ak:=⟨_,rfl⟩;rw[<-hg]at hG gg ⊢;have fg2:=x6 gg (m:=Kw l+1) (fg.mono (by omega));have hL:=jx3 (mm:=mm) k l g.2 fg2 il;rw[<-Mt]at hL;have gl':=Ib l g.2;obtain⟨q,hq⟩:∃ q,q=Gt g.2 l:=⟨_,rfl⟩;rw[<-hq]at hL gl' ⊢;by_cases h17:kind=17
    ·cases k with
     |free=>exact kj3 (mm:=mm) (.mk kind name av aj au rep ak l ay (.mk sk st sn se spp sf sb)) σ a ha _ rfl c hc t ht x hx r hr' rb hrb rc hrc g.1 q.1 g.2 q.2 h17 hk h0 h5 (hf.mono (by simp only[Pr.av,Pr.aj,Pr.au,Pr.rep];omega)) hc1 hc2 hc3 (gl'.env.trans gg.env) hG hL
     |check cn=>exact ke4 (mm:=mm) cn (.mk kind name av aj au rep ak l ay (.mk sk st sn se spp sf sb)) σ a ha _ rfl c hc t ht x hx r hr' rb hrb rc hrc g.1 q.1 g.2 q.2 h17 hk h0 h5 (hf.mono (by simp only[Pr.av,Pr.aj,Pr.au,Pr.rep];omega)) hc1 hc2 hc3 (gl'.env.trans gg.env) hG hL
     |none=>exact kj4 (mm:=mm) (.mk kind name av aj au rep ak l ay (.mk sk st sn se spp sf sb)) σ a ha _ rfl c hc t ht x hx r hr' rb hrb rc hrc g.1 q.1 g.2 q.2 h17 hk h0 h5 (hf.mono (by simp only[Pr.av,Pr.aj,Pr.au,Pr.rep];omega)) hc1 hc2 hc3 (gl'.env.trans gg.env) hG hL
    ·cases k with
     |free=>exact kj5 (mm:=mm) (.mk kind name av aj au rep ak l ay (.mk sk st sn se spp sf sb)) σ a ha _ rfl c hc t ht x hx r hr' rb hrb rc hrc g.1 q.1 g.2 q.2 h17 hk h0 h5 (hf.mono (by simp only[Pr.av,Pr.aj,Pr.au,Pr.rep];omega)) hc1 hc2 hc3 (gl'.env.trans gg.env) hG hL
     |check cn=>exact ke5 (mm:=mm) cn (.mk kind name av aj au rep ak l ay (.mk sk st sn se spp sf sb)) σ a ha _ rfl c hc t ht x hx r hr' rb hrb rc hrc g.1 q.1 g.2 q.2 h17 hk h0 h5 (hf.mono (by simp only[Pr.av,Pr.aj,Pr.au,Pr.rep];omega)) hc1 hc2 hc3 (gl'.env.trans gg.env) hG hL
     |none=>exact kj6 (mm:=mm) (.mk kind name av aj au rep ak l ay (.mk sk st sn se spp sf sb)) σ a ha _ rfl c hc t ht x hx r hr' rb hrb rc hrc g.1 q.1 g.2 q.2 h17 hk h0 h5 (hf.mono (by simp only[Pr.av,Pr.aj,Pr.au,Pr.rep];omega)) hc1 hc2 hc3 (gl'.env.trans gg.env) hG hL
end
section
variable {mm:Int}
attribute [local irreducible] TR TC
theorem jl0 (gl:List (Nat × List D))(k:Sc.Kind)(ev:List (ByteArray × Bool)):
 FnE prog gl 29 [ja9 k] (n7 k ⟨λ_=>[],[],0,ev⟩) (λv H1=>v=.ptr 900 0/\H1=HW k ⟨λ_=>[],[],0,ev⟩):=by
 cases k
 case free=>
  dsimp only[ja9,n7]
  (refine j2 func29 ntmps29 results29 λw M E b0=>?_)
  (repeat' first|apply Ca 3;(refine Iz 901 ?_)|apply Ca 4;(refine Iz 902 ?_)|apply Ca 7;(refine Cm 900 ?_)|refine yyp ?_;try refine Ce ?_ ?_<;>intro hb|refine yy ?_|apply ah;refine Cc [0,2,3,4,5,6] ?_|refine Cb λK hK=>?_|apply_assumption -exfalso -symm)
  refine jm1 (mi9 (n:=901) 112 3 rfl) ?_;refine jm1 (S':=⟨[(2,.ptr 900 0)],HW .free ⟨λ_=>[],[],0,ev⟩,gl⟩) (by dsimp only[HW,ja9,n7];exact r9) ?_
  (refine j1 (j6 ⟨?_,rfl⟩))
  rfl
 case check nn=>
  dsimp only[ja9,n7]
  (refine j2 func29 ntmps29 results29 λw M E b0=>?_)
  (repeat' first|apply Ca 3;(refine Iz 901 ?_)|apply Ca 4;(refine Iz 902 ?_)|apply Ca 7;(refine Cm 900 ?_)|refine yyp ?_;try refine Ce ?_ ?_<;>intro hb|refine yy ?_|apply ah;refine Cc [0,2,3,4,5,6] ?_|refine Cb λK hK=>?_|apply_assumption -exfalso -symm)
  refine jm1 (mi9 (n:=901) 112 3 rfl) ?_;refine jm1 (S':=⟨[(2,.ptr 900 0)],HW (.check nn) ⟨λ_=>[],[],0,ev⟩,gl⟩) (by dsimp only[HW,ja9,n7];exact r9) ?_
  (refine j1 (j6 ⟨?_,rfl⟩))
  rfl
 case none=>
  dsimp only[ja9,n7]
  (refine j2 func29 ntmps29 results29 λw M E b0=>?_)
  (repeat' first|apply Ca 3;(refine Iz 901 ?_)|apply Ca 4;(refine Iz 902 ?_)|apply Ca 7;(refine Cm 900 ?_)|refine yyp ?_;try refine Ce ?_ ?_<;>intro hb|refine yy ?_|apply ah;refine Cc [0,2,3,4,5,6] ?_|refine Cb λK hK=>?_|apply_assumption -exfalso -symm)
  refine jm1 (mi9 (n:=901) 112 3 rfl) ?_;refine jm1 (S':=⟨[(2,.ptr 900 0)],HW .none ⟨λ_=>[],[],0,ev⟩,gl⟩) (by dsimp only[HW,ja9,n7];exact r9) ?_
  (refine j1 (j6 ⟨?_,rfl⟩))
  rfl
end
end Go.Proofs.YtklklgfpkpglgaaGreatDoor
