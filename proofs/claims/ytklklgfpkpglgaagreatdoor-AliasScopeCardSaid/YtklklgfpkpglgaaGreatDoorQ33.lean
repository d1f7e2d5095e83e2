/- Parts. -/
import Derived.Test.YtklklgfpkpglgaaGreatDoorQ32
import Derived.Test.YtklklgfpkpglgaaGreatDoorQ19
set_option linter.all false
set_option maxRecDepth 100000
set_option maxHeartbeats 0
namespace Go.Proofs.YtklklgfpkpglgaaGreatDoor
open Go.RowKit Go.Proofs.Tryz Sc
section
variable {mm:Int}
attribute [local irreducible] TR TC
theorem ql9 (k:Sc.Kind)(p:Pr)(σ:W)(a:ByteArray × W)(ha:a=if p.kind=17 then aA σ p.name else (p.name,σ))(tag:Bool)(htag:tag=Dh σ.env p.kind p.av p.au)(c:Ex × W)(hc:c=j5 a.2 p.av)(t:List Ex × W)(ht:t=z6 j5 c.2 p.aj)(x:List Ex × W)(hx:x=Gg tag t.2 p.au)(h:Sc.Head × W)(hh:h=Fw x.2 p.spec)(b:List Pr)(σb:W)(hbe:σb.env=Cn σ.env (p.spec.ax.map (·.name)) h.1.inner)(hown:p.spec.names.length=h.1.own.length)(g':List Gu)(l':List Pr)(σg σm:W)(hk:p.kind=18)(h0:p.rep.name=ByteArray.empty)(h5:p.kind=5->0<p.au.length)(hfit:σ.fit (Lu p.av p.aj p.au p.rep+Po p.spec+1))(hpr:p.ay.length<=10000000)(hl:p.spec.aN.l.length<=1000000000)(hv:∀ v∈p.spec.aN.l,v.items.length<=10000000)
 (hme:σm.env=Cn σ.env p.spec.names h.1.own) (hB:FnE prog (glS mm) 58 [.d (.list 42 (p.spec.body.map dPr)),.clo (.func 31) [.ptr 900 0] []] (HW k {h.2 with env:=Cn σ.env (p.spec.ax.map (·.name)) h.1.inner}) (λv H1=>v=.d (.list 42 (b.map dPr))/\H1=HW k σb))
 (hG:FnE prog (glS mm) 56 [.d (.list 23 (p.ak.map dGu)),.clo (.func 57) [.ptr 900 0] []] (HW k {σb with env:=Cn σ.env p.spec.names h.1.own}) (λv H1=>v=.d (.list 23 (g'.map dGu))/\H1=HW k σg))
 (hL:FnE prog (glS mm) 58 [.d (.list 42 (p.l.map dPr)),.clo (.func 31) [.ptr 900 0] []] (HW k σg) (λv H1=>v=.d (.list 42 (l'.map dPr))/\H1=HW k σm)):
 FnE prog (glS mm) 31 [.ptr 900 0,.d (dPr p)] (HW k σ)
  (λv H1=>v=.d (dPr (Pr.set2 (.mk p.kind a.1 c.1 t.1 x.1 p.rep p.ak p.l p.ay (p.spec.with' h.1 b)) g' l'))/\H1=HW k {σm with env:=σ.env}):=by
 have hroom:=hfit.room;have hdeep:=hfit.deep;unfold W.room Lu Tz at hroom;have ga:Sc.Grow σ a.2 1:=by
  rw[ha];by_cases hz:p.kind=17
  ·rw[Ad hz];exact Jq σ p.name
  ·rw[Af hz];exact Sc.Grow.refl _ _
 have gc:Sc.Grow a.2 c.2 (exN p.av):=by rw[hc];exact Dk _ _
 have gt:Sc.Grow c.2 t.2 (Gw p.aj):=by rw[ht];exact Gf _ _
 have gx:Sc.Grow t.2 x.2 (Gw p.au):=by rw[hx];exact Lb _ _ _
 have e1:=ga.ev;have e2:=gc.ev;have e3:=gt.ev;have e4:=gx.ev;have xenv:x.2.env=σ.env:=((gx.env.trans gt.env).trans gc.env).trans ga.env;have gxx:=((ga.trans gc).trans gt).trans gx;have w1:p.kind=17->FnE prog (glS mm) 46 [.ptr 900 0,.d (.str p.name)] (HW k σ) (λv H1=>v=.d (.str a.1)/\H1=HW k a.2):=λh17=>by
  rw[ha,Ad h17];exact ki5 (glS mm) k σ p.name (by unfold W.room;omega)
 have a17:p.kind≠17->a=(p.name,σ):=λh17=>by rw[ha,Af h17]
 have w2:=kj0 (glS mm) k a.2 (.mk p.kind a.1 p.av p.aj p.au p.rep p.ak p.l p.ay p.spec) h5;rw[show Dh a.2.env (Pr.mk p.kind a.1 p.av p.aj p.au p.rep p.ak p.l p.ay p.spec).kind (Pr.mk p.kind a.1 p.av p.aj p.au p.rep p.ak p.l p.ay p.spec).av (Pr.mk p.kind a.1 p.av p.aj p.au p.rep p.ak p.l p.ay p.spec).au=tag by rw[ga.env];exact htag.symm,v7]at w2;have w3:=ke5 (glS mm) k p.av a.2 (by unfold W.room;omega);rw[<-hc]at w3;have w4:=kj7 (glS mm) k p.aj c.2 (by unfold W.room;omega);rw[<-ht]at w4;have w5:=ju2 (glS mm) k tag p.au t.2 (by have:=jd0 p.au;omega) λj hj=>ke5 (glS mm) k p.au[j] _ (by
  have h1:=(Lb tag t.2 (p.au.take j)).ev;have h2:=jb6 p.au j hj;unfold W.room;omega)
 rw[<-hx]at w5;have w6:=kj1 (glS mm) p.ay hpr;clear ha hc ht hx htag;have w7:=ql5 (mm:=mm) k p.spec x.2 σb b (l6 gxx (m:=Po p.spec+1) (hfit.mono (by unfold Lu;omega))) hl hv (by rw[<-hh,xenv];exact hbe) (by rw[<-hh,xenv];exact hB);rw[<-hh,xenv]at w7;have w8:=jw5 (glS mm) (.inl ((.mk p.kind a.1 c.1 t.1 x.1 p.rep p.ak p.l p.ay (p.spec.with' h.1 b)),Pr.set2 (.mk p.kind a.1 c.1 t.1 x.1 p.rep p.ak p.l p.ay (p.spec.with' h.1 b)) g' l')) k {σb with env:=σ.env} σm p.spec.names h.1.own hown (λu=>by
  have:=hdeep u;unfold Po at this;dsimp only;omega) hme (ju1 (glS mm) k _ σg σm (.mk p.kind a.1 c.1 t.1 x.1 p.rep p.ak p.l p.ay (p.spec.with' h.1 b)) g' l' hG hL)
 clear hB hh hown hbe;simp only[r8]at w3;clear hG hL hme gxx e1 e2 e3 e4 ga gc gt gx xenv hdeep hroom hfit;rw[v7];by_cases h17:p.kind=17
 ·exfalso;omega
 ·obtain rfl:=a17 h17;clear w1 a17;cases k
  all_goals dsimp only[HW,je0,jb3,wfc,wc1,wc2]at w2 w3 w4 w5 w8 w7 ⊢
  all_goals (refine j3 func31 ntmps31 results31 λw M E b0=>?_)
  all_goals (repeat' first|apply Ca 2;(refine Ck 1002 ?_)|apply Ca 3;(refine Ck 1003 ?_)|apply Ca 4;(refine j2 1004 ?_)|apply Ca 19;refine Ch (hc:=w2) ?_|apply Ca 5;(refine j2 1005 ?_)|apply Ca 23;refine Ch (hc:=w3) ?_|apply Ca 29;refine Ch (hc:=w4) ?_|apply Ca 6;(refine j2 1006 ?_)|apply Ca 34;refine Ch (hc:=w5) ?_|apply Ca 47;(refine Fu 1047 ?_)|apply Ca 78;refine Ch (hc:=w7) ?_|apply Ca 86;refine Ch (hc:=w8) ?_|refine yyp ?_|refine yy ?_|refine yy2 ?_ ?_<;>intro hcmp|apply Cf 51;refine Ci (hc:=w6) ?_|apply ah;refine Cc [0,1,2,3,4,5,6,7,8,11,43,45,70] ?_|refine Cb λK hK=>?_|apply Cg 14;refine j0 [16] (lin [0,4,8,20,24,40,44,13,17,29,37,49,34,54,56,60,67]) ?_|apply_assumption -exfalso -symm)
  all_goals first
   |(exfalso;exact h17 (by assumption))
   |(exfalso;exact absurd h0 (by assumption))
   |(exfalso;exact absurd hk (by assumption))
   |(exfalso;exact hk (by assumption))
   |(exfalso;exact h0 (by assumption))
   |((refine j1 (j8 ⟨?_,rfl⟩))
     rfl)
end
section
def ro7:List Nat:=[0,1,2,3,4,5,6,7,8,11,43,45,70]
def ro8:Plan:=lin [0,4,8,20,24,40,44,13,17,29,37,49,34,54,56,60,67]
variable {mm:Int}
attribute [local irreducible] TR TC
theorem qm0 (k:Sc.Kind)(p:Pr)(σ:W)(a:ByteArray × W)(ha:a=if p.kind=17 then aA σ p.name else (p.name,σ))(tag:Bool)(htag:tag=Dh σ.env p.kind p.av p.au)(c:Ex × W)(hc:c=j5 a.2 p.av)(t:List Ex × W)(ht:t=z6 j5 c.2 p.aj)(x:List Ex × W)(hx:x=Gg tag t.2 p.au)(g':List Gu)(l':List Pr)(σg σm:W)(hk:p.kind≠18)(h0:p.rep.name=ByteArray.empty)(h5:p.kind=5->0<p.au.length)(hfit:σ.fit (Lu p.av p.aj p.au p.rep+1))(hpr:p.ay.length<=10000000)(hl:p.spec.aN.l.length<=1000000000)(hv:∀ v∈p.spec.aN.l,v.items.length<=10000000)
 (hme:σm.env=Cn σ.env ([]:List ByteArray) ([]:List Sc.Ent))
 (hG:FnE prog (glS mm) 56 [.d (.list 23 (p.ak.map dGu)),.clo (.func 57) [.ptr 900 0] []] (HW k {x.2 with env:=Cn σ.env ([]:List ByteArray) ([]:List Sc.Ent)}) (λv H1=>v=.d (.list 23 (g'.map dGu))/\H1=HW k σg))
 (hL:FnE prog (glS mm) 58 [.d (.list 42 (p.l.map dPr)),.clo (.func 31) [.ptr 900 0] []] (HW k σg) (λv H1=>v=.d (.list 42 (l'.map dPr))/\H1=HW k σm)):
 FnE prog (glS mm) 31 [.ptr 900 0,.d (dPr p)] (HW k σ)
  (λv H1=>v=.d (dPr (Pr.set2 (.mk p.kind a.1 c.1 t.1 x.1 p.rep p.ak p.l p.ay p.spec) g' l'))/\H1=HW k {σm with env:=σ.env}):=by
 have hroom:=hfit.room;have hdeep:=hfit.deep;unfold W.room Lu Tz at hroom;have ga:Sc.Grow σ a.2 1:=by
  rw[ha];by_cases hz:p.kind=17
  ·rw[Ad hz];exact Jq σ p.name
  ·rw[Af hz];exact Sc.Grow.refl _ _
 have gc:Sc.Grow a.2 c.2 (exN p.av):=by rw[hc];exact Dk _ _
 have gt:Sc.Grow c.2 t.2 (Gw p.aj):=by rw[ht];exact Gf _ _
 have gx:Sc.Grow t.2 x.2 (Gw p.au):=by rw[hx];exact Lb _ _ _
 have e1:=ga.ev;have e2:=gc.ev;have e3:=gt.ev;have e4:=gx.ev;have xenv:x.2.env=σ.env:=((gx.env.trans gt.env).trans gc.env).trans ga.env;have gxx:=((ga.trans gc).trans gt).trans gx;have w1:p.kind=17->FnE prog (glS mm) 46 [.ptr 900 0,.d (.str p.name)] (HW k σ) (λv H1=>v=.d (.str a.1)/\H1=HW k a.2):=λh17=>by
  rw[ha,Ad h17];exact ki5 (glS mm) k σ p.name (by unfold W.room;omega)
 have a17:p.kind≠17->a=(p.name,σ):=λh17=>by rw[ha,Af h17]
 have w2:=kj0 (glS mm) k a.2 (.mk p.kind a.1 p.av p.aj p.au p.rep p.ak p.l p.ay p.spec) h5;rw[show Dh a.2.env (Pr.mk p.kind a.1 p.av p.aj p.au p.rep p.ak p.l p.ay p.spec).kind (Pr.mk p.kind a.1 p.av p.aj p.au p.rep p.ak p.l p.ay p.spec).av (Pr.mk p.kind a.1 p.av p.aj p.au p.rep p.ak p.l p.ay p.spec).au=tag by rw[ga.env];exact htag.symm,v7]at w2;have w3:=ke5 (glS mm) k p.av a.2 (by unfold W.room;omega);rw[<-hc]at w3;have w4:=kj7 (glS mm) k p.aj c.2 (by unfold W.room;omega);rw[<-ht]at w4;have w5:=ju2 (glS mm) k tag p.au t.2 (by have:=jd0 p.au;omega) λj hj=>ke5 (glS mm) k p.au[j] _ (by
  have h1:=(Lb tag t.2 (p.au.take j)).ev;have h2:=jb6 p.au j hj;unfold W.room;omega)
 rw[<-hx]at w5;have w6:=kj1 (glS mm) p.ay hpr;clear ha hc ht hx htag;have w8:=jw5 (glS mm) (.inl ((.mk p.kind a.1 c.1 t.1 x.1 p.rep p.ak p.l p.ay p.spec),Pr.set2 (.mk p.kind a.1 c.1 t.1 x.1 p.rep p.ak p.l p.ay p.spec) g' l')) k {x.2 with env:=σ.env} σm [] [] rfl (λu=>by
  have:=hdeep u;dsimp only[Az];omega) hme (ju1 (glS mm) k _ σg σm (.mk p.kind a.1 c.1 t.1 x.1 p.rep p.ak p.l p.ay p.spec) g' l' hG hL)
 rw[show({x.2 with env:=σ.env}:W)=x.2 by rw[<-xenv],xenv]at w8;simp only[r8]at w3;clear hG hL hme gxx e1 e2 e3 e4 ga gc gt gx xenv hdeep hroom hfit;rw[v7];by_cases h17:p.kind=17
 ·have w1:=w1 h17;clear a17;cases k
  all_goals dsimp only[HW,je0,jb3,wfc,wc1,wc2]at w1 w2 w3 w4 w5 w8 ⊢
  all_goals (refine j3 func31 ntmps31 results31 λw M E b0=>?_)
  all_goals (repeat' first|apply Ca 2;(refine Ck 1002 ?_)|apply Ca 3;(refine Ck 1003 ?_)|apply Ca 4;(refine j2 1004 ?_)|apply Ca 15;refine Ch (hc:=w1) ?_|apply Ca 19;refine Ch (hc:=w2) ?_|apply Ca 5;(refine j2 1005 ?_)|apply Ca 23;refine Ch (hc:=w3) ?_|apply Ca 29;refine Ch (hc:=w4) ?_|apply Ca 6;(refine j2 1006 ?_)|apply Ca 34;refine Ch (hc:=w5) ?_|apply Ca 47;(refine Fu 1047 ?_)|apply Ca 86;refine Ch (hc:=w8) ?_|refine yyp ?_|refine yy ?_|refine yy2 ?_ ?_<;>intro hcmp|apply Cf 51;refine Ci (hc:=w6) ?_|apply ah;refine Cc ro7 ?_|refine Cb λK hK=>?_|apply Cg 14;refine j0 [16] ro8 ?_|apply_assumption -exfalso -symm)
  all_goals first
   |(exfalso;exact absurd h17 (by assumption))
   |(exfalso;exact absurd h0 (by assumption))
   |(exfalso;exact hk (by assumption))
   |(exfalso;exact h0 (by assumption))
   |((refine j1 (j8 ⟨?_,rfl⟩))
     rfl)
 ·obtain rfl:=a17 h17;clear w1 a17;cases k
  all_goals dsimp only[HW,je0,jb3,wfc,wc1,wc2]at w2 w3 w4 w5 w8 ⊢
  all_goals (refine j3 func31 ntmps31 results31 λw M E b0=>?_)
  all_goals (repeat' first|apply Ca 2;(refine Ck 1002 ?_)|apply Ca 3;(refine Ck 1003 ?_)|apply Ca 4;(refine j2 1004 ?_)|apply Ca 19;refine Ch (hc:=w2) ?_|apply Ca 5;(refine j2 1005 ?_)|apply Ca 23;refine Ch (hc:=w3) ?_|apply Ca 29;refine Ch (hc:=w4) ?_|apply Ca 6;(refine j2 1006 ?_)|apply Ca 34;refine Ch (hc:=w5) ?_|apply Ca 47;(refine Fu 1047 ?_)|apply Ca 86;refine Ch (hc:=w8) ?_|refine yyp ?_|refine yy ?_|refine yy2 ?_ ?_<;>intro hcmp|apply Cf 51;refine Ci (hc:=w6) ?_|apply ah;refine Cc ro7 ?_|refine Cb λK hK=>?_|apply Cg 14;refine j0 [16] ro8 ?_|apply_assumption -exfalso -symm)
  all_goals first
   |(exfalso;exact h17 (by assumption))
   |(exfalso;exact absurd h0 (by assumption))
   |(exfalso;exact absurd hk (by assumption))
   |(exfalso;exact hk (by assumption))
   |(exfalso;exact h0 (by assumption))
   |((refine j1 (j8 ⟨?_,rfl⟩))
     rfl)
end
section
variable {mm:Int}
mutual
def kx5:Pr->Prop
 |.mk _ _ _ _ _ _ ak l ay (.mk _ _ _ _ spp _ sb)=>(ay.length<=10000000/\spp.l.length<=1000000000/\∀ v∈spp.l,v.items.length<=10000000)/\jt3 sb/\kk2 ak/\jt3 l
def jt3:List Pr->Prop
 |[]=>True
 |p::l=>kx5 p/\jt3 l
def kk2:List Gu->Prop
 |[]=>True
 |.mk _ _ _ _ _ _ _ body::l=>jt3 body/\kk2 l
end
theorem rw0:∀ p:Pr,1<=Sc.prN p
 |.mk _ _ _ _ _ _ _ _ _ (.mk _ _ _ _ _ _ _)=>by simp only[Sc.prN];omega
theorem mt7:∀ l:List Pr,l.length<=Kt l
 |[]=>Ak _
 |p::l=>by have:=mt7 l;have:=rw0 p;simp only[Aj,Kt];omega
theorem rw1:∀ g:Gu,1<=Sc.guN g
 |.mk _ _ cond _ _ _ _ _=>by have:=jo4 cond;simp only[Sc.guN,Qb];omega
theorem mt8:∀ l:List Gu,l.length<=Mi l
 |[]=>Ak _
 |p::l=>by have:=mt8 l;have:=rw1 p;simp only[Aj,Mi];omega
theorem mg4:∀ (l:List Pr) (j:Nat) (hj:j<l.length),Kt (l.take j)+Sc.prN l[j]<=Kt l
 |[],_,h=>by simp at h
 |p::l,0,_=>by simp[Kt]
 |p::l,j+1,h=>by
  have:=mg4 l j (by simpa using h);simp only[Ez,Kt,Fb];omega
theorem mg5:∀ (l:List Gu) (j:Nat) (hj:j<l.length),Mi (l.take j)+Sc.guN l[j]<=Mi l
 |[],_,h=>by simp at h
 |p::l,0,_=>by simp[Mi]
 |p::l,j+1,h=>by
  have:=mg5 l j (by simpa using h);simp only[Ez,Mi,Fb];omega
theorem jw8 (k:Sc.Kind)(l:List Pr)(σ:W)(hf:σ.fit (Kt l+1))
 (ih:∀ x∈l,∀ σ:W,σ.fit (Sc.prN x+1)->FnE prog (glS mm) 31 [.ptr 900 0,.d (dPr x)] (HW k σ) (λv H1=>v=.d (dPr (Fz σ x).1)/\H1=HW k (Fz σ x).2)):
 FnE prog (glS mm) 58 [.d (.list 42 (l.map dPr)),.clo (.func 31) [.ptr 900 0] []] (HW k σ)
  (λv H1=>v=.d (.list 42 ((z6 Fz σ l).1.map dPr))/\H1=HW k (z6 Fz σ l).2):=by
 have hr:=hf.room;unfold W.room at hr;have:=mt7 l;refine kj4 (glS mm) k l σ (by omega) λj hj=>ih l[j] (Ao hj) _ ?_;have g:=Gz (l.take j) σ;rw[Mj]at g;have h2:=mg4 l j hj;exact l6 g (hf.mono (by omega))
theorem qm1 (k:Sc.Kind)(g:Gu)(σ:W)(hf:σ.fit (Sc.guN g+1))
 (ih:∀ x∈g.body,∀ σ:W,σ.fit (Sc.prN x+1)->FnE prog (glS mm) 31 [.ptr 900 0,.d (dPr x)] (HW k σ) (λv H1=>v=.d (dPr (Fz σ x).1)/\H1=HW k (Fz σ x).2)):
 FnE prog (glS mm) 57 [.ptr 900 0,.d (dGu g)] (HW k σ) (λv H1=>v=.d (dGu (Ju σ g).1)/\H1=HW k (Ju σ g).2):=by
 obtain⟨kind,name,cond,av,aj,values,time,body⟩:=g;simp only[Sc.guN]at hf;have gh:=Ox σ cond av aj values time;have hb:=jw8 (mm:=mm) k body (Hy σ cond av aj values time).2 (l6 gh (hf.mono (by omega))) ih;have h:=qa0 (glS mm) k (.mk kind name cond av aj values time body) σ _ _ (hf.mono (by simp only[Gu.cond,Gu.av,Gu.aj,Gu.values,Gu.time];omega)).room hb;simp only[Ju,Mj];exact h
theorem kx6 (k:Sc.Kind)(l:List Gu)(σ:W)(hf:σ.fit (Mi l+1))
 (ih:∀ g∈l,∀ x∈g.body,∀ σ:W,σ.fit (Sc.prN x+1)->FnE prog (glS mm) 31 [.ptr 900 0,.d (dPr x)] (HW k σ) (λv H1=>v=.d (dPr (Fz σ x).1)/\H1=HW k (Fz σ x).2)):
 FnE prog (glS mm) 56 [.d (.list 23 (l.map dGu)),.clo (.func 57) [.ptr 900 0] []] (HW k σ)
  (λv H1=>v=.d (.list 23 ((z6 Ju σ l).1.map dGu))/\H1=HW k (z6 Ju σ l).2):=by
 have hr:=hf.room;unfold W.room at hr;have:=mt8 l;refine kx4 (glS mm) k l σ (by omega) λj hj=>qm1 k l[j] _ ?_ (ih l[j] (Ao hj));have g:=Il (l.take j) σ;rw[Om]at g;have h2:=mg5 l j hj;exact l6 g (hf.mono (by omega))
theorem kx7:∀ {l:List Pr},jt3 l->∀ x∈l,kx5 x
 |p::l,h,x,hx=>by
  simp only[jt3]at h;rcases Bc.1 hx with rfl|hx
  ·exact h.1
  ·exact kx7 h.2 x hx
theorem mt9:∀ {l:List Gu},kk2 l->∀ g∈l,jt3 g.body
 |.mk _ _ _ _ _ _ _ body::l,h,x,hx=>by
  simp only[kk2]at h;rcases Bc.1 hx with rfl|hx
  ·exact h.1
  ·exact mt9 h.2 x hx
theorem mu0:∀ {l:List Pr},Qd l->∀ x∈l,Tj x
 |p::l,h,x,hx=>by
  simp only[Qd]at h;rcases Bc.1 hx with rfl|hx
  ·exact h.1
  ·exact mu0 h.2 x hx
theorem qm2:∀ {l:List Gu},Sz l->∀ g∈l,Qd g.body
 |.mk _ _ _ _ _ _ _ body::l,h,x,hx=>by
  simp only[Sz,Yb]at h;rcases Bc.1 hx with rfl|hx
  ·exact h.1
  ·exact qm2 h.2 x hx
theorem kf3 (k:Sc.Kind):∀ (n:Nat) (p:Pr),SizeOf.sizeOf p<=n->Tj p->kx5 p->∀ σ:W,σ.fit (Sc.prN p+1)->
 FnE prog (glS mm) 31 [.ptr 900 0,.d (dPr p)] (HW k σ) (λv H1=>v=.d (dPr (Fz σ p).1)/\H1=HW k (Fz σ p).2):=by
 intro n
 induction n with
 |zero=>intro p h;cases p;simp only[Pr.mk.sizeOf_spec]at h;omega
 |succ n ih=>
  intro p hp hok hcap σ hf;have il:∀ x∈p.l,SizeOf.sizeOf x<=n:=λx hx=>by have:=ru4 hx;omega
  have ig:∀ g∈p.ak,∀ x∈g.body,SizeOf.sizeOf x<=n:=λg hg x hx=>by have:=ru5 hg hx;omega
  have ib:∀ x∈p.spec.body,SizeOf.sizeOf x<=n:=λx hx=>by have:=ru6 hx;omega
  obtain⟨kind,name,av,aj,au,rep,ak,l,ay,⟨sk,st,sn,se,spp,sf,sb⟩⟩:=p;simp only[Tj]at hok;simp only[kx5]at hcap;obtain⟨hn,hsp,_,_,hob,hog,hol⟩:=hok;obtain⟨⟨hc1,hc2,hc3⟩,hcb,hcg,hcl⟩:=hcap;simp only[Pr.l,Pr.ak,Pr.spec,Sp.body]at il ig ib;have il:=λx hx=>ih x (il x hx) (mu0 hol x hx) (kx7 hcl x hx);have ig:=λg hg x hx=>ih x (ig g hg x hx) (mu0 (qm2 hog g hg) x hx) (kx7 (mt9 hcg g hg) x hx);have ib:=λx hx=>ih x (ib x hx) (mu0 hob x hx) (kx7 hcb x hx);simp only[Sc.prN]at hf;have gp:=Oy σ kind name av aj au rep;have h5:kind=5->0<au.length:=λh=>List.length_pos_iff.2 (hn.2 h).1;by_cases hk:kind=18
  ·have h0:=hn.1.1 hk;have hr:Iq (Gg (Dh σ.env kind av au) (z6 j5 (j5 (if kind=17 then aA σ name else (name,σ)).2 av).2 aj).2 au).2 rep=((rep,[]),(Gg (Dh σ.env kind av au) (z6 j5 (j5 (if kind=17 then aA σ name else (name,σ)).2 av).2 aj).2 au).2):=by
    unfold Iq;rw[Ad h0]
   simp only[Fz,Ad hk];unfold Gh at gp ⊢;dsimp only at gp ⊢;rw[hr]at gp ⊢;dsimp only at gp ⊢;obtain⟨a,ha⟩:∃ a,a=if kind=17 then aA σ name else (name,σ):=⟨_,rfl⟩;rw[<-ha]at gp ⊢;obtain⟨c,hc⟩:∃ c,c=j5 a.2 av:=⟨_,rfl⟩;rw[<-hc]at gp ⊢;obtain⟨t,ht⟩:∃ t,t=z6 j5 c.2 aj:=⟨_,rfl⟩;rw[<-ht]at gp ⊢;obtain⟨x,hx⟩:∃ x,x=Gg (Dh σ.env kind av au) t.2 au:=⟨_,rfl⟩;rw[<-hx]at gp ⊢;have fx:=l6 gp (m:=2 * sn.length+3 * sf.length+exN se+1+Kt sb+Mi ak+Kt l+1) (hf.mono (by omega));have gh:=Nc x.2 (.mk sk st sn se spp sf []);obtain⟨h,hh⟩:∃ h,h=Fw x.2 (.mk sk st sn se spp sf []):=⟨_,rfl⟩;rw[<-hh]at gh ⊢;have hN:Po (.mk sk st sn se spp sf [])=2 * sn.length+3 * sf.length+exN se+1:=rfl;have fh:=l6 gh (m:=Kt sb+Mi ak+Kt l+1) (fx.mono (by omega));have hil:sf.length=h.1.inner.length:=by
    rw[hh];unfold Fw;dsimp only;rw[Nj,Ab];rfl
   have hol':sn.length=h.1.own.length:=by
    rw[hh];unfold Fw;dsimp only;rw[Nj,Ab];rfl
   have fb:=kf2 (τ:=h.2) (ns:=sf.map (·.name)) (xs:=h.1.inner) (m:=Kt sb+Mi ak+Kt l+1) (hf.mono (by rw[Ab];omega)) fh (by rw[Ab];exact hil);have hB:=jw8 (mm:=mm) k sb _ (fb.mono (m:=Kt sb+1) (by omega)) ib;rw[<-Mj]at hB;have gb:=Gz sb {h.2 with env:=Cn σ.env (sf.map (·.name)) h.1.inner};obtain⟨b,hb'⟩:∃ b,b=Fx {h.2 with env:=Cn σ.env (sf.map (·.name)) h.1.inner} sb:=⟨_,rfl⟩;rw[<-hb']at hB gb ⊢;have fb2:=l6 gb (m:=Mi ak+Kt l+1) (fb.mono (by omega));have fg:=kf2 (τ:=b.2) (ns:=sn) (xs:=h.1.own) (m:=Mi ak+Kt l+1) (hf.mono (by omega)) fb2 hol';have hG:=kx6 (mm:=mm) k ak _ (fg.mono (m:=Mi ak+1) (by omega)) ig;rw[<-Om]at hG;have gg:=Il ak {b.2 with env:=Cn σ.env sn h.1.own};obtain⟨g,hg⟩:∃ g,g=Gl {b.2 with env:=Cn σ.env sn h.1.own} ak:=⟨_,rfl⟩;rw[<-hg]at hG gg ⊢;have fg2:=l6 gg (m:=Kt l+1) (fg.mono (by omega));have hL:=jw8 (mm:=mm) k l g.2 fg2 il;rw[<-Mj]at hL;have gl':=Gz l g.2;obtain⟨q,hq⟩:∃ q,q=Fx g.2 l:=⟨_,rfl⟩;rw[<-hq]at hL gl' ⊢;have hhd:Fw x.2 (.mk sk st sn se spp sf sb)=Fw x.2 (.mk sk st sn se spp sf []):=rfl;exact ql9 (mm:=mm) k (.mk kind name av aj au rep ak l ay (.mk sk st sn se spp sf sb)) σ a ha _ rfl c hc t ht x hx h (hh.trans hhd.symm) b.1 b.2 gb.env hol' g.1 q.1 g.2 q.2 hk h0 h5 (hf.mono (by have:Po (.mk sk st sn se spp sf sb)=2 * sn.length+3 * sf.length+exN se+1:=rfl;simp only[Pr.av,Pr.aj,Pr.au,Pr.rep,Pr.spec];omega)) hc1 hc2 hc3 (gl'.env.trans gg.env) hB hG hL
  ·simp only[Fz,Af hk];by_cases h0:rep.name=ByteArray.empty
   ·have hr:Iq (Gg (Dh σ.env kind av au) (z6 j5 (j5 (if kind=17 then aA σ name else (name,σ)).2 av).2 aj).2 au).2 rep=((rep,[]),(Gg (Dh σ.env kind av au) (z6 j5 (j5 (if kind=17 then aA σ name else (name,σ)).2 av).2 aj).2 au).2):=by
     unfold Iq;rw[Ad h0]
    rw[Ad h0];unfold Gh at gp ⊢;dsimp only at gp ⊢;rw[hr]at gp ⊢;dsimp only at gp ⊢;obtain⟨a,ha⟩:∃ a,a=if kind=17 then aA σ name else (name,σ):=⟨_,rfl⟩;rw[<-ha]at gp ⊢;obtain⟨c,hc⟩:∃ c,c=j5 a.2 av:=⟨_,rfl⟩;rw[<-hc]at gp ⊢;obtain⟨t,ht⟩:∃ t,t=z6 j5 c.2 aj:=⟨_,rfl⟩;rw[<-ht]at gp ⊢;obtain⟨x,hx⟩:∃ x,x=Gg (Dh σ.env kind av au) t.2 au:=⟨_,rfl⟩;rw[<-hx]at gp ⊢;have fx:=l6 gp (m:=Mi ak+Kt l+1) (hf.mono (by omega));have fg:=kf2 (τ:=x.2) (ns:=([]:List ByteArray)) (xs:=([]:List Sc.Ent)) (m:=Mi ak+Kt l+1) (hf.mono (by simp only[Aj,Az];omega)) fx rfl;have hG:=kx6 (mm:=mm) k ak _ (fg.mono (m:=Mi ak+1) (by omega)) ig;rw[<-Om]at hG;have gg:=Il ak {x.2 with env:=Cn σ.env ([]:List ByteArray) ([]:List Sc.Ent)};obtain⟨g,hg⟩:∃ g,g=Gl {x.2 with env:=Cn σ.env ([]:List ByteArray) ([]:List Sc.Ent)} ak:=⟨_,rfl⟩;rw[<-hg]at hG gg ⊢;have fg2:=l6 gg (m:=Kt l+1) (fg.mono (by omega));have hL:=jw8 (mm:=mm) k l g.2 fg2 il;rw[<-Mj]at hL;have gl':=Gz l g.2;obtain⟨q,hq⟩:∃ q,q=Fx g.2 l:=⟨_,rfl⟩;rw[<-hq]at hL gl' ⊢;exact qm0 (mm:=mm) k (.mk kind name av aj au rep ak l ay (.mk sk st sn se spp sf sb)) σ a ha _ rfl c hc t ht x hx g.1 q.1 g.2 q.2 hk h0 h5 (hf.mono (by simp only[Pr.av,Pr.aj,Pr.au,Pr.rep];omega)) hc1 hc2 hc3 (gl'.env.trans gg.env) hG hL
   ·have hr:Iq (Gg (Dh σ.env kind av au) (z6 j5 (j5 (if kind=17 then aA σ name else (name,σ)).2 av).2 aj).2 au).2 rep=((⟨(Co (Gg (Dh σ.env kind av au) (z6 j5 (j5 (if kind=17 then aA σ name else (name,σ)).2 av).2 aj).2 au).2).1,(j5 (Co (Gg (Dh σ.env kind av au) (z6 j5 (j5 (if kind=17 then aA σ name else (name,σ)).2 av).2 aj).2 au).2).2 rep.base).1,(j5 (j5 (Co (Gg (Dh σ.env kind av au) (z6 j5 (j5 (if kind=17 then aA σ name else (name,σ)).2 av).2 aj).2 au).2).2 rep.base).2 rep.count).1⟩,[⟨(Co (Gg (Dh σ.env kind av au) (z6 j5 (j5 (if kind=17 then aA σ name else (name,σ)).2 av).2 aj).2 au).2).1,false,[]⟩]),(j5 (j5 (Co (Gg (Dh σ.env kind av au) (z6 j5 (j5 (if kind=17 then aA σ name else (name,σ)).2 av).2 aj).2 au).2).2 rep.base).2 rep.count).2):=by
     unfold Iq;rw[Af h0]
    rw[Af h0];unfold Gh at gp ⊢;dsimp only at gp ⊢;rw[hr]at gp ⊢;dsimp only at gp ⊢;obtain⟨a,ha⟩:∃ a,a=if kind=17 then aA σ name else (name,σ):=⟨_,rfl⟩;rw[<-ha]at gp ⊢;obtain⟨c,hc⟩:∃ c,c=j5 a.2 av:=⟨_,rfl⟩;rw[<-hc]at gp ⊢;obtain⟨t,ht⟩:∃ t,t=z6 j5 c.2 aj:=⟨_,rfl⟩;rw[<-ht]at gp ⊢;obtain⟨x,hx⟩:∃ x,x=Gg (Dh σ.env kind av au) t.2 au:=⟨_,rfl⟩;rw[<-hx]at gp ⊢;obtain⟨r,hr'⟩:∃ r,r=Co x.2:=⟨_,rfl⟩;rw[<-hr']at gp ⊢;obtain⟨rb,hrb⟩:∃ rb,rb=j5 r.2 rep.base:=⟨_,rfl⟩;rw[<-hrb]at gp ⊢;obtain⟨rc,hrc⟩:∃ rc,rc=j5 rb.2 rep.count:=⟨_,rfl⟩;rw[<-hrc]at gp ⊢;have fx:=l6 gp (m:=Mi ak+Kt l+1) (hf.mono (by omega));have fg:=kf2 (τ:=rc.2) (ns:=[rep.name]) (xs:=[(⟨r.1,false,[]⟩:Sc.Ent)]) (m:=Mi ak+Kt l+1) (hf.mono (by simp only[Aj,Az];omega)) fx rfl;have hG:=kx6 (mm:=mm) k ak _ (fg.mono (m:=Mi ak+1) (by omega)) ig;rw[<-Om]at hG;have gg:=Il ak {rc.2 with env:=Cn σ.env [rep.name] [(⟨r.1,false,[]⟩:Sc.Ent)]};obtain⟨g,hg⟩:∃ g,g=Gl {rc.2 with env:=Cn σ.env [rep.name] [(⟨r.1,false,[]⟩:Sc.Ent)]} ak:=⟨_,rfl⟩;rw[<-hg]at hG gg ⊢;have fg2:=l6 gg (m:=Kt l+1) (fg.mono (by omega));have hL:=jw8 (mm:=mm) k l g.2 fg2 il;rw[<-Mj]at hL;have gl':=Gz l g.2;obtain⟨q,hq⟩:∃ q,q=Fx g.2 l:=⟨_,rfl⟩;rw[<-hq]at hL gl' ⊢;exact ql8 (mm:=mm) k (.mk kind name av aj au rep ak l ay (.mk sk st sn se spp sf sb)) σ a ha _ rfl c hc t ht x hx r hr' rb hrb rc hrc g.1 q.1 g.2 q.2 hk h0 h5 (hf.mono (by simp only[Pr.av,Pr.aj,Pr.au,Pr.rep];omega)) hc1 hc2 hc3 (gl'.env.trans gg.env) hG hL
end
section
variable {mm:Int}
attribute [local irreducible] TR TC
theorem jk0 (gl:List (Nat × List D))(k:Sc.Kind)(ev:List (ByteArray × Bool)):
 FnE prog gl 29 [je0 k] (jb3 k ⟨λ_=>[],[],0,ev⟩) (λv H1=>v=.ptr 900 0/\H1=HW k ⟨λ_=>[],[],0,ev⟩):=by
 cases k
 case free=>
  dsimp only[je0,jb3]
  (refine j3 func29 ntmps29 results29 λw M E b0=>?_)
  (repeat' first|apply Ca 3;(refine Ir 901 ?_)|apply Ca 4;(refine Ir 902 ?_)|apply Ca 7;(refine Ck 900 ?_)|refine yyp ?_;try refine Ce ?_ ?_<;>intro hb|refine yy ?_|apply ah;refine Cc [0,2,3,4,5,6] ?_|refine Cb λK hK=>?_|apply_assumption -exfalso -symm)
  refine jl3 (mm1 (n:=901) 112 3 rfl) ?_;refine jl3 (S':=⟨[(2,.ptr 900 0)],HW .free ⟨λ_=>[],[],0,ev⟩,gl⟩) (by dsimp only[HW,je0,jb3];exact v6) ?_
  (refine j1 (j8 ⟨?_,rfl⟩))
  rfl
 case check nn=>
  dsimp only[je0,jb3]
  (refine j3 func29 ntmps29 results29 λw M E b0=>?_)
  (repeat' first|apply Ca 3;(refine Ir 901 ?_)|apply Ca 4;(refine Ir 902 ?_)|apply Ca 7;(refine Ck 900 ?_)|refine yyp ?_;try refine Ce ?_ ?_<;>intro hb|refine yy ?_|apply ah;refine Cc [0,2,3,4,5,6] ?_|refine Cb λK hK=>?_|apply_assumption -exfalso -symm)
  refine jl3 (mm1 (n:=901) 112 3 rfl) ?_;refine jl3 (S':=⟨[(2,.ptr 900 0)],HW (.check nn) ⟨λ_=>[],[],0,ev⟩,gl⟩) (by dsimp only[HW,je0,jb3];exact v6) ?_
  (refine j1 (j8 ⟨?_,rfl⟩))
  rfl
 case none=>
  dsimp only[je0,jb3]
  (refine j3 func29 ntmps29 results29 λw M E b0=>?_)
  (repeat' first|apply Ca 3;(refine Ir 901 ?_)|apply Ca 4;(refine Ir 902 ?_)|apply Ca 7;(refine Ck 900 ?_)|refine yyp ?_;try refine Ce ?_ ?_<;>intro hb|refine yy ?_|apply ah;refine Cc [0,2,3,4,5,6] ?_|refine Cb λK hK=>?_|apply_assumption -exfalso -symm)
  refine jl3 (mm1 (n:=901) 112 3 rfl) ?_;refine jl3 (S':=⟨[(2,.ptr 900 0)],HW .none ⟨λ_=>[],[],0,ev⟩,gl⟩) (by dsimp only[HW,je0,jb3];exact v6) ?_
  (refine j1 (j8 ⟨?_,rfl⟩))
  rfl
end
end Go.Proofs.YtklklgfpkpglgaaGreatDoor
