/- Parts. -/
import Derived.Test.YtklklgfpkpglgaaGreatDoorW29
set_option linter.all false
set_option maxRecDepth 100000
set_option maxHeartbeats 0
namespace Go.Proofs.YtklklgfpkpglgaaGreatDoor
open Go.RowKit Go.Proofs.Tryz Sc
section
def qg8:List Nat:=[0,1,2,3,4,5,6,7,8,11,43,45,70]
variable {mm:Int}
attribute [local irreducible] TR TC
theorem kj3 (p:Pr)(σ:W)(a:ByteArray × W)(ha:a=if p.kind=17 then aA σ p.name else (p.name,σ))(tag:Bool)(htag:tag=Dc σ.env p.kind p.av p.au)(c:Ex × W)(hc:c=j4 a.2 p.av)(t:List Ex × W)(ht:t=y9 j4 c.2 p.aj)(x:List Ex × W)(hx:x=Fw tag t.2 p.au)(r:ByteArray × W)(hr:r=Cx x.2)(rb:Ex × W)(hrb:rb=j4 r.2 p.rep.base)(rc:Ex × W)(hrc:rc=j4 rb.2 p.rep.count)(g':List Gu)(l':List Pr)(σg σm:W)(h17:p.kind=17)(hk:p.kind≠18)(h0:p.rep.name≠ByteArray.empty)(h5:p.kind=5->0<p.au.length)(hfit:σ.fit (Gz p.av p.aj p.au p.rep+1))(hpr:p.ay.length<=10000000)(hl:p.spec.aN.l.length<=1000000000)(hv:∀ v∈p.spec.aN.l,v.items.length<=10000000)
 (hme:σm.env=Ck σ.env [p.rep.name] [(⟨r.1,false,[]⟩:Sc.Ent)])
 (hG:FnE prog (glS mm) 56 [.d (.list 23 (p.ak.map dGu)),.clo (.func 57) [.ptr 900 0] []] (HW Sc.Kind.free {rc.2 with env:=Ck σ.env [p.rep.name] [(⟨r.1,false,[]⟩:Sc.Ent)]}) (λv H1=>v=.d (.list 23 (g'.map dGu))/\H1=HW Sc.Kind.free σg))
 (hL:FnE prog (glS mm) 58 [.d (.list 42 (p.l.map dPr)),.clo (.func 31) [.ptr 900 0] []] (HW Sc.Kind.free σg) (λv H1=>v=.d (.list 42 (l'.map dPr))/\H1=HW Sc.Kind.free σm)):
 FnE prog (glS mm) 31 [.ptr 900 0,.d (dPr p)] (HW Sc.Kind.free σ)
  (λv H1=>v=.d (dPr (Pr.set2 (.mk p.kind a.1 c.1 t.1 x.1 ⟨r.1,rb.1,rc.1⟩ p.ak p.l p.ay p.spec) g' l'))/\H1=HW Sc.Kind.free {σm with env:=σ.env}):=by
 have hroom:=hfit.room;have hdeep:=hfit.deep;unfold W.room Gz Na at hroom;have ga:Sc.Grow σ a.2 1:=by
  rw[ha];by_cases hz:p.kind=17
  ·rw[Ae hz];exact Hu σ p.name
  ·rw[Af hz];exact Sc.Grow.refl _ _
 have gc:Sc.Grow a.2 c.2 (exN p.av):=by rw[hc];exact Cz _ _
 have gt:Sc.Grow c.2 t.2 (Gb p.aj):=by rw[ht];exact Fs _ _
 have gx:Sc.Grow t.2 x.2 (Gb p.au):=by rw[hx];exact Ia _ _ _
 have e1:=ga.ev;have e2:=gc.ev;have e3:=gt.ev;have e4:=gx.ev;have xenv:x.2.env=σ.env:=((gx.env.trans gt.env).trans gc.env).trans ga.env;have gxx:=((ga.trans gc).trans gt).trans gx;have w1:p.kind=17->FnE prog (glS mm) 46 [.ptr 900 0,.d (.str p.name)] (HW Sc.Kind.free σ) (λv H1=>v=.d (.str a.1)/\H1=HW Sc.Kind.free a.2):=λh17=>by
  rw[ha,Ae h17];exact jm3 (glS mm) Sc.Kind.free σ p.name (by unfold W.room;omega)
 have a17:p.kind≠17->a=(p.name,σ):=λh17=>by rw[ha,Af h17]
 have w2:=jh0 (glS mm) Sc.Kind.free a.2 (.mk p.kind a.1 p.av p.aj p.au p.rep p.ak p.l p.ay p.spec) h5;rw[show Dc a.2.env (Pr.mk p.kind a.1 p.av p.aj p.au p.rep p.ak p.l p.ay p.spec).kind (Pr.mk p.kind a.1 p.av p.aj p.au p.rep p.ak p.l p.ay p.spec).av (Pr.mk p.kind a.1 p.av p.aj p.au p.rep p.ak p.l p.ay p.spec).au=tag by rw[ga.env];exact htag.symm,v6]at w2;have w3:=jd1 (glS mm) Sc.Kind.free p.av a.2 (by unfold W.room;omega);rw[<-hc]at w3;have w4:=jm5 (glS mm) Sc.Kind.free p.aj c.2 (by unfold W.room;omega);rw[<-ht]at w4;have w5:=jc1 (glS mm) Sc.Kind.free tag p.au t.2 (by have:=ja0 p.au;omega) λj hj=>jd1 (glS mm) Sc.Kind.free p.au[j] _ (by
  have h1:=(Ia tag t.2 (p.au.take j)).ev;have h2:=l8 p.au j hj;unfold W.room;omega)
 rw[<-hx]at w5;have w6:=jh1 (glS mm) p.ay hpr;clear ha hc ht hx htag;have fx:=x6 gxx (m:=2+exN p.rep.base+exN p.rep.count) (hfit.mono (by unfold Gz Na;omega));have w9:=jk9 (mm:=mm) Sc.Kind.free x.2 fx.tk (fx.mono (m:=1) (by omega)).num;rw[<-hr]at w9;have gr:Sc.Grow x.2 r.2 1:=by rw[hr];exact Kg _
 have fr:=x6 gr (m:=1+exN p.rep.base+exN p.rep.count) (fx.mono (by omega));have w10:=jd1 (glS mm) Sc.Kind.free p.rep.base r.2 (fr.mono (m:=exN p.rep.base) (by omega)).room;rw[<-hrb]at w10;have grb:Sc.Grow r.2 rb.2 (exN p.rep.base):=by rw[hrb];exact Cz _ _
 have frb:=x6 grb (m:=1+exN p.rep.count) (fr.mono (by omega));have w11:=jd1 (glS mm) Sc.Kind.free p.rep.count rb.2 (frb.mono (m:=exN p.rep.count) (by omega)).room;rw[<-hrc]at w11;have grc:Sc.Grow rb.2 rc.2 (exN p.rep.count):=by rw[hrc];exact Cz _ _
 have rcenv:rc.2.env=σ.env:=((grc.env.trans grb.env).trans gr.env).trans xenv;have w8:=jk8 (glS mm) Sc.Kind.free {rc.2 with env:=σ.env} σm [p.rep.name] [⟨r.1,false,[]⟩] (.mk p.kind a.1 c.1 t.1 x.1 ⟨r.1,rb.1,rc.1⟩ p.ak p.l p.ay p.spec) (Pr.set2 (.mk p.kind a.1 c.1 t.1 x.1 ⟨r.1,rb.1,rc.1⟩ p.ak p.l p.ay p.spec) g' l') rfl (λu=>by
  have:=hdeep u;unfold Gz Na at this;simp only[An,Av];omega) hme (jc0 (glS mm) Sc.Kind.free _ σg σm (.mk p.kind a.1 c.1 t.1 x.1 ⟨r.1,rb.1,rc.1⟩ p.ak p.l p.ay p.spec) g' l' hG hL)
 rw[show({rc.2 with env:=σ.env}:W)=rc.2 by rw[<-rcenv],rcenv]at w8;simp only[k9]at w10 w11;clear hr hrb hrc gr grb grc fx fr frb rcenv;simp only[k9]at w3;clear hG hL hme gxx e1 e2 e3 e4 ga gc gt gx xenv hdeep hroom hfit;rw[v6]
 skip
 ·have w1:=w1 h17;clear a17
  all_goals dsimp only[HW,ja9,n7]at w1 w2 w3 w4 w5 w8 w9 w10 w11 ⊢
  all_goals (refine j2 func31 ntmps31 results31 λw M E b0=>?_)
  all_goals (repeat' first|apply Ca 2;(refine Cm 1002 ?_)|apply Ca 3;(refine Cm 1003 ?_)|apply Ca 4;(refine j3 1004 ?_)|apply Ca 15;refine Ch (hc:=w1) ?_|apply Ca 19;refine Ch (hc:=w2) ?_|apply Ca 5;(refine j3 1005 ?_)|apply Ca 23;refine Ch (hc:=w3) ?_|apply Ca 29;refine Ch (hc:=w4) ?_|apply Ca 6;(refine j3 1006 ?_)|apply Ca 34;refine Ch (hc:=w5) ?_|apply Ca 47;(refine Df 1047 ?_)|apply Ca 49;refine Ch (hc:=w9) ?_|apply Ca 51;(refine Df 1051 ?_)|apply Ca 60;refine Ch (hc:=w10) ?_|apply Ca 65;refine Ch (hc:=w11) ?_|apply Ca 66;refine z_p Cq ?_|apply Ca 86;refine Ch (hc:=w8) ?_|refine yyp ?_|refine yy ?_|refine yy2 ?_ ?_<;>intro hcmp|apply Cg 51;refine Ci (hc:=w6) ?_|apply ah;refine Cc qg8 ?_|refine Ht ?_ ?_|refine jy1 ?_ ?_|(apply Gn (x:=.region 14 _ _);focus ((apply Cf 14;refine j0 [8,13,16] q00 ?_);(repeat' (first|apply Ca 2;(refine Cm 1002 ?_)));(all_goals first|exact Wk.refl _ _|exact r9);done))|refine Cb λK hK=>?_|apply Cf 14;refine j0 [8,13,16] q00 ?_|apply_assumption -exfalso -symm)
  all_goals first
   |(exfalso;exact absurd h17 (by assumption))
   |(exfalso;exact absurd h0 (by assumption))
   |(exfalso;exact hk (by assumption))
   |(exfalso;exact h0 (by assumption))
   |((refine j1 (j6 ⟨?_,rfl⟩))
     rfl)
theorem ke4 (cn:List ByteArray)(p:Pr)(σ:W)(a:ByteArray × W)(ha:a=if p.kind=17 then aA σ p.name else (p.name,σ))(tag:Bool)(htag:tag=Dc σ.env p.kind p.av p.au)(c:Ex × W)(hc:c=j4 a.2 p.av)(t:List Ex × W)(ht:t=y9 j4 c.2 p.aj)(x:List Ex × W)(hx:x=Fw tag t.2 p.au)(r:ByteArray × W)(hr:r=Cx x.2)(rb:Ex × W)(hrb:rb=j4 r.2 p.rep.base)(rc:Ex × W)(hrc:rc=j4 rb.2 p.rep.count)(g':List Gu)(l':List Pr)(σg σm:W)(h17:p.kind=17)(hk:p.kind≠18)(h0:p.rep.name≠ByteArray.empty)(h5:p.kind=5->0<p.au.length)(hfit:σ.fit (Gz p.av p.aj p.au p.rep+1))(hpr:p.ay.length<=10000000)(hl:p.spec.aN.l.length<=1000000000)(hv:∀ v∈p.spec.aN.l,v.items.length<=10000000)
 (hme:σm.env=Ck σ.env [p.rep.name] [(⟨r.1,false,[]⟩:Sc.Ent)])
 (hG:FnE prog (glS mm) 56 [.d (.list 23 (p.ak.map dGu)),.clo (.func 57) [.ptr 900 0] []] (HW (Sc.Kind.check cn) {rc.2 with env:=Ck σ.env [p.rep.name] [(⟨r.1,false,[]⟩:Sc.Ent)]}) (λv H1=>v=.d (.list 23 (g'.map dGu))/\H1=HW (Sc.Kind.check cn) σg))
 (hL:FnE prog (glS mm) 58 [.d (.list 42 (p.l.map dPr)),.clo (.func 31) [.ptr 900 0] []] (HW (Sc.Kind.check cn) σg) (λv H1=>v=.d (.list 42 (l'.map dPr))/\H1=HW (Sc.Kind.check cn) σm)):
 FnE prog (glS mm) 31 [.ptr 900 0,.d (dPr p)] (HW (Sc.Kind.check cn) σ)
  (λv H1=>v=.d (dPr (Pr.set2 (.mk p.kind a.1 c.1 t.1 x.1 ⟨r.1,rb.1,rc.1⟩ p.ak p.l p.ay p.spec) g' l'))/\H1=HW (Sc.Kind.check cn) {σm with env:=σ.env}):=by
 have hroom:=hfit.room;have hdeep:=hfit.deep;unfold W.room Gz Na at hroom;have ga:Sc.Grow σ a.2 1:=by
  rw[ha];by_cases hz:p.kind=17
  ·rw[Ae hz];exact Hu σ p.name
  ·rw[Af hz];exact Sc.Grow.refl _ _
 have gc:Sc.Grow a.2 c.2 (exN p.av):=by rw[hc];exact Cz _ _
 have gt:Sc.Grow c.2 t.2 (Gb p.aj):=by rw[ht];exact Fs _ _
 have gx:Sc.Grow t.2 x.2 (Gb p.au):=by rw[hx];exact Ia _ _ _
 have e1:=ga.ev;have e2:=gc.ev;have e3:=gt.ev;have e4:=gx.ev;have xenv:x.2.env=σ.env:=((gx.env.trans gt.env).trans gc.env).trans ga.env;have gxx:=((ga.trans gc).trans gt).trans gx;have w1:p.kind=17->FnE prog (glS mm) 46 [.ptr 900 0,.d (.str p.name)] (HW (Sc.Kind.check cn) σ) (λv H1=>v=.d (.str a.1)/\H1=HW (Sc.Kind.check cn) a.2):=λh17=>by
  rw[ha,Ae h17];exact jm3 (glS mm) (Sc.Kind.check cn) σ p.name (by unfold W.room;omega)
 have a17:p.kind≠17->a=(p.name,σ):=λh17=>by rw[ha,Af h17]
 have w2:=jh0 (glS mm) (Sc.Kind.check cn) a.2 (.mk p.kind a.1 p.av p.aj p.au p.rep p.ak p.l p.ay p.spec) h5;rw[show Dc a.2.env (Pr.mk p.kind a.1 p.av p.aj p.au p.rep p.ak p.l p.ay p.spec).kind (Pr.mk p.kind a.1 p.av p.aj p.au p.rep p.ak p.l p.ay p.spec).av (Pr.mk p.kind a.1 p.av p.aj p.au p.rep p.ak p.l p.ay p.spec).au=tag by rw[ga.env];exact htag.symm,v6]at w2;have w3:=jd1 (glS mm) (Sc.Kind.check cn) p.av a.2 (by unfold W.room;omega);rw[<-hc]at w3;have w4:=jm5 (glS mm) (Sc.Kind.check cn) p.aj c.2 (by unfold W.room;omega);rw[<-ht]at w4;have w5:=jc1 (glS mm) (Sc.Kind.check cn) tag p.au t.2 (by have:=ja0 p.au;omega) λj hj=>jd1 (glS mm) (Sc.Kind.check cn) p.au[j] _ (by
  have h1:=(Ia tag t.2 (p.au.take j)).ev;have h2:=l8 p.au j hj;unfold W.room;omega)
 rw[<-hx]at w5;have w6:=jh1 (glS mm) p.ay hpr;clear ha hc ht hx htag;have fx:=x6 gxx (m:=2+exN p.rep.base+exN p.rep.count) (hfit.mono (by unfold Gz Na;omega));have w9:=jk9 (mm:=mm) (Sc.Kind.check cn) x.2 fx.tk (fx.mono (m:=1) (by omega)).num;rw[<-hr]at w9;have gr:Sc.Grow x.2 r.2 1:=by rw[hr];exact Kg _
 have fr:=x6 gr (m:=1+exN p.rep.base+exN p.rep.count) (fx.mono (by omega));have w10:=jd1 (glS mm) (Sc.Kind.check cn) p.rep.base r.2 (fr.mono (m:=exN p.rep.base) (by omega)).room;rw[<-hrb]at w10;have grb:Sc.Grow r.2 rb.2 (exN p.rep.base):=by rw[hrb];exact Cz _ _
 have frb:=x6 grb (m:=1+exN p.rep.count) (fr.mono (by omega));have w11:=jd1 (glS mm) (Sc.Kind.check cn) p.rep.count rb.2 (frb.mono (m:=exN p.rep.count) (by omega)).room;rw[<-hrc]at w11;have grc:Sc.Grow rb.2 rc.2 (exN p.rep.count):=by rw[hrc];exact Cz _ _
 have rcenv:rc.2.env=σ.env:=((grc.env.trans grb.env).trans gr.env).trans xenv;have w8:=jk8 (glS mm) (Sc.Kind.check cn) {rc.2 with env:=σ.env} σm [p.rep.name] [⟨r.1,false,[]⟩] (.mk p.kind a.1 c.1 t.1 x.1 ⟨r.1,rb.1,rc.1⟩ p.ak p.l p.ay p.spec) (Pr.set2 (.mk p.kind a.1 c.1 t.1 x.1 ⟨r.1,rb.1,rc.1⟩ p.ak p.l p.ay p.spec) g' l') rfl (λu=>by
  have:=hdeep u;unfold Gz Na at this;simp only[An,Av];omega) hme (jc0 (glS mm) (Sc.Kind.check cn) _ σg σm (.mk p.kind a.1 c.1 t.1 x.1 ⟨r.1,rb.1,rc.1⟩ p.ak p.l p.ay p.spec) g' l' hG hL)
 rw[show({rc.2 with env:=σ.env}:W)=rc.2 by rw[<-rcenv],rcenv]at w8;simp only[k9]at w10 w11;clear hr hrb hrc gr grb grc fx fr frb rcenv;simp only[k9]at w3;clear hG hL hme gxx e1 e2 e3 e4 ga gc gt gx xenv hdeep hroom hfit;rw[v6]
 skip
 ·have w1:=w1 h17;clear a17
  all_goals dsimp only[HW,ja9,n7]at w1 w2 w3 w4 w5 w8 w9 w10 w11 ⊢
  all_goals (refine j2 func31 ntmps31 results31 λw M E b0=>?_)
  all_goals (repeat' first|apply Ca 2;(refine Cm 1002 ?_)|apply Ca 3;(refine Cm 1003 ?_)|apply Ca 4;(refine j3 1004 ?_)|apply Ca 15;refine Ch (hc:=w1) ?_|apply Ca 19;refine Ch (hc:=w2) ?_|apply Ca 5;(refine j3 1005 ?_)|apply Ca 23;refine Ch (hc:=w3) ?_|apply Ca 29;refine Ch (hc:=w4) ?_|apply Ca 6;(refine j3 1006 ?_)|apply Ca 34;refine Ch (hc:=w5) ?_|apply Ca 47;(refine Df 1047 ?_)|apply Ca 49;refine Ch (hc:=w9) ?_|apply Ca 51;(refine Df 1051 ?_)|apply Ca 60;refine Ch (hc:=w10) ?_|apply Ca 65;refine Ch (hc:=w11) ?_|apply Ca 66;refine z_p Cq ?_|apply Ca 86;refine Ch (hc:=w8) ?_|refine yyp ?_|refine yy ?_|refine yy2 ?_ ?_<;>intro hcmp|apply Cg 51;refine Ci (hc:=w6) ?_|apply ah;refine Cc qg8 ?_|refine Ht ?_ ?_|refine jy1 ?_ ?_|(apply Gn (x:=.region 14 _ _);focus ((apply Cf 14;refine j0 [8,13,16] q00 ?_);(repeat' (first|apply Ca 2;(refine Cm 1002 ?_)));(all_goals first|exact Wk.refl _ _|exact r9);done))|refine Cb λK hK=>?_|apply Cf 14;refine j0 [8,13,16] q00 ?_|apply_assumption -exfalso -symm)
  all_goals first
   |(exfalso;exact absurd h17 (by assumption))
   |(exfalso;exact absurd h0 (by assumption))
   |(exfalso;exact hk (by assumption))
   |(exfalso;exact h0 (by assumption))
   |((refine j1 (j6 ⟨?_,rfl⟩))
     rfl)
theorem kj4 (p:Pr)(σ:W)(a:ByteArray × W)(ha:a=if p.kind=17 then aA σ p.name else (p.name,σ))(tag:Bool)(htag:tag=Dc σ.env p.kind p.av p.au)(c:Ex × W)(hc:c=j4 a.2 p.av)(t:List Ex × W)(ht:t=y9 j4 c.2 p.aj)(x:List Ex × W)(hx:x=Fw tag t.2 p.au)(r:ByteArray × W)(hr:r=Cx x.2)(rb:Ex × W)(hrb:rb=j4 r.2 p.rep.base)(rc:Ex × W)(hrc:rc=j4 rb.2 p.rep.count)(g':List Gu)(l':List Pr)(σg σm:W)(h17:p.kind=17)(hk:p.kind≠18)(h0:p.rep.name≠ByteArray.empty)(h5:p.kind=5->0<p.au.length)(hfit:σ.fit (Gz p.av p.aj p.au p.rep+1))(hpr:p.ay.length<=10000000)(hl:p.spec.aN.l.length<=1000000000)(hv:∀ v∈p.spec.aN.l,v.items.length<=10000000)
 (hme:σm.env=Ck σ.env [p.rep.name] [(⟨r.1,false,[]⟩:Sc.Ent)])
 (hG:FnE prog (glS mm) 56 [.d (.list 23 (p.ak.map dGu)),.clo (.func 57) [.ptr 900 0] []] (HW Sc.Kind.none {rc.2 with env:=Ck σ.env [p.rep.name] [(⟨r.1,false,[]⟩:Sc.Ent)]}) (λv H1=>v=.d (.list 23 (g'.map dGu))/\H1=HW Sc.Kind.none σg))
 (hL:FnE prog (glS mm) 58 [.d (.list 42 (p.l.map dPr)),.clo (.func 31) [.ptr 900 0] []] (HW Sc.Kind.none σg) (λv H1=>v=.d (.list 42 (l'.map dPr))/\H1=HW Sc.Kind.none σm)):
 FnE prog (glS mm) 31 [.ptr 900 0,.d (dPr p)] (HW Sc.Kind.none σ)
  (λv H1=>v=.d (dPr (Pr.set2 (.mk p.kind a.1 c.1 t.1 x.1 ⟨r.1,rb.1,rc.1⟩ p.ak p.l p.ay p.spec) g' l'))/\H1=HW Sc.Kind.none {σm with env:=σ.env}):=by
 have hroom:=hfit.room;have hdeep:=hfit.deep;unfold W.room Gz Na at hroom;have ga:Sc.Grow σ a.2 1:=by
  rw[ha];by_cases hz:p.kind=17
  ·rw[Ae hz];exact Hu σ p.name
  ·rw[Af hz];exact Sc.Grow.refl _ _
 have gc:Sc.Grow a.2 c.2 (exN p.av):=by rw[hc];exact Cz _ _
 have gt:Sc.Grow c.2 t.2 (Gb p.aj):=by rw[ht];exact Fs _ _
 have gx:Sc.Grow t.2 x.2 (Gb p.au):=by rw[hx];exact Ia _ _ _
 have e1:=ga.ev;have e2:=gc.ev;have e3:=gt.ev;have e4:=gx.ev;have xenv:x.2.env=σ.env:=((gx.env.trans gt.env).trans gc.env).trans ga.env;have gxx:=((ga.trans gc).trans gt).trans gx;have w1:p.kind=17->FnE prog (glS mm) 46 [.ptr 900 0,.d (.str p.name)] (HW Sc.Kind.none σ) (λv H1=>v=.d (.str a.1)/\H1=HW Sc.Kind.none a.2):=λh17=>by
  rw[ha,Ae h17];exact jm3 (glS mm) Sc.Kind.none σ p.name (by unfold W.room;omega)
 have a17:p.kind≠17->a=(p.name,σ):=λh17=>by rw[ha,Af h17]
 have w2:=jh0 (glS mm) Sc.Kind.none a.2 (.mk p.kind a.1 p.av p.aj p.au p.rep p.ak p.l p.ay p.spec) h5;rw[show Dc a.2.env (Pr.mk p.kind a.1 p.av p.aj p.au p.rep p.ak p.l p.ay p.spec).kind (Pr.mk p.kind a.1 p.av p.aj p.au p.rep p.ak p.l p.ay p.spec).av (Pr.mk p.kind a.1 p.av p.aj p.au p.rep p.ak p.l p.ay p.spec).au=tag by rw[ga.env];exact htag.symm,v6]at w2;have w3:=jd1 (glS mm) Sc.Kind.none p.av a.2 (by unfold W.room;omega);rw[<-hc]at w3;have w4:=jm5 (glS mm) Sc.Kind.none p.aj c.2 (by unfold W.room;omega);rw[<-ht]at w4;have w5:=jc1 (glS mm) Sc.Kind.none tag p.au t.2 (by have:=ja0 p.au;omega) λj hj=>jd1 (glS mm) Sc.Kind.none p.au[j] _ (by
  have h1:=(Ia tag t.2 (p.au.take j)).ev;have h2:=l8 p.au j hj;unfold W.room;omega)
 rw[<-hx]at w5;have w6:=jh1 (glS mm) p.ay hpr;clear ha hc ht hx htag;have fx:=x6 gxx (m:=2+exN p.rep.base+exN p.rep.count) (hfit.mono (by unfold Gz Na;omega));have w9:=jk9 (mm:=mm) Sc.Kind.none x.2 fx.tk (fx.mono (m:=1) (by omega)).num;rw[<-hr]at w9;have gr:Sc.Grow x.2 r.2 1:=by rw[hr];exact Kg _
 have fr:=x6 gr (m:=1+exN p.rep.base+exN p.rep.count) (fx.mono (by omega));have w10:=jd1 (glS mm) Sc.Kind.none p.rep.base r.2 (fr.mono (m:=exN p.rep.base) (by omega)).room;rw[<-hrb]at w10;have grb:Sc.Grow r.2 rb.2 (exN p.rep.base):=by rw[hrb];exact Cz _ _
 have frb:=x6 grb (m:=1+exN p.rep.count) (fr.mono (by omega));have w11:=jd1 (glS mm) Sc.Kind.none p.rep.count rb.2 (frb.mono (m:=exN p.rep.count) (by omega)).room;rw[<-hrc]at w11;have grc:Sc.Grow rb.2 rc.2 (exN p.rep.count):=by rw[hrc];exact Cz _ _
 have rcenv:rc.2.env=σ.env:=((grc.env.trans grb.env).trans gr.env).trans xenv;have w8:=jk8 (glS mm) Sc.Kind.none {rc.2 with env:=σ.env} σm [p.rep.name] [⟨r.1,false,[]⟩] (.mk p.kind a.1 c.1 t.1 x.1 ⟨r.1,rb.1,rc.1⟩ p.ak p.l p.ay p.spec) (Pr.set2 (.mk p.kind a.1 c.1 t.1 x.1 ⟨r.1,rb.1,rc.1⟩ p.ak p.l p.ay p.spec) g' l') rfl (λu=>by
  have:=hdeep u;unfold Gz Na at this;simp only[An,Av];omega) hme (jc0 (glS mm) Sc.Kind.none _ σg σm (.mk p.kind a.1 c.1 t.1 x.1 ⟨r.1,rb.1,rc.1⟩ p.ak p.l p.ay p.spec) g' l' hG hL)
 rw[show({rc.2 with env:=σ.env}:W)=rc.2 by rw[<-rcenv],rcenv]at w8;simp only[k9]at w10 w11;clear hr hrb hrc gr grb grc fx fr frb rcenv;simp only[k9]at w3;clear hG hL hme gxx e1 e2 e3 e4 ga gc gt gx xenv hdeep hroom hfit;rw[v6]
 skip
 ·have w1:=w1 h17;clear a17
  all_goals dsimp only[HW,ja9,n7]at w1 w2 w3 w4 w5 w8 w9 w10 w11 ⊢
  all_goals (refine j2 func31 ntmps31 results31 λw M E b0=>?_)
  all_goals (repeat' first|apply Ca 2;(refine Cm 1002 ?_)|apply Ca 3;(refine Cm 1003 ?_)|apply Ca 4;(refine j3 1004 ?_)|apply Ca 15;refine Ch (hc:=w1) ?_|apply Ca 19;refine Ch (hc:=w2) ?_|apply Ca 5;(refine j3 1005 ?_)|apply Ca 23;refine Ch (hc:=w3) ?_|apply Ca 29;refine Ch (hc:=w4) ?_|apply Ca 6;(refine j3 1006 ?_)|apply Ca 34;refine Ch (hc:=w5) ?_|apply Ca 47;(refine Df 1047 ?_)|apply Ca 49;refine Ch (hc:=w9) ?_|apply Ca 51;(refine Df 1051 ?_)|apply Ca 60;refine Ch (hc:=w10) ?_|apply Ca 65;refine Ch (hc:=w11) ?_|apply Ca 66;refine z_p Cq ?_|apply Ca 86;refine Ch (hc:=w8) ?_|refine yyp ?_|refine yy ?_|refine yy2 ?_ ?_<;>intro hcmp|apply Cg 51;refine Ci (hc:=w6) ?_|apply ah;refine Cc qg8 ?_|refine Ht ?_ ?_|refine jy1 ?_ ?_|(apply Gn (x:=.region 14 _ _);focus ((apply Cf 14;refine j0 [8,13,16] q00 ?_);(repeat' (first|apply Ca 2;(refine Cm 1002 ?_)));(all_goals first|exact Wk.refl _ _|exact r9);done))|refine Cb λK hK=>?_|apply Cf 14;refine j0 [8,13,16] q00 ?_|apply_assumption -exfalso -symm)
  all_goals first
   |(exfalso;exact absurd h17 (by assumption))
   |(exfalso;exact absurd h0 (by assumption))
   |(exfalso;exact hk (by assumption))
   |(exfalso;exact h0 (by assumption))
   |((refine j1 (j6 ⟨?_,rfl⟩))
     rfl)
end
end Go.Proofs.YtklklgfpkpglgaaGreatDoor
