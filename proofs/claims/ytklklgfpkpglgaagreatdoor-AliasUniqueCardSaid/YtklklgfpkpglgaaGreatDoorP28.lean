/- Parts: S35. -/
import Derived.Test.YtklklgfpkpglgaaGreatDoorP26
set_option linter.all false
set_option maxRecDepth 100000
set_option maxHeartbeats 16000000
namespace Go.Proofs.YtklklgfpkpglgaaGreatDoor
open Go.RowKit Go.Proofs.Tryz
section
def qh1:List Nat:=[0,1,2,3,4,5,6,7,8,11,43,45,70]
variable {mm:Int}
attribute [local irreducible] TR TC
theorem kk4 (p:Pr)(σ:Sc.W)(a:ByteArray × Sc.W)(ha:a=if p.kind=17 then Sc.nameOf σ p.name else (p.name,σ))(tag:Bool)(htag:tag=Sc.Db σ.env p.kind p.chan p.exprs)(c:Ex × Sc.W)(hc:c=Cj a.2 p.chan)(t:List Ex × Sc.W)(ht:t=v7 Cj c.2 p.targets)(x:List Ex × Sc.W)(hx:x=Sc.Du tag t.2 p.exprs)(r:ByteArray × Sc.W)(hr:r=Sc.Cu x.2)(rb:Ex × Sc.W)(hrb:rb=Cj r.2 p.rep.base)(rc:Ex × Sc.W)(hrc:rc=Cj rb.2 p.rep.count)(g':List Gu)(l':List Pr)(σg σm:Sc.W)(h17:p.kind≠17)(hk:p.kind≠18)(h0:p.rep.name≠ByteArray.empty)(h5:p.kind=5->0<p.exprs.length)(hfit:σ.fit (Sc.Ho p.chan p.targets p.exprs p.rep+1))(hpr:p.procs.length<=10000000)(hl:p.spec.proto.l.length<=1000000000)(hv:∀ v∈p.spec.proto.l,v.items.length<=10000000)
 (hme:σm.env=Sc.Cm σ.env [p.rep.name] [(⟨r.1,false,[]⟩:Sc.Ent)])
 (hG:FnE prog (glS mm) 56 [.d (.list 23 (p.guards.map dGu)),.clo (.func 57) [.ptr 900 0] []] (HW Sc.Kind.free {rc.2 with env:=Sc.Cm σ.env [p.rep.name] [(⟨r.1,false,[]⟩:Sc.Ent)]}) (fun v H1=>v=.d (.list 23 (g'.map dGu))/\H1=HW Sc.Kind.free σg))
 (hL:FnE prog (glS mm) 58 [.d (.list 42 (p.l.map dPr)),.clo (.func 31) [.ptr 900 0] []] (HW Sc.Kind.free σg) (fun v H1=>v=.d (.list 42 (l'.map dPr))/\H1=HW Sc.Kind.free σm)):
 FnE prog (glS mm) 31 [.ptr 900 0,.d (dPr p)] (HW Sc.Kind.free σ)
  (fun v H1=>v=.d (dPr (Pr.set2 (.mk p.kind a.1 c.1 t.1 x.1 ⟨r.1,rb.1,rc.1⟩ p.guards p.l p.procs p.spec) g' l'))/\H1=HW Sc.Kind.free {σm with env:=σ.env}):=by
 have hroom:=hfit.room;have hdeep:=hfit.deep;unfold Sc.W.room Sc.Ho Sc.Mr at hroom;have ga:Sc.Grow σ a.2 1:=by
  rw[ha];split
  ·exact Sc.Ia σ p.name
  ·exact Sc.Grow.refl _ _
 have gc:Sc.Grow a.2 c.2 (exN p.chan):=by rw[hc];exact Sc.Cy _ _
 have gt:Sc.Grow c.2 t.2 (Gj p.targets):=by rw[ht];exact Sc.Dz _ _
 have gx:Sc.Grow t.2 x.2 (Gj p.exprs):=by rw[hx];exact Sc.Ib _ _ _
 have e1:=ga.ev;have e2:=gc.ev;have e3:=gt.ev;have e4:=gx.ev;have xenv:x.2.env=σ.env:=((gx.env.trans gt.env).trans gc.env).trans ga.env;have gxx:=((ga.trans gc).trans gt).trans gx;have w1:p.kind=17->FnE prog (glS mm) 46 [.ptr 900 0,.d (.str p.name)] (HW Sc.Kind.free σ) (fun v H1=>v=.d (.str a.1)/\H1=HW Sc.Kind.free a.2):=fun h17=>by
  rw[ha,Ad h17];exact jm7 (glS mm) Sc.Kind.free σ p.name (by unfold Sc.W.room;omega)
 have a17:p.kind≠17->a=(p.name,σ):=fun h17=>by rw[ha,Ae h17]
 have w2:=jh1 (glS mm) Sc.Kind.free a.2 (.mk p.kind a.1 p.chan p.targets p.exprs p.rep p.guards p.l p.procs p.spec) h5;rw[show Sc.Db a.2.env (Pr.mk p.kind a.1 p.chan p.targets p.exprs p.rep p.guards p.l p.procs p.spec).kind (Pr.mk p.kind a.1 p.chan p.targets p.exprs p.rep p.guards p.l p.procs p.spec).chan (Pr.mk p.kind a.1 p.chan p.targets p.exprs p.rep p.guards p.l p.procs p.spec).exprs=tag by rw[ga.env];exact htag.symm,j9]at w2;have w3:=jc4 (glS mm) Sc.Kind.free p.chan a.2 (by unfold Sc.W.room;omega);rw[<-hc]at w3;have w4:=jm5 (glS mm) Sc.Kind.free p.targets c.2 (by unfold Sc.W.room;omega);rw[<-ht]at w4;have w5:=jb4 (glS mm) Sc.Kind.free tag p.exprs t.2 (by have:=n5 p.exprs;omega) fun j hj=>jc4 (glS mm) Sc.Kind.free p.exprs[j] _ (by
  have h1:=(Sc.Ib tag t.2 (p.exprs.take j)).ev;have h2:=z1 p.exprs j hj;unfold Sc.W.room;omega)
 rw[<-hx]at w5;have w6:=jh2 (glS mm) p.procs hpr;clear ha hc ht hx htag;have fx:=v6 gxx (m:=2+exN p.rep.base+exN p.rep.count) (hfit.mono (by unfold Sc.Ho Sc.Mr;omega));have w9:=jl0 (mm:=mm) Sc.Kind.free x.2 fx.tk (fx.mono (m:=1) (by omega)).num;rw[<-hr]at w9;have gr:Sc.Grow x.2 r.2 1:=by rw[hr];exact Sc.Ji _
 have fr:=v6 gr (m:=1+exN p.rep.base+exN p.rep.count) (fx.mono (by omega));have w10:=jc4 (glS mm) Sc.Kind.free p.rep.base r.2 (fr.mono (m:=exN p.rep.base) (by omega)).room;rw[<-hrb]at w10;have grb:Sc.Grow r.2 rb.2 (exN p.rep.base):=by rw[hrb];exact Sc.Cy _ _
 have frb:=v6 grb (m:=1+exN p.rep.count) (fr.mono (by omega));have w11:=jc4 (glS mm) Sc.Kind.free p.rep.count rb.2 (frb.mono (m:=exN p.rep.count) (by omega)).room;rw[<-hrc]at w11;have grc:Sc.Grow rb.2 rc.2 (exN p.rep.count):=by rw[hrc];exact Sc.Cy _ _
 have rcenv:rc.2.env=σ.env:=((grc.env.trans grb.env).trans gr.env).trans xenv;have w8:=jk9 (glS mm) Sc.Kind.free {rc.2 with env:=σ.env} σm [p.rep.name] [⟨r.1,false,[]⟩] (.mk p.kind a.1 c.1 t.1 x.1 ⟨r.1,rb.1,rc.1⟩ p.guards p.l p.procs p.spec) (Pr.set2 (.mk p.kind a.1 c.1 t.1 x.1 ⟨r.1,rb.1,rc.1⟩ p.guards p.l p.procs p.spec) g' l') rfl (fun u=>by
  have:=hdeep u;unfold Sc.Ho Sc.Mr at this;simp only[An,Av];omega) hme (jb3 (glS mm) Sc.Kind.free _ σg σm (.mk p.kind a.1 c.1 t.1 x.1 ⟨r.1,rb.1,rc.1⟩ p.guards p.l p.procs p.spec) g' l' hG hL)
 rw[show({rc.2 with env:=σ.env}:Sc.W)=rc.2 by rw[<-rcenv],rcenv]at w8;simp only[k9]at w10 w11;clear hr hrb hrc gr grb grc fx fr frb rcenv;simp only[k9]at w3;clear hG hL hme gxx e1 e2 e3 e4 ga gc gt gx xenv hdeep hroom hfit;rw[j9]
 skip
 ·obtain rfl:=a17 h17;clear w1 a17
  all_goals dsimp only[HW,ja0,z6]at w2 w3 w4 w5 w8 w9 w10 w11 ⊢
  all_goals (refine j2 func31 ntmps31 results31 fun w M E b0=>?_)
  all_goals (repeat' first|refine Ca 2 ?_;(refine Cq 1002 ?_)|refine Ca 3 ?_;(refine Cq 1003 ?_)|refine Ca 4 ?_;(refine j3 1004 ?_)|refine Ca 19 ?_;refine Cg (hc:=w2) ?_|refine Ca 5 ?_;(refine j3 1005 ?_)|refine Ca 23 ?_;refine Cg (hc:=w3) ?_|refine Ca 29 ?_;refine Cg (hc:=w4) ?_|refine Ca 6 ?_;(refine j3 1006 ?_)|refine Ca 34 ?_;refine Cg (hc:=w5) ?_|refine Ca 47 ?_;(refine Dn 1047 ?_)|refine Ca 49 ?_;refine Cg (hc:=w9) ?_|refine Ca 51 ?_;(refine Dn 1051 ?_)|refine Ca 60 ?_;refine Cg (hc:=w10) ?_|refine Ca 65 ?_;refine Cg (hc:=w11) ?_|refine Ca 66 ?_;refine z_p Dk ?_|refine Ca 86 ?_;refine Cg (hc:=w8) ?_|refine yyp ?_|refine yy ?_|refine yy2 ?_ ?_<;>intro hcmp|refine Ch 51 ?_;refine Ck (hc:=w6) ?_|refine at_nil ?_;refine Cc qh1 ?_|refine Hz ?_ ?_|refine jy8 ?_ ?_|(apply Hy (x:=.region 14 _ _);focus ((refine Cf 14 ?_;refine j0 [8,13,16] q00 ?_);(repeat' (first|refine Ca 2 ?_;(refine Cq 1002 ?_)));(all_goals first|exact Wk.refl _ _|exact k8);done))|refine Cb fun K hK=>?_|refine Cf 14 ?_;refine j0 [8,13,16] q00 ?_|apply_assumption -exfalso -symm)
  all_goals first
   |(exfalso;exact h17 (by assumption))
   |(exfalso;exact absurd h0 (by assumption))
   |(exfalso;exact absurd hk (by assumption))
   |(exfalso;exact hk (by assumption))
   |(exfalso;exact h0 (by assumption))
   |((refine j1 (j4 ⟨?_,rfl⟩))
     rfl)
theorem kf7 (cn:List ByteArray)(p:Pr)(σ:Sc.W)(a:ByteArray × Sc.W)(ha:a=if p.kind=17 then Sc.nameOf σ p.name else (p.name,σ))(tag:Bool)(htag:tag=Sc.Db σ.env p.kind p.chan p.exprs)(c:Ex × Sc.W)(hc:c=Cj a.2 p.chan)(t:List Ex × Sc.W)(ht:t=v7 Cj c.2 p.targets)(x:List Ex × Sc.W)(hx:x=Sc.Du tag t.2 p.exprs)(r:ByteArray × Sc.W)(hr:r=Sc.Cu x.2)(rb:Ex × Sc.W)(hrb:rb=Cj r.2 p.rep.base)(rc:Ex × Sc.W)(hrc:rc=Cj rb.2 p.rep.count)(g':List Gu)(l':List Pr)(σg σm:Sc.W)(h17:p.kind≠17)(hk:p.kind≠18)(h0:p.rep.name≠ByteArray.empty)(h5:p.kind=5->0<p.exprs.length)(hfit:σ.fit (Sc.Ho p.chan p.targets p.exprs p.rep+1))(hpr:p.procs.length<=10000000)(hl:p.spec.proto.l.length<=1000000000)(hv:∀ v∈p.spec.proto.l,v.items.length<=10000000)
 (hme:σm.env=Sc.Cm σ.env [p.rep.name] [(⟨r.1,false,[]⟩:Sc.Ent)])
 (hG:FnE prog (glS mm) 56 [.d (.list 23 (p.guards.map dGu)),.clo (.func 57) [.ptr 900 0] []] (HW (Sc.Kind.check cn) {rc.2 with env:=Sc.Cm σ.env [p.rep.name] [(⟨r.1,false,[]⟩:Sc.Ent)]}) (fun v H1=>v=.d (.list 23 (g'.map dGu))/\H1=HW (Sc.Kind.check cn) σg))
 (hL:FnE prog (glS mm) 58 [.d (.list 42 (p.l.map dPr)),.clo (.func 31) [.ptr 900 0] []] (HW (Sc.Kind.check cn) σg) (fun v H1=>v=.d (.list 42 (l'.map dPr))/\H1=HW (Sc.Kind.check cn) σm)):
 FnE prog (glS mm) 31 [.ptr 900 0,.d (dPr p)] (HW (Sc.Kind.check cn) σ)
  (fun v H1=>v=.d (dPr (Pr.set2 (.mk p.kind a.1 c.1 t.1 x.1 ⟨r.1,rb.1,rc.1⟩ p.guards p.l p.procs p.spec) g' l'))/\H1=HW (Sc.Kind.check cn) {σm with env:=σ.env}):=by
 have hroom:=hfit.room;have hdeep:=hfit.deep;unfold Sc.W.room Sc.Ho Sc.Mr at hroom;have ga:Sc.Grow σ a.2 1:=by
  rw[ha];split
  ·exact Sc.Ia σ p.name
  ·exact Sc.Grow.refl _ _
 have gc:Sc.Grow a.2 c.2 (exN p.chan):=by rw[hc];exact Sc.Cy _ _
 have gt:Sc.Grow c.2 t.2 (Gj p.targets):=by rw[ht];exact Sc.Dz _ _
 have gx:Sc.Grow t.2 x.2 (Gj p.exprs):=by rw[hx];exact Sc.Ib _ _ _
 have e1:=ga.ev;have e2:=gc.ev;have e3:=gt.ev;have e4:=gx.ev;have xenv:x.2.env=σ.env:=((gx.env.trans gt.env).trans gc.env).trans ga.env;have gxx:=((ga.trans gc).trans gt).trans gx;have w1:p.kind=17->FnE prog (glS mm) 46 [.ptr 900 0,.d (.str p.name)] (HW (Sc.Kind.check cn) σ) (fun v H1=>v=.d (.str a.1)/\H1=HW (Sc.Kind.check cn) a.2):=fun h17=>by
  rw[ha,Ad h17];exact jm7 (glS mm) (Sc.Kind.check cn) σ p.name (by unfold Sc.W.room;omega)
 have a17:p.kind≠17->a=(p.name,σ):=fun h17=>by rw[ha,Ae h17]
 have w2:=jh1 (glS mm) (Sc.Kind.check cn) a.2 (.mk p.kind a.1 p.chan p.targets p.exprs p.rep p.guards p.l p.procs p.spec) h5;rw[show Sc.Db a.2.env (Pr.mk p.kind a.1 p.chan p.targets p.exprs p.rep p.guards p.l p.procs p.spec).kind (Pr.mk p.kind a.1 p.chan p.targets p.exprs p.rep p.guards p.l p.procs p.spec).chan (Pr.mk p.kind a.1 p.chan p.targets p.exprs p.rep p.guards p.l p.procs p.spec).exprs=tag by rw[ga.env];exact htag.symm,j9]at w2;have w3:=jc4 (glS mm) (Sc.Kind.check cn) p.chan a.2 (by unfold Sc.W.room;omega);rw[<-hc]at w3;have w4:=jm5 (glS mm) (Sc.Kind.check cn) p.targets c.2 (by unfold Sc.W.room;omega);rw[<-ht]at w4;have w5:=jb4 (glS mm) (Sc.Kind.check cn) tag p.exprs t.2 (by have:=n5 p.exprs;omega) fun j hj=>jc4 (glS mm) (Sc.Kind.check cn) p.exprs[j] _ (by
  have h1:=(Sc.Ib tag t.2 (p.exprs.take j)).ev;have h2:=z1 p.exprs j hj;unfold Sc.W.room;omega)
 rw[<-hx]at w5;have w6:=jh2 (glS mm) p.procs hpr;clear ha hc ht hx htag;have fx:=v6 gxx (m:=2+exN p.rep.base+exN p.rep.count) (hfit.mono (by unfold Sc.Ho Sc.Mr;omega));have w9:=jl0 (mm:=mm) (Sc.Kind.check cn) x.2 fx.tk (fx.mono (m:=1) (by omega)).num;rw[<-hr]at w9;have gr:Sc.Grow x.2 r.2 1:=by rw[hr];exact Sc.Ji _
 have fr:=v6 gr (m:=1+exN p.rep.base+exN p.rep.count) (fx.mono (by omega));have w10:=jc4 (glS mm) (Sc.Kind.check cn) p.rep.base r.2 (fr.mono (m:=exN p.rep.base) (by omega)).room;rw[<-hrb]at w10;have grb:Sc.Grow r.2 rb.2 (exN p.rep.base):=by rw[hrb];exact Sc.Cy _ _
 have frb:=v6 grb (m:=1+exN p.rep.count) (fr.mono (by omega));have w11:=jc4 (glS mm) (Sc.Kind.check cn) p.rep.count rb.2 (frb.mono (m:=exN p.rep.count) (by omega)).room;rw[<-hrc]at w11;have grc:Sc.Grow rb.2 rc.2 (exN p.rep.count):=by rw[hrc];exact Sc.Cy _ _
 have rcenv:rc.2.env=σ.env:=((grc.env.trans grb.env).trans gr.env).trans xenv;have w8:=jk9 (glS mm) (Sc.Kind.check cn) {rc.2 with env:=σ.env} σm [p.rep.name] [⟨r.1,false,[]⟩] (.mk p.kind a.1 c.1 t.1 x.1 ⟨r.1,rb.1,rc.1⟩ p.guards p.l p.procs p.spec) (Pr.set2 (.mk p.kind a.1 c.1 t.1 x.1 ⟨r.1,rb.1,rc.1⟩ p.guards p.l p.procs p.spec) g' l') rfl (fun u=>by
  have:=hdeep u;unfold Sc.Ho Sc.Mr at this;simp only[An,Av];omega) hme (jb3 (glS mm) (Sc.Kind.check cn) _ σg σm (.mk p.kind a.1 c.1 t.1 x.1 ⟨r.1,rb.1,rc.1⟩ p.guards p.l p.procs p.spec) g' l' hG hL)
 rw[show({rc.2 with env:=σ.env}:Sc.W)=rc.2 by rw[<-rcenv],rcenv]at w8;simp only[k9]at w10 w11;clear hr hrb hrc gr grb grc fx fr frb rcenv;simp only[k9]at w3;clear hG hL hme gxx e1 e2 e3 e4 ga gc gt gx xenv hdeep hroom hfit;rw[j9]
 skip
 ·obtain rfl:=a17 h17;clear w1 a17
  all_goals dsimp only[HW,ja0,z6]at w2 w3 w4 w5 w8 w9 w10 w11 ⊢
  all_goals (refine j2 func31 ntmps31 results31 fun w M E b0=>?_)
  all_goals (repeat' first|refine Ca 2 ?_;(refine Cq 1002 ?_)|refine Ca 3 ?_;(refine Cq 1003 ?_)|refine Ca 4 ?_;(refine j3 1004 ?_)|refine Ca 19 ?_;refine Cg (hc:=w2) ?_|refine Ca 5 ?_;(refine j3 1005 ?_)|refine Ca 23 ?_;refine Cg (hc:=w3) ?_|refine Ca 29 ?_;refine Cg (hc:=w4) ?_|refine Ca 6 ?_;(refine j3 1006 ?_)|refine Ca 34 ?_;refine Cg (hc:=w5) ?_|refine Ca 47 ?_;(refine Dn 1047 ?_)|refine Ca 49 ?_;refine Cg (hc:=w9) ?_|refine Ca 51 ?_;(refine Dn 1051 ?_)|refine Ca 60 ?_;refine Cg (hc:=w10) ?_|refine Ca 65 ?_;refine Cg (hc:=w11) ?_|refine Ca 66 ?_;refine z_p Dk ?_|refine Ca 86 ?_;refine Cg (hc:=w8) ?_|refine yyp ?_|refine yy ?_|refine yy2 ?_ ?_<;>intro hcmp|refine Ch 51 ?_;refine Ck (hc:=w6) ?_|refine at_nil ?_;refine Cc qh1 ?_|refine Hz ?_ ?_|refine jy8 ?_ ?_|(apply Hy (x:=.region 14 _ _);focus ((refine Cf 14 ?_;refine j0 [8,13,16] q00 ?_);(repeat' (first|refine Ca 2 ?_;(refine Cq 1002 ?_)));(all_goals first|exact Wk.refl _ _|exact k8);done))|refine Cb fun K hK=>?_|refine Cf 14 ?_;refine j0 [8,13,16] q00 ?_|apply_assumption -exfalso -symm)
  all_goals first
   |(exfalso;exact h17 (by assumption))
   |(exfalso;exact absurd h0 (by assumption))
   |(exfalso;exact absurd hk (by assumption))
   |(exfalso;exact hk (by assumption))
   |(exfalso;exact h0 (by assumption))
   |((refine j1 (j4 ⟨?_,rfl⟩))
     rfl)
theorem kk5 (p:Pr)(σ:Sc.W)(a:ByteArray × Sc.W)(ha:a=if p.kind=17 then Sc.nameOf σ p.name else (p.name,σ))(tag:Bool)(htag:tag=Sc.Db σ.env p.kind p.chan p.exprs)(c:Ex × Sc.W)(hc:c=Cj a.2 p.chan)(t:List Ex × Sc.W)(ht:t=v7 Cj c.2 p.targets)(x:List Ex × Sc.W)(hx:x=Sc.Du tag t.2 p.exprs)(r:ByteArray × Sc.W)(hr:r=Sc.Cu x.2)(rb:Ex × Sc.W)(hrb:rb=Cj r.2 p.rep.base)(rc:Ex × Sc.W)(hrc:rc=Cj rb.2 p.rep.count)(g':List Gu)(l':List Pr)(σg σm:Sc.W)(h17:p.kind≠17)(hk:p.kind≠18)(h0:p.rep.name≠ByteArray.empty)(h5:p.kind=5->0<p.exprs.length)(hfit:σ.fit (Sc.Ho p.chan p.targets p.exprs p.rep+1))(hpr:p.procs.length<=10000000)(hl:p.spec.proto.l.length<=1000000000)(hv:∀ v∈p.spec.proto.l,v.items.length<=10000000)
 (hme:σm.env=Sc.Cm σ.env [p.rep.name] [(⟨r.1,false,[]⟩:Sc.Ent)])
 (hG:FnE prog (glS mm) 56 [.d (.list 23 (p.guards.map dGu)),.clo (.func 57) [.ptr 900 0] []] (HW Sc.Kind.none {rc.2 with env:=Sc.Cm σ.env [p.rep.name] [(⟨r.1,false,[]⟩:Sc.Ent)]}) (fun v H1=>v=.d (.list 23 (g'.map dGu))/\H1=HW Sc.Kind.none σg))
 (hL:FnE prog (glS mm) 58 [.d (.list 42 (p.l.map dPr)),.clo (.func 31) [.ptr 900 0] []] (HW Sc.Kind.none σg) (fun v H1=>v=.d (.list 42 (l'.map dPr))/\H1=HW Sc.Kind.none σm)):
 FnE prog (glS mm) 31 [.ptr 900 0,.d (dPr p)] (HW Sc.Kind.none σ)
  (fun v H1=>v=.d (dPr (Pr.set2 (.mk p.kind a.1 c.1 t.1 x.1 ⟨r.1,rb.1,rc.1⟩ p.guards p.l p.procs p.spec) g' l'))/\H1=HW Sc.Kind.none {σm with env:=σ.env}):=by
 have hroom:=hfit.room;have hdeep:=hfit.deep;unfold Sc.W.room Sc.Ho Sc.Mr at hroom;have ga:Sc.Grow σ a.2 1:=by
  rw[ha];split
  ·exact Sc.Ia σ p.name
  ·exact Sc.Grow.refl _ _
 have gc:Sc.Grow a.2 c.2 (exN p.chan):=by rw[hc];exact Sc.Cy _ _
 have gt:Sc.Grow c.2 t.2 (Gj p.targets):=by rw[ht];exact Sc.Dz _ _
 have gx:Sc.Grow t.2 x.2 (Gj p.exprs):=by rw[hx];exact Sc.Ib _ _ _
 have e1:=ga.ev;have e2:=gc.ev;have e3:=gt.ev;have e4:=gx.ev;have xenv:x.2.env=σ.env:=((gx.env.trans gt.env).trans gc.env).trans ga.env;have gxx:=((ga.trans gc).trans gt).trans gx;have w1:p.kind=17->FnE prog (glS mm) 46 [.ptr 900 0,.d (.str p.name)] (HW Sc.Kind.none σ) (fun v H1=>v=.d (.str a.1)/\H1=HW Sc.Kind.none a.2):=fun h17=>by
  rw[ha,Ad h17];exact jm7 (glS mm) Sc.Kind.none σ p.name (by unfold Sc.W.room;omega)
 have a17:p.kind≠17->a=(p.name,σ):=fun h17=>by rw[ha,Ae h17]
 have w2:=jh1 (glS mm) Sc.Kind.none a.2 (.mk p.kind a.1 p.chan p.targets p.exprs p.rep p.guards p.l p.procs p.spec) h5;rw[show Sc.Db a.2.env (Pr.mk p.kind a.1 p.chan p.targets p.exprs p.rep p.guards p.l p.procs p.spec).kind (Pr.mk p.kind a.1 p.chan p.targets p.exprs p.rep p.guards p.l p.procs p.spec).chan (Pr.mk p.kind a.1 p.chan p.targets p.exprs p.rep p.guards p.l p.procs p.spec).exprs=tag by rw[ga.env];exact htag.symm,j9]at w2;have w3:=jc4 (glS mm) Sc.Kind.none p.chan a.2 (by unfold Sc.W.room;omega);rw[<-hc]at w3;have w4:=jm5 (glS mm) Sc.Kind.none p.targets c.2 (by unfold Sc.W.room;omega);rw[<-ht]at w4;have w5:=jb4 (glS mm) Sc.Kind.none tag p.exprs t.2 (by have:=n5 p.exprs;omega) fun j hj=>jc4 (glS mm) Sc.Kind.none p.exprs[j] _ (by
  have h1:=(Sc.Ib tag t.2 (p.exprs.take j)).ev;have h2:=z1 p.exprs j hj;unfold Sc.W.room;omega)
 rw[<-hx]at w5;have w6:=jh2 (glS mm) p.procs hpr;clear ha hc ht hx htag;have fx:=v6 gxx (m:=2+exN p.rep.base+exN p.rep.count) (hfit.mono (by unfold Sc.Ho Sc.Mr;omega));have w9:=jl0 (mm:=mm) Sc.Kind.none x.2 fx.tk (fx.mono (m:=1) (by omega)).num;rw[<-hr]at w9;have gr:Sc.Grow x.2 r.2 1:=by rw[hr];exact Sc.Ji _
 have fr:=v6 gr (m:=1+exN p.rep.base+exN p.rep.count) (fx.mono (by omega));have w10:=jc4 (glS mm) Sc.Kind.none p.rep.base r.2 (fr.mono (m:=exN p.rep.base) (by omega)).room;rw[<-hrb]at w10;have grb:Sc.Grow r.2 rb.2 (exN p.rep.base):=by rw[hrb];exact Sc.Cy _ _
 have frb:=v6 grb (m:=1+exN p.rep.count) (fr.mono (by omega));have w11:=jc4 (glS mm) Sc.Kind.none p.rep.count rb.2 (frb.mono (m:=exN p.rep.count) (by omega)).room;rw[<-hrc]at w11;have grc:Sc.Grow rb.2 rc.2 (exN p.rep.count):=by rw[hrc];exact Sc.Cy _ _
 have rcenv:rc.2.env=σ.env:=((grc.env.trans grb.env).trans gr.env).trans xenv;have w8:=jk9 (glS mm) Sc.Kind.none {rc.2 with env:=σ.env} σm [p.rep.name] [⟨r.1,false,[]⟩] (.mk p.kind a.1 c.1 t.1 x.1 ⟨r.1,rb.1,rc.1⟩ p.guards p.l p.procs p.spec) (Pr.set2 (.mk p.kind a.1 c.1 t.1 x.1 ⟨r.1,rb.1,rc.1⟩ p.guards p.l p.procs p.spec) g' l') rfl (fun u=>by
  have:=hdeep u;unfold Sc.Ho Sc.Mr at this;simp only[An,Av];omega) hme (jb3 (glS mm) Sc.Kind.none _ σg σm (.mk p.kind a.1 c.1 t.1 x.1 ⟨r.1,rb.1,rc.1⟩ p.guards p.l p.procs p.spec) g' l' hG hL)
 rw[show({rc.2 with env:=σ.env}:Sc.W)=rc.2 by rw[<-rcenv],rcenv]at w8;simp only[k9]at w10 w11;clear hr hrb hrc gr grb grc fx fr frb rcenv;simp only[k9]at w3;clear hG hL hme gxx e1 e2 e3 e4 ga gc gt gx xenv hdeep hroom hfit;rw[j9]
 skip
 ·obtain rfl:=a17 h17;clear w1 a17
  all_goals dsimp only[HW,ja0,z6]at w2 w3 w4 w5 w8 w9 w10 w11 ⊢
  all_goals (refine j2 func31 ntmps31 results31 fun w M E b0=>?_)
  all_goals (repeat' first|refine Ca 2 ?_;(refine Cq 1002 ?_)|refine Ca 3 ?_;(refine Cq 1003 ?_)|refine Ca 4 ?_;(refine j3 1004 ?_)|refine Ca 19 ?_;refine Cg (hc:=w2) ?_|refine Ca 5 ?_;(refine j3 1005 ?_)|refine Ca 23 ?_;refine Cg (hc:=w3) ?_|refine Ca 29 ?_;refine Cg (hc:=w4) ?_|refine Ca 6 ?_;(refine j3 1006 ?_)|refine Ca 34 ?_;refine Cg (hc:=w5) ?_|refine Ca 47 ?_;(refine Dn 1047 ?_)|refine Ca 49 ?_;refine Cg (hc:=w9) ?_|refine Ca 51 ?_;(refine Dn 1051 ?_)|refine Ca 60 ?_;refine Cg (hc:=w10) ?_|refine Ca 65 ?_;refine Cg (hc:=w11) ?_|refine Ca 66 ?_;refine z_p Dk ?_|refine Ca 86 ?_;refine Cg (hc:=w8) ?_|refine yyp ?_|refine yy ?_|refine yy2 ?_ ?_<;>intro hcmp|refine Ch 51 ?_;refine Ck (hc:=w6) ?_|refine at_nil ?_;refine Cc qh1 ?_|refine Hz ?_ ?_|refine jy8 ?_ ?_|(apply Hy (x:=.region 14 _ _);focus ((refine Cf 14 ?_;refine j0 [8,13,16] q00 ?_);(repeat' (first|refine Ca 2 ?_;(refine Cq 1002 ?_)));(all_goals first|exact Wk.refl _ _|exact k8);done))|refine Cb fun K hK=>?_|refine Cf 14 ?_;refine j0 [8,13,16] q00 ?_|apply_assumption -exfalso -symm)
  all_goals first
   |(exfalso;exact h17 (by assumption))
   |(exfalso;exact absurd h0 (by assumption))
   |(exfalso;exact absurd hk (by assumption))
   |(exfalso;exact hk (by assumption))
   |(exfalso;exact h0 (by assumption))
   |((refine j1 (j4 ⟨?_,rfl⟩))
     rfl)
end
end Go.Proofs.YtklklgfpkpglgaaGreatDoor
