/- Parts: S32, S33. -/
import Derived.Test.YtdopmfifmgkmoaaGreatDoorP27
set_option linter.all false
set_option maxRecDepth 100000
set_option maxHeartbeats 16000000
namespace Go.Proofs.YtdopmfifmgkmoaaGreatDoor
open Go.RowKit Go.Proofs.Tryz
section
variable {mm:Int}
attribute [local irreducible] TR TC
theorem qc0 (k:Sc.Kind)(p:Pr)(σ:Sc.W)(a:ByteArray × Sc.W)(ha:a=if p.kind=17 then Sc.nameOf σ p.name else (p.name,σ))(tag:Bool)(htag:tag=Sc.Cy σ.env p.kind p.chan p.exprs)(c:Ex × Sc.W)(hc:c=j2 a.2 p.chan)(t:List Ex × Sc.W)(ht:t=Cv j2 c.2 p.targets)(x:List Ex × Sc.W)(hx:x=Sc.Dn tag t.2 p.exprs)(h:Sc.Head × Sc.W)(hh:h=Sc.Fu x.2 p.spec)(b:List Pr)(σb:Sc.W)(hbe:σb.env=Sc.Cn σ.env (p.spec.formals.map (·.name)) h.1.inner)(hown:p.spec.names.length=h.1.own.length)(g':List Gu)(l':List Pr)(σg σm:Sc.W)(hk:p.kind=18)(h0:p.rep.name=ByteArray.empty)(h5:p.kind=5->0<p.exprs.length)(hfit:σ.fit (Sc.Gc p.chan p.targets p.exprs p.rep+Sc.Nc p.spec+1))(hpr:p.procs.length<=10000000)(hl:p.spec.proto.l.length<=1000000000)(hv:∀ v∈p.spec.proto.l,v.items.length<=10000000)
 (hme:σm.env=Sc.Cn σ.env p.spec.names h.1.own) (hB:FnE prog (glS mm) 68 [.d (.list 42 (p.spec.body.map dPr)),.clo (.func 33) [.ptr 900 0] []] (HW k {h.2 with env:=Sc.Cn σ.env (p.spec.formals.map (·.name)) h.1.inner}) (fun v H1=>v=.d (.list 42 (b.map dPr))/\H1=HW k σb))
 (hG:FnE prog (glS mm) 66 [.d (.list 23 (p.guards.map dGu)),.clo (.func 67) [.ptr 900 0] []] (HW k {σb with env:=Sc.Cn σ.env p.spec.names h.1.own}) (fun v H1=>v=.d (.list 23 (g'.map dGu))/\H1=HW k σg))
 (hL:FnE prog (glS mm) 68 [.d (.list 42 (p.l.map dPr)),.clo (.func 33) [.ptr 900 0] []] (HW k σg) (fun v H1=>v=.d (.list 42 (l'.map dPr))/\H1=HW k σm)):
 FnE prog (glS mm) 33 [.ptr 900 0,.d (dPr p)] (HW k σ)
  (fun v H1=>v=.d (dPr (Pr.set2 (.mk p.kind a.1 c.1 t.1 x.1 p.rep p.guards p.l p.procs (p.spec.with' h.1 b)) g' l'))/\H1=HW k {σm with env:=σ.env}):=by
 have hroom:=hfit.room;have hdeep:=hfit.deep;unfold Sc.W.room Sc.Gc Sc.Lv at hroom;have ga:Sc.Grow σ a.2 1:=by
  rw[ha];split
  ·exact Sc.Ho σ p.name
  ·exact Sc.Grow.refl _ _
 have gc:Sc.Grow a.2 c.2 (exN p.chan):=by rw[hc];exact Sc.Dj _ _
 have gt:Sc.Grow c.2 t.2 (Hr p.targets):=by rw[ht];exact Sc.Dm _ _
 have gx:Sc.Grow t.2 x.2 (Hr p.exprs):=by rw[hx];exact Sc.Ic _ _ _
 have e1:=ga.ev;have e2:=gc.ev;have e3:=gt.ev;have e4:=gx.ev;have xenv:x.2.env=σ.env:=((gx.env.trans gt.env).trans gc.env).trans ga.env;have gxx:=((ga.trans gc).trans gt).trans gx;have w1:p.kind=17->FnE prog (glS mm) 56 [.ptr 900 0,.d (.str p.name)] (HW k σ) (fun v H1=>v=.d (.str a.1)/\H1=HW k a.2):=fun h17=>by
  rw[ha,Ae h17];exact jk4 (glS mm) k σ p.name (by unfold Sc.W.room;omega)
 have a17:p.kind≠17->a=(p.name,σ):=fun h17=>by rw[ha,Af h17]
 have w2:=jg0 (glS mm) k a.2 (.mk p.kind a.1 p.chan p.targets p.exprs p.rep p.guards p.l p.procs p.spec) h5;rw[show Sc.Cy a.2.env (Pr.mk p.kind a.1 p.chan p.targets p.exprs p.rep p.guards p.l p.procs p.spec).kind (Pr.mk p.kind a.1 p.chan p.targets p.exprs p.rep p.guards p.l p.procs p.spec).chan (Pr.mk p.kind a.1 p.chan p.targets p.exprs p.rep p.guards p.l p.procs p.spec).exprs=tag by rw[ga.env];exact htag.symm,v8]at w2;have w3:=jc5 (glS mm) k p.chan a.2 (by unfold Sc.W.room;omega);rw[<-hc]at w3;have w4:=jk5 (glS mm) k p.targets c.2 (by unfold Sc.W.room;omega);rw[<-ht]at w4;have w5:=jb8 (glS mm) k tag p.exprs t.2 (by have:=n7 p.exprs;omega) fun j hj=>jc5 (glS mm) k p.exprs[j] _ (by
  have h1:=(Sc.Ic tag t.2 (p.exprs.take j)).ev;have h2:=n5 p.exprs j hj;unfold Sc.W.room;omega)
 rw[<-hx]at w5;have w6:=jg1 (glS mm) p.procs hpr;clear ha hc ht hx htag;have w7:=qb9 (mm:=mm) k p.spec x.2 σb b (r8 gxx (m:=Sc.Nc p.spec+1) (hfit.mono (by unfold Sc.Gc;omega))) hl hv (by rw[<-hh,xenv];exact hbe) (by rw[<-hh,xenv];exact hB);rw[<-hh,xenv]at w7;have w8:=jj1 (glS mm) k {σb with env:=σ.env} σm p.spec.names h.1.own (.mk p.kind a.1 c.1 t.1 x.1 p.rep p.guards p.l p.procs (p.spec.with' h.1 b)) (Pr.set2 (.mk p.kind a.1 c.1 t.1 x.1 p.rep p.guards p.l p.procs (p.spec.with' h.1 b)) g' l') hown (fun u=>by
  have:=hdeep u;unfold Sc.Nc at this;dsimp only;omega) hme (jb7 (glS mm) k _ σg σm (.mk p.kind a.1 c.1 t.1 x.1 p.rep p.guards p.l p.procs (p.spec.with' h.1 b)) g' l' hG hL)
 clear hB hh hown hbe;simp only[r9]at w3;clear hG hL hme gxx e1 e2 e3 e4 ga gc gt gx xenv hdeep hroom hfit;rw[v8];by_cases h17:p.kind=17
 ·exfalso;omega
 ·obtain rfl:=a17 h17;clear w1 a17;cases k
  all_goals dsimp only[HW,ja4,n6]at w2 w3 w4 w5 w8 w7 ⊢
  all_goals (refine j4 func33 ntmps33 results33 fun w M E b0=>?_)
  all_goals (repeat' first|refine Ca 2 ?_;(refine j6 1002 ?_)|refine Ca 3 ?_;(refine j6 1003 ?_)|refine Ca 4 ?_;(refine Cj 1004 ?_)|refine Ca 19 ?_;refine Ch (hc:=w2) ?_|refine Ca 5 ?_;(refine Cj 1005 ?_)|refine Ca 23 ?_;refine Ch (hc:=w3) ?_|refine Ca 29 ?_;refine Ch (hc:=w4) ?_|refine Ca 6 ?_;(refine Cj 1006 ?_)|refine Ca 34 ?_;refine Ch (hc:=w5) ?_|refine Ca 47 ?_;(refine Dh 1047 ?_)|refine Ca 78 ?_;refine Ch (hc:=w7) ?_|refine Ca 86 ?_;refine Ch (hc:=w8) ?_|refine yyp ?_|refine yy ?_|refine yy2 ?_ ?_<;>intro hcmp|refine Cf 61 ?_;refine Cg (hc:=w6) ?_|refine at_nil ?_;refine Ce [0,1,2,3,4,5,6,7,8,11,43,45,70] ?_|refine Cb fun K hK=>?_|refine Ck 14 ?_;refine j1 [16] (lin [0,4,8,20,24,40,44,13,17,29,37,49,34,54,56,60,67]) ?_|apply_assumption -exfalso -symm)
  all_goals first
   |(exfalso;exact h17 (by assumption))
   |(exfalso;exact absurd h0 (by assumption))
   |(exfalso;exact absurd hk (by assumption))
   |(exfalso;exact hk (by assumption))
   |(exfalso;exact h0 (by assumption))
   |((refine j0 (j7 ⟨?_,rfl⟩))
     rfl)
end
section
def qx0:List Nat:=[0,1,2,3,4,5,6,7,8,11,43,45,70]
variable {mm:Int}
attribute [local irreducible] TR TC
theorem qc1 (k:Sc.Kind)(p:Pr)(σ:Sc.W)(a:ByteArray × Sc.W)(ha:a=if p.kind=17 then Sc.nameOf σ p.name else (p.name,σ))(tag:Bool)(htag:tag=Sc.Cy σ.env p.kind p.chan p.exprs)(c:Ex × Sc.W)(hc:c=j2 a.2 p.chan)(t:List Ex × Sc.W)(ht:t=Cv j2 c.2 p.targets)(x:List Ex × Sc.W)(hx:x=Sc.Dn tag t.2 p.exprs)(g':List Gu)(l':List Pr)(σg σm:Sc.W)(hk:p.kind≠18)(h0:p.rep.name=ByteArray.empty)(h5:p.kind=5->0<p.exprs.length)(hfit:σ.fit (Sc.Gc p.chan p.targets p.exprs p.rep+1))(hpr:p.procs.length<=10000000)(hl:p.spec.proto.l.length<=1000000000)(hv:∀ v∈p.spec.proto.l,v.items.length<=10000000)
 (hme:σm.env=Sc.Cn σ.env ([]:List ByteArray) ([]:List Sc.Ent))
 (hG:FnE prog (glS mm) 66 [.d (.list 23 (p.guards.map dGu)),.clo (.func 67) [.ptr 900 0] []] (HW k {x.2 with env:=Sc.Cn σ.env ([]:List ByteArray) ([]:List Sc.Ent)}) (fun v H1=>v=.d (.list 23 (g'.map dGu))/\H1=HW k σg))
 (hL:FnE prog (glS mm) 68 [.d (.list 42 (p.l.map dPr)),.clo (.func 33) [.ptr 900 0] []] (HW k σg) (fun v H1=>v=.d (.list 42 (l'.map dPr))/\H1=HW k σm)):
 FnE prog (glS mm) 33 [.ptr 900 0,.d (dPr p)] (HW k σ)
  (fun v H1=>v=.d (dPr (Pr.set2 (.mk p.kind a.1 c.1 t.1 x.1 p.rep p.guards p.l p.procs p.spec) g' l'))/\H1=HW k {σm with env:=σ.env}):=by
 have hroom:=hfit.room;have hdeep:=hfit.deep;unfold Sc.W.room Sc.Gc Sc.Lv at hroom;have ga:Sc.Grow σ a.2 1:=by
  rw[ha];split
  ·exact Sc.Ho σ p.name
  ·exact Sc.Grow.refl _ _
 have gc:Sc.Grow a.2 c.2 (exN p.chan):=by rw[hc];exact Sc.Dj _ _
 have gt:Sc.Grow c.2 t.2 (Hr p.targets):=by rw[ht];exact Sc.Dm _ _
 have gx:Sc.Grow t.2 x.2 (Hr p.exprs):=by rw[hx];exact Sc.Ic _ _ _
 have e1:=ga.ev;have e2:=gc.ev;have e3:=gt.ev;have e4:=gx.ev;have xenv:x.2.env=σ.env:=((gx.env.trans gt.env).trans gc.env).trans ga.env;have gxx:=((ga.trans gc).trans gt).trans gx;have w1:p.kind=17->FnE prog (glS mm) 56 [.ptr 900 0,.d (.str p.name)] (HW k σ) (fun v H1=>v=.d (.str a.1)/\H1=HW k a.2):=fun h17=>by
  rw[ha,Ae h17];exact jk4 (glS mm) k σ p.name (by unfold Sc.W.room;omega)
 have a17:p.kind≠17->a=(p.name,σ):=fun h17=>by rw[ha,Af h17]
 have w2:=jg0 (glS mm) k a.2 (.mk p.kind a.1 p.chan p.targets p.exprs p.rep p.guards p.l p.procs p.spec) h5;rw[show Sc.Cy a.2.env (Pr.mk p.kind a.1 p.chan p.targets p.exprs p.rep p.guards p.l p.procs p.spec).kind (Pr.mk p.kind a.1 p.chan p.targets p.exprs p.rep p.guards p.l p.procs p.spec).chan (Pr.mk p.kind a.1 p.chan p.targets p.exprs p.rep p.guards p.l p.procs p.spec).exprs=tag by rw[ga.env];exact htag.symm,v8]at w2;have w3:=jc5 (glS mm) k p.chan a.2 (by unfold Sc.W.room;omega);rw[<-hc]at w3;have w4:=jk5 (glS mm) k p.targets c.2 (by unfold Sc.W.room;omega);rw[<-ht]at w4;have w5:=jb8 (glS mm) k tag p.exprs t.2 (by have:=n7 p.exprs;omega) fun j hj=>jc5 (glS mm) k p.exprs[j] _ (by
  have h1:=(Sc.Ic tag t.2 (p.exprs.take j)).ev;have h2:=n5 p.exprs j hj;unfold Sc.W.room;omega)
 rw[<-hx]at w5;have w6:=jg1 (glS mm) p.procs hpr;clear ha hc ht hx htag;have w8:=jj1 (glS mm) k {x.2 with env:=σ.env} σm [] [] (.mk p.kind a.1 c.1 t.1 x.1 p.rep p.guards p.l p.procs p.spec) (Pr.set2 (.mk p.kind a.1 c.1 t.1 x.1 p.rep p.guards p.l p.procs p.spec) g' l') rfl (fun u=>by
  have:=hdeep u;dsimp only[Aq];omega) hme (jb7 (glS mm) k _ σg σm (.mk p.kind a.1 c.1 t.1 x.1 p.rep p.guards p.l p.procs p.spec) g' l' hG hL)
 rw[show({x.2 with env:=σ.env}:Sc.W)=x.2 by rw[<-xenv],xenv]at w8;simp only[r9]at w3;clear hG hL hme gxx e1 e2 e3 e4 ga gc gt gx xenv hdeep hroom hfit;rw[v8];by_cases h17:p.kind=17
 ·have w1:=w1 h17;clear a17;cases k
  all_goals dsimp only[HW,ja4,n6]at w1 w2 w3 w4 w5 w8 ⊢
  all_goals (refine j4 func33 ntmps33 results33 fun w M E b0=>?_)
  all_goals (repeat' first|refine Ca 2 ?_;(refine j6 1002 ?_)|refine Ca 3 ?_;(refine j6 1003 ?_)|refine Ca 4 ?_;(refine Cj 1004 ?_)|refine Ca 15 ?_;refine Ch (hc:=w1) ?_|refine Ca 19 ?_;refine Ch (hc:=w2) ?_|refine Ca 5 ?_;(refine Cj 1005 ?_)|refine Ca 23 ?_;refine Ch (hc:=w3) ?_|refine Ca 29 ?_;refine Ch (hc:=w4) ?_|refine Ca 6 ?_;(refine Cj 1006 ?_)|refine Ca 34 ?_;refine Ch (hc:=w5) ?_|refine Ca 47 ?_;(refine Dh 1047 ?_)|refine Ca 86 ?_;refine Ch (hc:=w8) ?_|refine yyp ?_|refine yy ?_|refine yy2 ?_ ?_<;>intro hcmp|refine Cf 61 ?_;refine Cg (hc:=w6) ?_|refine at_nil ?_;refine Ce qx0 ?_|refine Cb fun K hK=>?_|refine Ck 14 ?_;refine j1 [16] qs33_1 ?_|apply_assumption -exfalso -symm)
  all_goals first
   |(exfalso;exact absurd h17 (by assumption))
   |(exfalso;exact absurd h0 (by assumption))
   |(exfalso;exact hk (by assumption))
   |(exfalso;exact h0 (by assumption))
   |((refine j0 (j7 ⟨?_,rfl⟩))
     rfl)
 ·obtain rfl:=a17 h17;clear w1 a17;cases k
  all_goals dsimp only[HW,ja4,n6]at w2 w3 w4 w5 w8 ⊢
  all_goals (refine j4 func33 ntmps33 results33 fun w M E b0=>?_)
  all_goals (repeat' first|refine Ca 2 ?_;(refine j6 1002 ?_)|refine Ca 3 ?_;(refine j6 1003 ?_)|refine Ca 4 ?_;(refine Cj 1004 ?_)|refine Ca 19 ?_;refine Ch (hc:=w2) ?_|refine Ca 5 ?_;(refine Cj 1005 ?_)|refine Ca 23 ?_;refine Ch (hc:=w3) ?_|refine Ca 29 ?_;refine Ch (hc:=w4) ?_|refine Ca 6 ?_;(refine Cj 1006 ?_)|refine Ca 34 ?_;refine Ch (hc:=w5) ?_|refine Ca 47 ?_;(refine Dh 1047 ?_)|refine Ca 86 ?_;refine Ch (hc:=w8) ?_|refine yyp ?_|refine yy ?_|refine yy2 ?_ ?_<;>intro hcmp|refine Cf 61 ?_;refine Cg (hc:=w6) ?_|refine at_nil ?_;refine Ce qx0 ?_|refine Cb fun K hK=>?_|refine Ck 14 ?_;refine j1 [16] qs33_1 ?_|apply_assumption -exfalso -symm)
  all_goals first
   |(exfalso;exact h17 (by assumption))
   |(exfalso;exact absurd h0 (by assumption))
   |(exfalso;exact absurd hk (by assumption))
   |(exfalso;exact hk (by assumption))
   |(exfalso;exact h0 (by assumption))
   |((refine j0 (j7 ⟨?_,rfl⟩))
     rfl)
end
end Go.Proofs.YtdopmfifmgkmoaaGreatDoor
