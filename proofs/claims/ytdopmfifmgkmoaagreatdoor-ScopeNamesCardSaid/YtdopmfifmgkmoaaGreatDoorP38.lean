/- Parts: S32, S33. -/
import Derived.Test.YtdopmfifmgkmoaaGreatDoorP37
set_option linter.all false
set_option maxRecDepth 100000
set_option maxHeartbeats 16000000
namespace Go.Proofs.YtdopmfifmgkmoaaGreatDoor
open Go.RowKit Go.Proofs.Tryz
section
variable {mm:Int}
attribute [local irreducible] TR TC
theorem mw4 (k:Sc.Kind)(p:Pr)(σ:Sc.W)(a:ByteArray × Sc.W)(ha:a=if p.kind=17 then Sc.nameOf σ p.name else (p.name,σ))(tag:Bool)(htag:tag=Sc.taggedB σ.env p.kind p.chan p.exprs)(c:Ex × Sc.W)(hc:c=exprOf a.2 p.chan)(t:List Ex × Sc.W)(ht:t=y4 exprOf c.2 p.targets)(x:List Ex × Sc.W)(hx:x=Sc.outOf tag t.2 p.exprs)(h:Sc.Head × Sc.W)(hh:h=Sc.headOf x.2 p.spec)(b:List Pr)(σb:Sc.W)(hbe:σb.env=Sc.pushE σ.env (p.spec.formals.map (·.name)) h.1.inner)(hown:p.spec.names.length=h.1.own.length)(g':List Gu)(l':List Pr)(σg σm:Sc.W)(hk:p.kind=18)(h0:p.rep.name=ByteArray.empty)(h5:p.kind=5->0<p.exprs.length)(hfit:σ.fit (Sc.pheadN p.chan p.targets p.exprs p.rep+Sc.headN p.spec+1))(hpr:p.procs.length<=10000000)(hl:p.spec.proto.l.length<=1000000000)(hv:∀ v∈p.spec.proto.l,v.items.length<=10000000)
 (hme:σm.env=Sc.pushE σ.env p.spec.names h.1.own) (hB:FnE prog (glS mm) 68 [.d (.list 42 (p.spec.body.map dPr)),.clo (.func 33) [.ptr 900 0] []] (HW k {h.2 with env:=Sc.pushE σ.env (p.spec.formals.map (·.name)) h.1.inner}) (fun v H1=>v=.d (.list 42 (b.map dPr))/\H1=HW k σb))
 (hG:FnE prog (glS mm) 66 [.d (.list 23 (p.guards.map dGu)),.clo (.func 67) [.ptr 900 0] []] (HW k {σb with env:=Sc.pushE σ.env p.spec.names h.1.own}) (fun v H1=>v=.d (.list 23 (g'.map dGu))/\H1=HW k σg))
 (hL:FnE prog (glS mm) 68 [.d (.list 42 (p.l.map dPr)),.clo (.func 33) [.ptr 900 0] []] (HW k σg) (fun v H1=>v=.d (.list 42 (l'.map dPr))/\H1=HW k σm)):
 FnE prog (glS mm) 33 [.ptr 900 0,.d (dPr p)] (HW k σ)
  (fun v H1=>v=.d (dPr (Pr.set2 (.mk p.kind a.1 c.1 t.1 x.1 p.rep p.guards p.l p.procs (p.spec.with' h.1 b)) g' l'))/\H1=HW k {σm with env:=σ.env}):=by
 have hroom:=hfit.room
 have hdeep:=hfit.deep
 unfold Sc.W.room Sc.pheadN Sc.repN at hroom
 have ga:Sc.Grow σ a.2 1:=by
  rw[ha]
  split
  ·exact Sc.grow_name σ p.name
  ·exact Sc.Grow.refl _ _
 have gc:Sc.Grow a.2 c.2 (exN p.chan):=by rw[hc];exact Sc.grow_expr _ _
 have gt:Sc.Grow c.2 t.2 (exsN p.targets):=by rw[ht];exact Sc.grow_exprs2 _ _
 have gx:Sc.Grow t.2 x.2 (exsN p.exprs):=by rw[hx];exact Sc.grow_out _ _ _
 have e1:=ga.ev
 have e2:=gc.ev
 have e3:=gt.ev
 have e4:=gx.ev
 have xenv:x.2.env=σ.env:=((gx.env.trans gt.env).trans gc.env).trans ga.env
 have gxx:=((ga.trans gc).trans gt).trans gx
 have w1:p.kind=17->FnE prog (glS mm) 56 [.ptr 900 0,.d (.str p.name)] (HW k σ) (fun v H1=>v=.d (.str a.1)/\H1=HW k a.2):=fun h17=>by
  rw[ha,if_pos h17]
  exact jj3 (glS mm) k σ p.name (by unfold Sc.W.room;omega)
 have a17:p.kind≠17->a=(p.name,σ):=fun h17=>by rw[ha,if_neg h17]
 have w2:=jf5 (glS mm) k a.2 (.mk p.kind a.1 p.chan p.targets p.exprs p.rep p.guards p.l p.procs p.spec) h5
 rw[show Sc.taggedB a.2.env (Pr.mk p.kind a.1 p.chan p.targets p.exprs p.rep p.guards p.l p.procs p.spec).kind (Pr.mk p.kind a.1 p.chan p.targets p.exprs p.rep p.guards p.l p.procs p.spec).chan (Pr.mk p.kind a.1 p.chan p.targets p.exprs p.rep p.guards p.l p.procs p.spec).exprs=tag by rw[ga.env];exact htag.symm,x5]at w2
 have w3:=jc5 (glS mm) k p.chan a.2 (by unfold Sc.W.room;omega)
 rw[<-hc]at w3
 have w4:=jj4 (glS mm) k p.targets c.2 (by unfold Sc.W.room;omega)
 rw[<-ht]at w4
 have w5:=jb8 (glS mm) k tag p.exprs t.2 (by have:=jd9 p.exprs;omega) fun j hj=>jc5 (glS mm) k p.exprs[j] _ (by
  have h1:=(Sc.grow_out tag t.2 (p.exprs.take j)).ev
  have h2:=ja6 p.exprs j hj
  unfold Sc.W.room
  omega)
 rw[<-hx]at w5
 have w6:=jf6 (glS mm) p.procs hpr
 clear ha hc ht hx htag
 have w7:=mw3 (mm:=mm) k p.spec x.2 σb b (x4 gxx (m:=Sc.headN p.spec+1) (hfit.mono (by unfold Sc.pheadN;omega))) hl hv (by rw[<-hh,xenv];exact hbe) (by rw[<-hh,xenv];exact hB)
 rw[<-hh,xenv]at w7
 have w8:=ji4 (glS mm) k {σb with env:=σ.env} σm p.spec.names h.1.own (.mk p.kind a.1 c.1 t.1 x.1 p.rep p.guards p.l p.procs (p.spec.with' h.1 b)) (Pr.set2 (.mk p.kind a.1 c.1 t.1 x.1 p.rep p.guards p.l p.procs (p.spec.with' h.1 b)) g' l') hown (fun u=>by
  have:=hdeep u
  unfold Sc.headN at this
  dsimp only
  omega) hme (jb7 (glS mm) k _ σg σm (.mk p.kind a.1 c.1 t.1 x.1 p.rep p.guards p.l p.procs (p.spec.with' h.1 b)) g' l' hG hL)
 clear hB hh hown hbe
 simp only[r9]at w3
 clear hG hL hme gxx e1 e2 e3 e4 ga gc gt gx xenv hdeep hroom hfit
 rw[x5]
 by_cases h17:p.kind=17
 ·exfalso;omega
 ·obtain rfl:=a17 h17
  clear w1 a17
  cases k
  all_goals dsimp only[HW,ja2,l9]at w2 w3 w4 w5 w8 w7 ⊢
  all_goals (refine j3 func33 ntmps33 results33 fun w M E b0=>?_)
  all_goals (repeat' first|refine tr_at 2 ?_;(refine k7 1002 ?_)|refine tr_at 3 ?_;(refine k7 1003 ?_)|refine tr_at 4 ?_;(refine j1 1004 ?_)|refine tr_at 19 ?_;refine y_callE (hc:=w2) ?_|refine tr_at 5 ?_;(refine j1 1005 ?_)|refine tr_at 23 ?_;refine y_callE (hc:=w3) ?_|refine tr_at 29 ?_;refine y_callE (hc:=w4) ?_|refine tr_at 6 ?_;(refine j1 1006 ?_)|refine tr_at 34 ?_;refine y_callE (hc:=w5) ?_|refine tr_at 47 ?_;(refine z_lit 1047 ?_)|refine tr_at 78 ?_;refine y_callE (hc:=w7) ?_|refine tr_at 86 ?_;refine y_callE (hc:=w8) ?_|refine yyp ?_|refine yy ?_|refine yy2 ?_ ?_<;>intro hcmp|refine at_call 61 ?_;refine y_call (hc:=w6) ?_|refine at_nil ?_;refine z_nil [0,1,2,3,4,5,6,7,8,11,43,45,70] ?_|refine tc_seq fun K hK=>?_|refine j5 14 ?_;refine j2 [16] (lin [0,4,8,20,24,40,44,13,17,29,37,49,34,54,56,60,67]) ?_|apply_assumption -exfalso -symm)
  all_goals first
   |(exfalso;exact h17 (by assumption))
   |(exfalso;exact absurd h0 (by assumption))
   |(exfalso;exact absurd hk (by assumption))
   |(exfalso;exact hk (by assumption))
   |(exfalso;exact h0 (by assumption))
   |((refine j0 (j7 ⟨?_,rfl⟩))
     rfl)
end
section
def qo5:List Nat:=[0,1,2,3,4,5,6,7,8,11,43,45,70]
variable {mm:Int}
attribute [local irreducible] TR TC
theorem mw5 (k:Sc.Kind)(p:Pr)(σ:Sc.W)(a:ByteArray × Sc.W)(ha:a=if p.kind=17 then Sc.nameOf σ p.name else (p.name,σ))(tag:Bool)(htag:tag=Sc.taggedB σ.env p.kind p.chan p.exprs)(c:Ex × Sc.W)(hc:c=exprOf a.2 p.chan)(t:List Ex × Sc.W)(ht:t=y4 exprOf c.2 p.targets)(x:List Ex × Sc.W)(hx:x=Sc.outOf tag t.2 p.exprs)(g':List Gu)(l':List Pr)(σg σm:Sc.W)(hk:p.kind≠18)(h0:p.rep.name=ByteArray.empty)(h5:p.kind=5->0<p.exprs.length)(hfit:σ.fit (Sc.pheadN p.chan p.targets p.exprs p.rep+1))(hpr:p.procs.length<=10000000)(hl:p.spec.proto.l.length<=1000000000)(hv:∀ v∈p.spec.proto.l,v.items.length<=10000000)
 (hme:σm.env=Sc.pushE σ.env ([]:List ByteArray) ([]:List Sc.Ent))
 (hG:FnE prog (glS mm) 66 [.d (.list 23 (p.guards.map dGu)),.clo (.func 67) [.ptr 900 0] []] (HW k {x.2 with env:=Sc.pushE σ.env ([]:List ByteArray) ([]:List Sc.Ent)}) (fun v H1=>v=.d (.list 23 (g'.map dGu))/\H1=HW k σg))
 (hL:FnE prog (glS mm) 68 [.d (.list 42 (p.l.map dPr)),.clo (.func 33) [.ptr 900 0] []] (HW k σg) (fun v H1=>v=.d (.list 42 (l'.map dPr))/\H1=HW k σm)):
 FnE prog (glS mm) 33 [.ptr 900 0,.d (dPr p)] (HW k σ)
  (fun v H1=>v=.d (dPr (Pr.set2 (.mk p.kind a.1 c.1 t.1 x.1 p.rep p.guards p.l p.procs p.spec) g' l'))/\H1=HW k {σm with env:=σ.env}):=by
 have hroom:=hfit.room
 have hdeep:=hfit.deep
 unfold Sc.W.room Sc.pheadN Sc.repN at hroom
 have ga:Sc.Grow σ a.2 1:=by
  rw[ha]
  split
  ·exact Sc.grow_name σ p.name
  ·exact Sc.Grow.refl _ _
 have gc:Sc.Grow a.2 c.2 (exN p.chan):=by rw[hc];exact Sc.grow_expr _ _
 have gt:Sc.Grow c.2 t.2 (exsN p.targets):=by rw[ht];exact Sc.grow_exprs2 _ _
 have gx:Sc.Grow t.2 x.2 (exsN p.exprs):=by rw[hx];exact Sc.grow_out _ _ _
 have e1:=ga.ev
 have e2:=gc.ev
 have e3:=gt.ev
 have e4:=gx.ev
 have xenv:x.2.env=σ.env:=((gx.env.trans gt.env).trans gc.env).trans ga.env
 have gxx:=((ga.trans gc).trans gt).trans gx
 have w1:p.kind=17->FnE prog (glS mm) 56 [.ptr 900 0,.d (.str p.name)] (HW k σ) (fun v H1=>v=.d (.str a.1)/\H1=HW k a.2):=fun h17=>by
  rw[ha,if_pos h17]
  exact jj3 (glS mm) k σ p.name (by unfold Sc.W.room;omega)
 have a17:p.kind≠17->a=(p.name,σ):=fun h17=>by rw[ha,if_neg h17]
 have w2:=jf5 (glS mm) k a.2 (.mk p.kind a.1 p.chan p.targets p.exprs p.rep p.guards p.l p.procs p.spec) h5
 rw[show Sc.taggedB a.2.env (Pr.mk p.kind a.1 p.chan p.targets p.exprs p.rep p.guards p.l p.procs p.spec).kind (Pr.mk p.kind a.1 p.chan p.targets p.exprs p.rep p.guards p.l p.procs p.spec).chan (Pr.mk p.kind a.1 p.chan p.targets p.exprs p.rep p.guards p.l p.procs p.spec).exprs=tag by rw[ga.env];exact htag.symm,x5]at w2
 have w3:=jc5 (glS mm) k p.chan a.2 (by unfold Sc.W.room;omega)
 rw[<-hc]at w3
 have w4:=jj4 (glS mm) k p.targets c.2 (by unfold Sc.W.room;omega)
 rw[<-ht]at w4
 have w5:=jb8 (glS mm) k tag p.exprs t.2 (by have:=jd9 p.exprs;omega) fun j hj=>jc5 (glS mm) k p.exprs[j] _ (by
  have h1:=(Sc.grow_out tag t.2 (p.exprs.take j)).ev
  have h2:=ja6 p.exprs j hj
  unfold Sc.W.room
  omega)
 rw[<-hx]at w5
 have w6:=jf6 (glS mm) p.procs hpr
 clear ha hc ht hx htag
 have w8:=ji4 (glS mm) k {x.2 with env:=σ.env} σm [] [] (.mk p.kind a.1 c.1 t.1 x.1 p.rep p.guards p.l p.procs p.spec) (Pr.set2 (.mk p.kind a.1 c.1 t.1 x.1 p.rep p.guards p.l p.procs p.spec) g' l') rfl (fun u=>by
  have:=hdeep u
  dsimp only[List.length_nil]
  omega) hme (jb7 (glS mm) k _ σg σm (.mk p.kind a.1 c.1 t.1 x.1 p.rep p.guards p.l p.procs p.spec) g' l' hG hL)
 rw[show({x.2 with env:=σ.env}:Sc.W)=x.2 by rw[<-xenv],xenv]at w8
 simp only[r9]at w3
 clear hG hL hme gxx e1 e2 e3 e4 ga gc gt gx xenv hdeep hroom hfit
 rw[x5]
 by_cases h17:p.kind=17
 ·have w1:=w1 h17
  clear a17
  cases k
  all_goals dsimp only[HW,ja2,l9]at w1 w2 w3 w4 w5 w8 ⊢
  all_goals (refine j3 func33 ntmps33 results33 fun w M E b0=>?_)
  all_goals (repeat' first|refine tr_at 2 ?_;(refine k7 1002 ?_)|refine tr_at 3 ?_;(refine k7 1003 ?_)|refine tr_at 4 ?_;(refine j1 1004 ?_)|refine tr_at 15 ?_;refine y_callE (hc:=w1) ?_|refine tr_at 19 ?_;refine y_callE (hc:=w2) ?_|refine tr_at 5 ?_;(refine j1 1005 ?_)|refine tr_at 23 ?_;refine y_callE (hc:=w3) ?_|refine tr_at 29 ?_;refine y_callE (hc:=w4) ?_|refine tr_at 6 ?_;(refine j1 1006 ?_)|refine tr_at 34 ?_;refine y_callE (hc:=w5) ?_|refine tr_at 47 ?_;(refine z_lit 1047 ?_)|refine tr_at 86 ?_;refine y_callE (hc:=w8) ?_|refine yyp ?_|refine yy ?_|refine yy2 ?_ ?_<;>intro hcmp|refine at_call 61 ?_;refine y_call (hc:=w6) ?_|refine at_nil ?_;refine z_nil qo5 ?_|refine tc_seq fun K hK=>?_|refine j5 14 ?_;refine j2 [16] qs33_1 ?_|apply_assumption -exfalso -symm)
  all_goals first
   |(exfalso;exact absurd h17 (by assumption))
   |(exfalso;exact absurd h0 (by assumption))
   |(exfalso;exact hk (by assumption))
   |(exfalso;exact h0 (by assumption))
   |((refine j0 (j7 ⟨?_,rfl⟩))
     rfl)
 ·obtain rfl:=a17 h17
  clear w1 a17
  cases k
  all_goals dsimp only[HW,ja2,l9]at w2 w3 w4 w5 w8 ⊢
  all_goals (refine j3 func33 ntmps33 results33 fun w M E b0=>?_)
  all_goals (repeat' first|refine tr_at 2 ?_;(refine k7 1002 ?_)|refine tr_at 3 ?_;(refine k7 1003 ?_)|refine tr_at 4 ?_;(refine j1 1004 ?_)|refine tr_at 19 ?_;refine y_callE (hc:=w2) ?_|refine tr_at 5 ?_;(refine j1 1005 ?_)|refine tr_at 23 ?_;refine y_callE (hc:=w3) ?_|refine tr_at 29 ?_;refine y_callE (hc:=w4) ?_|refine tr_at 6 ?_;(refine j1 1006 ?_)|refine tr_at 34 ?_;refine y_callE (hc:=w5) ?_|refine tr_at 47 ?_;(refine z_lit 1047 ?_)|refine tr_at 86 ?_;refine y_callE (hc:=w8) ?_|refine yyp ?_|refine yy ?_|refine yy2 ?_ ?_<;>intro hcmp|refine at_call 61 ?_;refine y_call (hc:=w6) ?_|refine at_nil ?_;refine z_nil qo5 ?_|refine tc_seq fun K hK=>?_|refine j5 14 ?_;refine j2 [16] qs33_1 ?_|apply_assumption -exfalso -symm)
  all_goals first
   |(exfalso;exact h17 (by assumption))
   |(exfalso;exact absurd h0 (by assumption))
   |(exfalso;exact absurd hk (by assumption))
   |(exfalso;exact hk (by assumption))
   |(exfalso;exact h0 (by assumption))
   |((refine j0 (j7 ⟨?_,rfl⟩))
     rfl)
end
end Go.Proofs.YtdopmfifmgkmoaaGreatDoor
