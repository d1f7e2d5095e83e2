/- Parts: S35. -/
import Derived.Test.YtdopmfifmgkmoaaGreatDoorP37
set_option linter.all false
set_option maxRecDepth 100000
set_option maxHeartbeats 16000000
namespace Go.Proofs.YtdopmfifmgkmoaaGreatDoor
open Go.RowKit Go.Proofs.Tryz
section
def mw8:List Nat:=[0,1,2,3,4,5,6,7,8,11,43,45,70]
variable {mm:Int}
attribute [local irreducible] TR TC
theorem kf4 (p:Pr)(σ:Sc.W)(a:ByteArray × Sc.W)(ha:a=if p.kind=17 then Sc.nameOf σ p.name else (p.name,σ))(tag:Bool)(htag:tag=Sc.taggedB σ.env p.kind p.chan p.exprs)(c:Ex × Sc.W)(hc:c=exprOf a.2 p.chan)(t:List Ex × Sc.W)(ht:t=y4 exprOf c.2 p.targets)(x:List Ex × Sc.W)(hx:x=Sc.outOf tag t.2 p.exprs)(r:ByteArray × Sc.W)(hr:r=Sc.freshOf x.2)(rb:Ex × Sc.W)(hrb:rb=exprOf r.2 p.rep.base)(rc:Ex × Sc.W)(hrc:rc=exprOf rb.2 p.rep.count)(g':List Gu)(l':List Pr)(σg σm:Sc.W)(h17:p.kind≠17)(hk:p.kind≠18)(h0:p.rep.name≠ByteArray.empty)(h5:p.kind=5->0<p.exprs.length)(hfit:σ.fit (Sc.pheadN p.chan p.targets p.exprs p.rep+1))(hpr:p.procs.length<=10000000)(hl:p.spec.proto.l.length<=1000000000)(hv:∀ v∈p.spec.proto.l,v.items.length<=10000000)
 (hme:σm.env=Sc.pushE σ.env [p.rep.name] [(⟨r.1,false,[]⟩:Sc.Ent)])
 (hG:FnE prog (glS mm) 66 [.d (.list 23 (p.guards.map dGu)),.clo (.func 67) [.ptr 900 0] []] (HW Sc.Kind.free {rc.2 with env:=Sc.pushE σ.env [p.rep.name] [(⟨r.1,false,[]⟩:Sc.Ent)]}) (fun v H1=>v=.d (.list 23 (g'.map dGu))/\H1=HW Sc.Kind.free σg))
 (hL:FnE prog (glS mm) 68 [.d (.list 42 (p.l.map dPr)),.clo (.func 33) [.ptr 900 0] []] (HW Sc.Kind.free σg) (fun v H1=>v=.d (.list 42 (l'.map dPr))/\H1=HW Sc.Kind.free σm)):
 FnE prog (glS mm) 33 [.ptr 900 0,.d (dPr p)] (HW Sc.Kind.free σ)
  (fun v H1=>v=.d (dPr (Pr.set2 (.mk p.kind a.1 c.1 t.1 x.1 ⟨r.1,rb.1,rc.1⟩ p.guards p.l p.procs p.spec) g' l'))/\H1=HW Sc.Kind.free {σm with env:=σ.env}):=by
 have hroom:=hfit.room
 have hdeep:=hfit.deep
 unfold Sc.W.room Sc.pheadN Sc.repN at hroom
 have ga:Sc.Grow σ a.2 1:=by
  rw[ha]
  split
  ·exact Sc.grow_name σ p.name
  ·exact Sc.Grow.refl _ _
 have gc:Sc.Grow a.2 c.2 (exN p.chan):=by rw[hc];exact Sc.grow_expr _ _
 have gt:Sc.Grow c.2 t.2 (exsN p.targets):=by rw[ht];exact Sc.grow_exprs2 _ _
 have gx:Sc.Grow t.2 x.2 (exsN p.exprs):=by rw[hx];exact Sc.grow_out _ _ _
 have e1:=ga.ev
 have e2:=gc.ev
 have e3:=gt.ev
 have e4:=gx.ev
 have xenv:x.2.env=σ.env:=((gx.env.trans gt.env).trans gc.env).trans ga.env
 have gxx:=((ga.trans gc).trans gt).trans gx
 have w1:p.kind=17->FnE prog (glS mm) 56 [.ptr 900 0,.d (.str p.name)] (HW Sc.Kind.free σ) (fun v H1=>v=.d (.str a.1)/\H1=HW Sc.Kind.free a.2):=fun h17=>by
  rw[ha,if_pos h17]
  exact jj3 (glS mm) Sc.Kind.free σ p.name (by unfold Sc.W.room;omega)
 have a17:p.kind≠17->a=(p.name,σ):=fun h17=>by rw[ha,if_neg h17]
 have w2:=jf5 (glS mm) Sc.Kind.free a.2 (.mk p.kind a.1 p.chan p.targets p.exprs p.rep p.guards p.l p.procs p.spec) h5
 rw[show Sc.taggedB a.2.env (Pr.mk p.kind a.1 p.chan p.targets p.exprs p.rep p.guards p.l p.procs p.spec).kind (Pr.mk p.kind a.1 p.chan p.targets p.exprs p.rep p.guards p.l p.procs p.spec).chan (Pr.mk p.kind a.1 p.chan p.targets p.exprs p.rep p.guards p.l p.procs p.spec).exprs=tag by rw[ga.env];exact htag.symm,x5]at w2
 have w3:=jc5 (glS mm) Sc.Kind.free p.chan a.2 (by unfold Sc.W.room;omega)
 rw[<-hc]at w3
 have w4:=jj4 (glS mm) Sc.Kind.free p.targets c.2 (by unfold Sc.W.room;omega)
 rw[<-ht]at w4
 have w5:=jb8 (glS mm) Sc.Kind.free tag p.exprs t.2 (by have:=jd9 p.exprs;omega) fun j hj=>jc5 (glS mm) Sc.Kind.free p.exprs[j] _ (by
  have h1:=(Sc.grow_out tag t.2 (p.exprs.take j)).ev
  have h2:=ja6 p.exprs j hj
  unfold Sc.W.room
  omega)
 rw[<-hx]at w5
 have w6:=jf6 (glS mm) p.procs hpr
 clear ha hc ht hx htag
 have fx:=x4 gxx (m:=2+exN p.rep.base+exN p.rep.count) (hfit.mono (by unfold Sc.pheadN Sc.repN;omega))
 have w9:=ji5 (mm:=mm) Sc.Kind.free x.2 fx.tk (fx.mono (m:=1) (by omega)).num
 rw[<-hr]at w9
 have gr:Sc.Grow x.2 r.2 1:=by rw[hr];exact Sc.grow_fresh _
 have fr:=x4 gr (m:=1+exN p.rep.base+exN p.rep.count) (fx.mono (by omega))
 have w10:=jc5 (glS mm) Sc.Kind.free p.rep.base r.2 (fr.mono (m:=exN p.rep.base) (by omega)).room
 rw[<-hrb]at w10
 have grb:Sc.Grow r.2 rb.2 (exN p.rep.base):=by rw[hrb];exact Sc.grow_expr _ _
 have frb:=x4 grb (m:=1+exN p.rep.count) (fr.mono (by omega))
 have w11:=jc5 (glS mm) Sc.Kind.free p.rep.count rb.2 (frb.mono (m:=exN p.rep.count) (by omega)).room
 rw[<-hrc]at w11
 have grc:Sc.Grow rb.2 rc.2 (exN p.rep.count):=by rw[hrc];exact Sc.grow_expr _ _
 have rcenv:rc.2.env=σ.env:=((grc.env.trans grb.env).trans gr.env).trans xenv
 have w8:=ji4 (glS mm) Sc.Kind.free {rc.2 with env:=σ.env} σm [p.rep.name] [⟨r.1,false,[]⟩] (.mk p.kind a.1 c.1 t.1 x.1 ⟨r.1,rb.1,rc.1⟩ p.guards p.l p.procs p.spec) (Pr.set2 (.mk p.kind a.1 c.1 t.1 x.1 ⟨r.1,rb.1,rc.1⟩ p.guards p.l p.procs p.spec) g' l') rfl (fun u=>by
  have:=hdeep u
  unfold Sc.pheadN Sc.repN at this
  simp only[List.length_cons,List.length_nil]
  omega) hme (jb7 (glS mm) Sc.Kind.free _ σg σm (.mk p.kind a.1 c.1 t.1 x.1 ⟨r.1,rb.1,rc.1⟩ p.guards p.l p.procs p.spec) g' l' hG hL)
 rw[show({rc.2 with env:=σ.env}:Sc.W)=rc.2 by rw[<-rcenv],rcenv]at w8
 simp only[r9]at w10 w11
 clear hr hrb hrc gr grb grc fx fr frb rcenv
 simp only[r9]at w3
 clear hG hL hme gxx e1 e2 e3 e4 ga gc gt gx xenv hdeep hroom hfit
 rw[x5]
 skip
 ·obtain rfl:=a17 h17
  clear w1 a17
  all_goals dsimp only[HW,ja2,l9]at w2 w3 w4 w5 w8 w9 w10 w11 ⊢
  all_goals (refine j3 func33 ntmps33 results33 fun w M E b0=>?_)
  all_goals (repeat' first|refine tr_at 2 ?_;(refine k7 1002 ?_)|refine tr_at 3 ?_;(refine k7 1003 ?_)|refine tr_at 4 ?_;(refine j1 1004 ?_)|refine tr_at 19 ?_;refine y_callE (hc:=w2) ?_|refine tr_at 5 ?_;(refine j1 1005 ?_)|refine tr_at 23 ?_;refine y_callE (hc:=w3) ?_|refine tr_at 29 ?_;refine y_callE (hc:=w4) ?_|refine tr_at 6 ?_;(refine j1 1006 ?_)|refine tr_at 34 ?_;refine y_callE (hc:=w5) ?_|refine tr_at 47 ?_;(refine z_lit 1047 ?_)|refine tr_at 49 ?_;refine y_callE (hc:=w9) ?_|refine tr_at 51 ?_;(refine z_lit 1051 ?_)|refine tr_at 60 ?_;refine y_callE (hc:=w10) ?_|refine tr_at 65 ?_;refine y_callE (hc:=w11) ?_|refine tr_at 66 ?_;refine z_p w_buildn ?_|refine tr_at 86 ?_;refine y_callE (hc:=w8) ?_|refine yyp ?_|refine yy ?_|refine yy2 ?_ ?_<;>intro hcmp|refine at_call 61 ?_;refine y_call (hc:=w6) ?_|refine at_nil ?_;refine z_nil mw8 ?_|refine ja1 ?_ ?_|refine ju5 ?_ ?_|(apply tc_mid (x:=.region 14 _ _);focus ((refine j5 14 ?_;refine j2 [8,13,16] (linT [0,4,8,20,24,40,44,17,29] (.or (linT [14] (.or (lin [35,37,49,55,56,60,67]) (.or (linT [38] (.mid 12 (lin [35,55,56,60,67]) 8 (lin [49,55,56,60,67]))) (linT [50] (.mid 9 (lin [35,55,56,60,67]) 8 (lin [37,55,56,60,67])))))) (.or (linT [35,37,49] (.mid 3 (lin [55,56,60,67]) 13 (lin [13,56,60,67]))) (.or (linT [38] (.or (linT [14] (.mid 12 (lin [35,55,56,60,67]) 8 (lin [49,55,56,60,67]))) (.or (linT [35,49] (.mid 3 (lin [55,56,60,67]) 13 (lin [13,56,60,67]))) (linT [50] (.mid 3 (lin [35,55,56,60,67]) 8 (.mid 3 (lin [55,56,60,67]) 13 (lin [13,56,60,67]))))))) (linT [50] (.or (linT [14] (.mid 9 (lin [35,55,56,60,67]) 8 (lin [37,55,56,60,67]))) (.or (linT [35,37] (.mid 3 (lin [55,56,60,67]) 13 (lin [13,56,60,67]))) (linT [38] (.mid 3 (lin [35,55,56,60,67]) 8 (.mid 3 (lin [55,56,60,67]) 13 (lin [13,56,60,67]))))))))))) ?_);(repeat' (first|refine tr_at 2 ?_;(refine k7 1002 ?_)));(all_goals first|exact Wk.refl _ _|exact v7);done))|refine tc_seq fun K hK=>?_|refine j5 14 ?_;refine j2 [8,13,16] (linT [0,4,8,20,24,40,44,17,29] (.or (linT [14] (.or (lin [35,37,49,55,56,60,67]) (.or (linT [38] (.mid 12 (lin [35,55,56,60,67]) 8 (lin [49,55,56,60,67]))) (linT [50] (.mid 9 (lin [35,55,56,60,67]) 8 (lin [37,55,56,60,67])))))) (.or (linT [35,37,49] (.mid 3 (lin [55,56,60,67]) 13 (lin [13,56,60,67]))) (.or (linT [38] (.or (linT [14] (.mid 12 (lin [35,55,56,60,67]) 8 (lin [49,55,56,60,67]))) (.or (linT [35,49] (.mid 3 (lin [55,56,60,67]) 13 (lin [13,56,60,67]))) (linT [50] (.mid 3 (lin [35,55,56,60,67]) 8 (.mid 3 (lin [55,56,60,67]) 13 (lin [13,56,60,67]))))))) (linT [50] (.or (linT [14] (.mid 9 (lin [35,55,56,60,67]) 8 (lin [37,55,56,60,67]))) (.or (linT [35,37] (.mid 3 (lin [55,56,60,67]) 13 (lin [13,56,60,67]))) (linT [38] (.mid 3 (lin [35,55,56,60,67]) 8 (.mid 3 (lin [55,56,60,67]) 13 (lin [13,56,60,67]))))))))))) ?_|apply_assumption -exfalso -symm)
  all_goals first
   |(exfalso;exact h17 (by assumption))
   |(exfalso;exact absurd h0 (by assumption))
   |(exfalso;exact absurd hk (by assumption))
   |(exfalso;exact hk (by assumption))
   |(exfalso;exact h0 (by assumption))
   |((refine j0 (j7 ⟨?_,rfl⟩))
     rfl)
theorem ka3 (cn:List ByteArray)(p:Pr)(σ:Sc.W)(a:ByteArray × Sc.W)(ha:a=if p.kind=17 then Sc.nameOf σ p.name else (p.name,σ))(tag:Bool)(htag:tag=Sc.taggedB σ.env p.kind p.chan p.exprs)(c:Ex × Sc.W)(hc:c=exprOf a.2 p.chan)(t:List Ex × Sc.W)(ht:t=y4 exprOf c.2 p.targets)(x:List Ex × Sc.W)(hx:x=Sc.outOf tag t.2 p.exprs)(r:ByteArray × Sc.W)(hr:r=Sc.freshOf x.2)(rb:Ex × Sc.W)(hrb:rb=exprOf r.2 p.rep.base)(rc:Ex × Sc.W)(hrc:rc=exprOf rb.2 p.rep.count)(g':List Gu)(l':List Pr)(σg σm:Sc.W)(h17:p.kind≠17)(hk:p.kind≠18)(h0:p.rep.name≠ByteArray.empty)(h5:p.kind=5->0<p.exprs.length)(hfit:σ.fit (Sc.pheadN p.chan p.targets p.exprs p.rep+1))(hpr:p.procs.length<=10000000)(hl:p.spec.proto.l.length<=1000000000)(hv:∀ v∈p.spec.proto.l,v.items.length<=10000000)
 (hme:σm.env=Sc.pushE σ.env [p.rep.name] [(⟨r.1,false,[]⟩:Sc.Ent)])
 (hG:FnE prog (glS mm) 66 [.d (.list 23 (p.guards.map dGu)),.clo (.func 67) [.ptr 900 0] []] (HW (Sc.Kind.check cn) {rc.2 with env:=Sc.pushE σ.env [p.rep.name] [(⟨r.1,false,[]⟩:Sc.Ent)]}) (fun v H1=>v=.d (.list 23 (g'.map dGu))/\H1=HW (Sc.Kind.check cn) σg))
 (hL:FnE prog (glS mm) 68 [.d (.list 42 (p.l.map dPr)),.clo (.func 33) [.ptr 900 0] []] (HW (Sc.Kind.check cn) σg) (fun v H1=>v=.d (.list 42 (l'.map dPr))/\H1=HW (Sc.Kind.check cn) σm)):
 FnE prog (glS mm) 33 [.ptr 900 0,.d (dPr p)] (HW (Sc.Kind.check cn) σ)
  (fun v H1=>v=.d (dPr (Pr.set2 (.mk p.kind a.1 c.1 t.1 x.1 ⟨r.1,rb.1,rc.1⟩ p.guards p.l p.procs p.spec) g' l'))/\H1=HW (Sc.Kind.check cn) {σm with env:=σ.env}):=by
 have hroom:=hfit.room
 have hdeep:=hfit.deep
 unfold Sc.W.room Sc.pheadN Sc.repN at hroom
 have ga:Sc.Grow σ a.2 1:=by
  rw[ha]
  split
  ·exact Sc.grow_name σ p.name
  ·exact Sc.Grow.refl _ _
 have gc:Sc.Grow a.2 c.2 (exN p.chan):=by rw[hc];exact Sc.grow_expr _ _
 have gt:Sc.Grow c.2 t.2 (exsN p.targets):=by rw[ht];exact Sc.grow_exprs2 _ _
 have gx:Sc.Grow t.2 x.2 (exsN p.exprs):=by rw[hx];exact Sc.grow_out _ _ _
 have e1:=ga.ev
 have e2:=gc.ev
 have e3:=gt.ev
 have e4:=gx.ev
 have xenv:x.2.env=σ.env:=((gx.env.trans gt.env).trans gc.env).trans ga.env
 have gxx:=((ga.trans gc).trans gt).trans gx
 have w1:p.kind=17->FnE prog (glS mm) 56 [.ptr 900 0,.d (.str p.name)] (HW (Sc.Kind.check cn) σ) (fun v H1=>v=.d (.str a.1)/\H1=HW (Sc.Kind.check cn) a.2):=fun h17=>by
  rw[ha,if_pos h17]
  exact jj3 (glS mm) (Sc.Kind.check cn) σ p.name (by unfold Sc.W.room;omega)
 have a17:p.kind≠17->a=(p.name,σ):=fun h17=>by rw[ha,if_neg h17]
 have w2:=jf5 (glS mm) (Sc.Kind.check cn) a.2 (.mk p.kind a.1 p.chan p.targets p.exprs p.rep p.guards p.l p.procs p.spec) h5
 rw[show Sc.taggedB a.2.env (Pr.mk p.kind a.1 p.chan p.targets p.exprs p.rep p.guards p.l p.procs p.spec).kind (Pr.mk p.kind a.1 p.chan p.targets p.exprs p.rep p.guards p.l p.procs p.spec).chan (Pr.mk p.kind a.1 p.chan p.targets p.exprs p.rep p.guards p.l p.procs p.spec).exprs=tag by rw[ga.env];exact htag.symm,x5]at w2
 have w3:=jc5 (glS mm) (Sc.Kind.check cn) p.chan a.2 (by unfold Sc.W.room;omega)
 rw[<-hc]at w3
 have w4:=jj4 (glS mm) (Sc.Kind.check cn) p.targets c.2 (by unfold Sc.W.room;omega)
 rw[<-ht]at w4
 have w5:=jb8 (glS mm) (Sc.Kind.check cn) tag p.exprs t.2 (by have:=jd9 p.exprs;omega) fun j hj=>jc5 (glS mm) (Sc.Kind.check cn) p.exprs[j] _ (by
  have h1:=(Sc.grow_out tag t.2 (p.exprs.take j)).ev
  have h2:=ja6 p.exprs j hj
  unfold Sc.W.room
  omega)
 rw[<-hx]at w5
 have w6:=jf6 (glS mm) p.procs hpr
 clear ha hc ht hx htag
 have fx:=x4 gxx (m:=2+exN p.rep.base+exN p.rep.count) (hfit.mono (by unfold Sc.pheadN Sc.repN;omega))
 have w9:=ji5 (mm:=mm) (Sc.Kind.check cn) x.2 fx.tk (fx.mono (m:=1) (by omega)).num
 rw[<-hr]at w9
 have gr:Sc.Grow x.2 r.2 1:=by rw[hr];exact Sc.grow_fresh _
 have fr:=x4 gr (m:=1+exN p.rep.base+exN p.rep.count) (fx.mono (by omega))
 have w10:=jc5 (glS mm) (Sc.Kind.check cn) p.rep.base r.2 (fr.mono (m:=exN p.rep.base) (by omega)).room
 rw[<-hrb]at w10
 have grb:Sc.Grow r.2 rb.2 (exN p.rep.base):=by rw[hrb];exact Sc.grow_expr _ _
 have frb:=x4 grb (m:=1+exN p.rep.count) (fr.mono (by omega))
 have w11:=jc5 (glS mm) (Sc.Kind.check cn) p.rep.count rb.2 (frb.mono (m:=exN p.rep.count) (by omega)).room
 rw[<-hrc]at w11
 have grc:Sc.Grow rb.2 rc.2 (exN p.rep.count):=by rw[hrc];exact Sc.grow_expr _ _
 have rcenv:rc.2.env=σ.env:=((grc.env.trans grb.env).trans gr.env).trans xenv
 have w8:=ji4 (glS mm) (Sc.Kind.check cn) {rc.2 with env:=σ.env} σm [p.rep.name] [⟨r.1,false,[]⟩] (.mk p.kind a.1 c.1 t.1 x.1 ⟨r.1,rb.1,rc.1⟩ p.guards p.l p.procs p.spec) (Pr.set2 (.mk p.kind a.1 c.1 t.1 x.1 ⟨r.1,rb.1,rc.1⟩ p.guards p.l p.procs p.spec) g' l') rfl (fun u=>by
  have:=hdeep u
  unfold Sc.pheadN Sc.repN at this
  simp only[List.length_cons,List.length_nil]
  omega) hme (jb7 (glS mm) (Sc.Kind.check cn) _ σg σm (.mk p.kind a.1 c.1 t.1 x.1 ⟨r.1,rb.1,rc.1⟩ p.guards p.l p.procs p.spec) g' l' hG hL)
 rw[show({rc.2 with env:=σ.env}:Sc.W)=rc.2 by rw[<-rcenv],rcenv]at w8
 simp only[r9]at w10 w11
 clear hr hrb hrc gr grb grc fx fr frb rcenv
 simp only[r9]at w3
 clear hG hL hme gxx e1 e2 e3 e4 ga gc gt gx xenv hdeep hroom hfit
 rw[x5]
 skip
 ·obtain rfl:=a17 h17
  clear w1 a17
  all_goals dsimp only[HW,ja2,l9]at w2 w3 w4 w5 w8 w9 w10 w11 ⊢
  all_goals (refine j3 func33 ntmps33 results33 fun w M E b0=>?_)
  all_goals (repeat' first|refine tr_at 2 ?_;(refine k7 1002 ?_)|refine tr_at 3 ?_;(refine k7 1003 ?_)|refine tr_at 4 ?_;(refine j1 1004 ?_)|refine tr_at 19 ?_;refine y_callE (hc:=w2) ?_|refine tr_at 5 ?_;(refine j1 1005 ?_)|refine tr_at 23 ?_;refine y_callE (hc:=w3) ?_|refine tr_at 29 ?_;refine y_callE (hc:=w4) ?_|refine tr_at 6 ?_;(refine j1 1006 ?_)|refine tr_at 34 ?_;refine y_callE (hc:=w5) ?_|refine tr_at 47 ?_;(refine z_lit 1047 ?_)|refine tr_at 49 ?_;refine y_callE (hc:=w9) ?_|refine tr_at 51 ?_;(refine z_lit 1051 ?_)|refine tr_at 60 ?_;refine y_callE (hc:=w10) ?_|refine tr_at 65 ?_;refine y_callE (hc:=w11) ?_|refine tr_at 66 ?_;refine z_p w_buildn ?_|refine tr_at 86 ?_;refine y_callE (hc:=w8) ?_|refine yyp ?_|refine yy ?_|refine yy2 ?_ ?_<;>intro hcmp|refine at_call 61 ?_;refine y_call (hc:=w6) ?_|refine at_nil ?_;refine z_nil mw8 ?_|refine ja1 ?_ ?_|refine ju5 ?_ ?_|(apply tc_mid (x:=.region 14 _ _);focus ((refine j5 14 ?_;refine j2 [8,13,16] (linT [0,4,8,20,24,40,44,17,29] (.or (linT [14] (.or (lin [35,37,49,55,56,60,67]) (.or (linT [38] (.mid 12 (lin [35,55,56,60,67]) 8 (lin [49,55,56,60,67]))) (linT [50] (.mid 9 (lin [35,55,56,60,67]) 8 (lin [37,55,56,60,67])))))) (.or (linT [35,37,49] (.mid 3 (lin [55,56,60,67]) 13 (lin [13,56,60,67]))) (.or (linT [38] (.or (linT [14] (.mid 12 (lin [35,55,56,60,67]) 8 (lin [49,55,56,60,67]))) (.or (linT [35,49] (.mid 3 (lin [55,56,60,67]) 13 (lin [13,56,60,67]))) (linT [50] (.mid 3 (lin [35,55,56,60,67]) 8 (.mid 3 (lin [55,56,60,67]) 13 (lin [13,56,60,67]))))))) (linT [50] (.or (linT [14] (.mid 9 (lin [35,55,56,60,67]) 8 (lin [37,55,56,60,67]))) (.or (linT [35,37] (.mid 3 (lin [55,56,60,67]) 13 (lin [13,56,60,67]))) (linT [38] (.mid 3 (lin [35,55,56,60,67]) 8 (.mid 3 (lin [55,56,60,67]) 13 (lin [13,56,60,67]))))))))))) ?_);(repeat' (first|refine tr_at 2 ?_;(refine k7 1002 ?_)));(all_goals first|exact Wk.refl _ _|exact v7);done))|refine tc_seq fun K hK=>?_|refine j5 14 ?_;refine j2 [8,13,16] (linT [0,4,8,20,24,40,44,17,29] (.or (linT [14] (.or (lin [35,37,49,55,56,60,67]) (.or (linT [38] (.mid 12 (lin [35,55,56,60,67]) 8 (lin [49,55,56,60,67]))) (linT [50] (.mid 9 (lin [35,55,56,60,67]) 8 (lin [37,55,56,60,67])))))) (.or (linT [35,37,49] (.mid 3 (lin [55,56,60,67]) 13 (lin [13,56,60,67]))) (.or (linT [38] (.or (linT [14] (.mid 12 (lin [35,55,56,60,67]) 8 (lin [49,55,56,60,67]))) (.or (linT [35,49] (.mid 3 (lin [55,56,60,67]) 13 (lin [13,56,60,67]))) (linT [50] (.mid 3 (lin [35,55,56,60,67]) 8 (.mid 3 (lin [55,56,60,67]) 13 (lin [13,56,60,67]))))))) (linT [50] (.or (linT [14] (.mid 9 (lin [35,55,56,60,67]) 8 (lin [37,55,56,60,67]))) (.or (linT [35,37] (.mid 3 (lin [55,56,60,67]) 13 (lin [13,56,60,67]))) (linT [38] (.mid 3 (lin [35,55,56,60,67]) 8 (.mid 3 (lin [55,56,60,67]) 13 (lin [13,56,60,67]))))))))))) ?_|apply_assumption -exfalso -symm)
  all_goals first
   |(exfalso;exact h17 (by assumption))
   |(exfalso;exact absurd h0 (by assumption))
   |(exfalso;exact absurd hk (by assumption))
   |(exfalso;exact hk (by assumption))
   |(exfalso;exact h0 (by assumption))
   |((refine j0 (j7 ⟨?_,rfl⟩))
     rfl)
theorem kf5 (p:Pr)(σ:Sc.W)(a:ByteArray × Sc.W)(ha:a=if p.kind=17 then Sc.nameOf σ p.name else (p.name,σ))(tag:Bool)(htag:tag=Sc.taggedB σ.env p.kind p.chan p.exprs)(c:Ex × Sc.W)(hc:c=exprOf a.2 p.chan)(t:List Ex × Sc.W)(ht:t=y4 exprOf c.2 p.targets)(x:List Ex × Sc.W)(hx:x=Sc.outOf tag t.2 p.exprs)(r:ByteArray × Sc.W)(hr:r=Sc.freshOf x.2)(rb:Ex × Sc.W)(hrb:rb=exprOf r.2 p.rep.base)(rc:Ex × Sc.W)(hrc:rc=exprOf rb.2 p.rep.count)(g':List Gu)(l':List Pr)(σg σm:Sc.W)(h17:p.kind≠17)(hk:p.kind≠18)(h0:p.rep.name≠ByteArray.empty)(h5:p.kind=5->0<p.exprs.length)(hfit:σ.fit (Sc.pheadN p.chan p.targets p.exprs p.rep+1))(hpr:p.procs.length<=10000000)(hl:p.spec.proto.l.length<=1000000000)(hv:∀ v∈p.spec.proto.l,v.items.length<=10000000)
 (hme:σm.env=Sc.pushE σ.env [p.rep.name] [(⟨r.1,false,[]⟩:Sc.Ent)])
 (hG:FnE prog (glS mm) 66 [.d (.list 23 (p.guards.map dGu)),.clo (.func 67) [.ptr 900 0] []] (HW Sc.Kind.none {rc.2 with env:=Sc.pushE σ.env [p.rep.name] [(⟨r.1,false,[]⟩:Sc.Ent)]}) (fun v H1=>v=.d (.list 23 (g'.map dGu))/\H1=HW Sc.Kind.none σg))
 (hL:FnE prog (glS mm) 68 [.d (.list 42 (p.l.map dPr)),.clo (.func 33) [.ptr 900 0] []] (HW Sc.Kind.none σg) (fun v H1=>v=.d (.list 42 (l'.map dPr))/\H1=HW Sc.Kind.none σm)):
 FnE prog (glS mm) 33 [.ptr 900 0,.d (dPr p)] (HW Sc.Kind.none σ)
  (fun v H1=>v=.d (dPr (Pr.set2 (.mk p.kind a.1 c.1 t.1 x.1 ⟨r.1,rb.1,rc.1⟩ p.guards p.l p.procs p.spec) g' l'))/\H1=HW Sc.Kind.none {σm with env:=σ.env}):=by
 have hroom:=hfit.room
 have hdeep:=hfit.deep
 unfold Sc.W.room Sc.pheadN Sc.repN at hroom
 have ga:Sc.Grow σ a.2 1:=by
  rw[ha]
  split
  ·exact Sc.grow_name σ p.name
  ·exact Sc.Grow.refl _ _
 have gc:Sc.Grow a.2 c.2 (exN p.chan):=by rw[hc];exact Sc.grow_expr _ _
 have gt:Sc.Grow c.2 t.2 (exsN p.targets):=by rw[ht];exact Sc.grow_exprs2 _ _
 have gx:Sc.Grow t.2 x.2 (exsN p.exprs):=by rw[hx];exact Sc.grow_out _ _ _
 have e1:=ga.ev
 have e2:=gc.ev
 have e3:=gt.ev
 have e4:=gx.ev
 have xenv:x.2.env=σ.env:=((gx.env.trans gt.env).trans gc.env).trans ga.env
 have gxx:=((ga.trans gc).trans gt).trans gx
 have w1:p.kind=17->FnE prog (glS mm) 56 [.ptr 900 0,.d (.str p.name)] (HW Sc.Kind.none σ) (fun v H1=>v=.d (.str a.1)/\H1=HW Sc.Kind.none a.2):=fun h17=>by
  rw[ha,if_pos h17]
  exact jj3 (glS mm) Sc.Kind.none σ p.name (by unfold Sc.W.room;omega)
 have a17:p.kind≠17->a=(p.name,σ):=fun h17=>by rw[ha,if_neg h17]
 have w2:=jf5 (glS mm) Sc.Kind.none a.2 (.mk p.kind a.1 p.chan p.targets p.exprs p.rep p.guards p.l p.procs p.spec) h5
 rw[show Sc.taggedB a.2.env (Pr.mk p.kind a.1 p.chan p.targets p.exprs p.rep p.guards p.l p.procs p.spec).kind (Pr.mk p.kind a.1 p.chan p.targets p.exprs p.rep p.guards p.l p.procs p.spec).chan (Pr.mk p.kind a.1 p.chan p.targets p.exprs p.rep p.guards p.l p.procs p.spec).exprs=tag by rw[ga.env];exact htag.symm,x5]at w2
 have w3:=jc5 (glS mm) Sc.Kind.none p.chan a.2 (by unfold Sc.W.room;omega)
 rw[<-hc]at w3
 have w4:=jj4 (glS mm) Sc.Kind.none p.targets c.2 (by unfold Sc.W.room;omega)
 rw[<-ht]at w4
 have w5:=jb8 (glS mm) Sc.Kind.none tag p.exprs t.2 (by have:=jd9 p.exprs;omega) fun j hj=>jc5 (glS mm) Sc.Kind.none p.exprs[j] _ (by
  have h1:=(Sc.grow_out tag t.2 (p.exprs.take j)).ev
  have h2:=ja6 p.exprs j hj
  unfold Sc.W.room
  omega)
 rw[<-hx]at w5
 have w6:=jf6 (glS mm) p.procs hpr
 clear ha hc ht hx htag
 have fx:=x4 gxx (m:=2+exN p.rep.base+exN p.rep.count) (hfit.mono (by unfold Sc.pheadN Sc.repN;omega))
 have w9:=ji5 (mm:=mm) Sc.Kind.none x.2 fx.tk (fx.mono (m:=1) (by omega)).num
 rw[<-hr]at w9
 have gr:Sc.Grow x.2 r.2 1:=by rw[hr];exact Sc.grow_fresh _
 have fr:=x4 gr (m:=1+exN p.rep.base+exN p.rep.count) (fx.mono (by omega))
 have w10:=jc5 (glS mm) Sc.Kind.none p.rep.base r.2 (fr.mono (m:=exN p.rep.base) (by omega)).room
 rw[<-hrb]at w10
 have grb:Sc.Grow r.2 rb.2 (exN p.rep.base):=by rw[hrb];exact Sc.grow_expr _ _
 have frb:=x4 grb (m:=1+exN p.rep.count) (fr.mono (by omega))
 have w11:=jc5 (glS mm) Sc.Kind.none p.rep.count rb.2 (frb.mono (m:=exN p.rep.count) (by omega)).room
 rw[<-hrc]at w11
 have grc:Sc.Grow rb.2 rc.2 (exN p.rep.count):=by rw[hrc];exact Sc.grow_expr _ _
 have rcenv:rc.2.env=σ.env:=((grc.env.trans grb.env).trans gr.env).trans xenv
 have w8:=ji4 (glS mm) Sc.Kind.none {rc.2 with env:=σ.env} σm [p.rep.name] [⟨r.1,false,[]⟩] (.mk p.kind a.1 c.1 t.1 x.1 ⟨r.1,rb.1,rc.1⟩ p.guards p.l p.procs p.spec) (Pr.set2 (.mk p.kind a.1 c.1 t.1 x.1 ⟨r.1,rb.1,rc.1⟩ p.guards p.l p.procs p.spec) g' l') rfl (fun u=>by
  have:=hdeep u
  unfold Sc.pheadN Sc.repN at this
  simp only[List.length_cons,List.length_nil]
  omega) hme (jb7 (glS mm) Sc.Kind.none _ σg σm (.mk p.kind a.1 c.1 t.1 x.1 ⟨r.1,rb.1,rc.1⟩ p.guards p.l p.procs p.spec) g' l' hG hL)
 rw[show({rc.2 with env:=σ.env}:Sc.W)=rc.2 by rw[<-rcenv],rcenv]at w8
 simp only[r9]at w10 w11
 clear hr hrb hrc gr grb grc fx fr frb rcenv
 simp only[r9]at w3
 clear hG hL hme gxx e1 e2 e3 e4 ga gc gt gx xenv hdeep hroom hfit
 rw[x5]
 skip
 ·obtain rfl:=a17 h17
  clear w1 a17
  all_goals dsimp only[HW,ja2,l9]at w2 w3 w4 w5 w8 w9 w10 w11 ⊢
  all_goals (refine j3 func33 ntmps33 results33 fun w M E b0=>?_)
  all_goals (repeat' first|refine tr_at 2 ?_;(refine k7 1002 ?_)|refine tr_at 3 ?_;(refine k7 1003 ?_)|refine tr_at 4 ?_;(refine j1 1004 ?_)|refine tr_at 19 ?_;refine y_callE (hc:=w2) ?_|refine tr_at 5 ?_;(refine j1 1005 ?_)|refine tr_at 23 ?_;refine y_callE (hc:=w3) ?_|refine tr_at 29 ?_;refine y_callE (hc:=w4) ?_|refine tr_at 6 ?_;(refine j1 1006 ?_)|refine tr_at 34 ?_;refine y_callE (hc:=w5) ?_|refine tr_at 47 ?_;(refine z_lit 1047 ?_)|refine tr_at 49 ?_;refine y_callE (hc:=w9) ?_|refine tr_at 51 ?_;(refine z_lit 1051 ?_)|refine tr_at 60 ?_;refine y_callE (hc:=w10) ?_|refine tr_at 65 ?_;refine y_callE (hc:=w11) ?_|refine tr_at 66 ?_;refine z_p w_buildn ?_|refine tr_at 86 ?_;refine y_callE (hc:=w8) ?_|refine yyp ?_|refine yy ?_|refine yy2 ?_ ?_<;>intro hcmp|refine at_call 61 ?_;refine y_call (hc:=w6) ?_|refine at_nil ?_;refine z_nil mw8 ?_|refine ja1 ?_ ?_|refine ju5 ?_ ?_|(apply tc_mid (x:=.region 14 _ _);focus ((refine j5 14 ?_;refine j2 [8,13,16] (linT [0,4,8,20,24,40,44,17,29] (.or (linT [14] (.or (lin [35,37,49,55,56,60,67]) (.or (linT [38] (.mid 12 (lin [35,55,56,60,67]) 8 (lin [49,55,56,60,67]))) (linT [50] (.mid 9 (lin [35,55,56,60,67]) 8 (lin [37,55,56,60,67])))))) (.or (linT [35,37,49] (.mid 3 (lin [55,56,60,67]) 13 (lin [13,56,60,67]))) (.or (linT [38] (.or (linT [14] (.mid 12 (lin [35,55,56,60,67]) 8 (lin [49,55,56,60,67]))) (.or (linT [35,49] (.mid 3 (lin [55,56,60,67]) 13 (lin [13,56,60,67]))) (linT [50] (.mid 3 (lin [35,55,56,60,67]) 8 (.mid 3 (lin [55,56,60,67]) 13 (lin [13,56,60,67]))))))) (linT [50] (.or (linT [14] (.mid 9 (lin [35,55,56,60,67]) 8 (lin [37,55,56,60,67]))) (.or (linT [35,37] (.mid 3 (lin [55,56,60,67]) 13 (lin [13,56,60,67]))) (linT [38] (.mid 3 (lin [35,55,56,60,67]) 8 (.mid 3 (lin [55,56,60,67]) 13 (lin [13,56,60,67]))))))))))) ?_);(repeat' (first|refine tr_at 2 ?_;(refine k7 1002 ?_)));(all_goals first|exact Wk.refl _ _|exact v7);done))|refine tc_seq fun K hK=>?_|refine j5 14 ?_;refine j2 [8,13,16] (linT [0,4,8,20,24,40,44,17,29] (.or (linT [14] (.or (lin [35,37,49,55,56,60,67]) (.or (linT [38] (.mid 12 (lin [35,55,56,60,67]) 8 (lin [49,55,56,60,67]))) (linT [50] (.mid 9 (lin [35,55,56,60,67]) 8 (lin [37,55,56,60,67])))))) (.or (linT [35,37,49] (.mid 3 (lin [55,56,60,67]) 13 (lin [13,56,60,67]))) (.or (linT [38] (.or (linT [14] (.mid 12 (lin [35,55,56,60,67]) 8 (lin [49,55,56,60,67]))) (.or (linT [35,49] (.mid 3 (lin [55,56,60,67]) 13 (lin [13,56,60,67]))) (linT [50] (.mid 3 (lin [35,55,56,60,67]) 8 (.mid 3 (lin [55,56,60,67]) 13 (lin [13,56,60,67]))))))) (linT [50] (.or (linT [14] (.mid 9 (lin [35,55,56,60,67]) 8 (lin [37,55,56,60,67]))) (.or (linT [35,37] (.mid 3 (lin [55,56,60,67]) 13 (lin [13,56,60,67]))) (linT [38] (.mid 3 (lin [35,55,56,60,67]) 8 (.mid 3 (lin [55,56,60,67]) 13 (lin [13,56,60,67]))))))))))) ?_|apply_assumption -exfalso -symm)
  all_goals first
   |(exfalso;exact h17 (by assumption))
   |(exfalso;exact absurd h0 (by assumption))
   |(exfalso;exact absurd hk (by assumption))
   |(exfalso;exact hk (by assumption))
   |(exfalso;exact h0 (by assumption))
   |((refine j0 (j7 ⟨?_,rfl⟩))
     rfl)
end
end Go.Proofs.YtdopmfifmgkmoaaGreatDoor
