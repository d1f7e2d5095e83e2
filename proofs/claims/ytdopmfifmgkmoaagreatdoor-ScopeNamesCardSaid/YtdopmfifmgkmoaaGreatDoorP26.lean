/- Parts: O18, O19. -/
import Derived.Test.YtdopmfifmgkmoaaGreatDoorP25
set_option linter.all false
set_option maxRecDepth 100000
set_option maxHeartbeats 16000000
namespace Go.Proofs.YtdopmfifmgkmoaaGreatDoor
open Go.RowKit Go.Proofs.Tryz
section
def qo18_0:List Nat:=[0,1,2,3,4,5,6]
variable {mm:Int}
theorem jt1 (gl:List (Nat × List D))(x y:Ex):FnD prog gl 84 [.d (dEx x),.d (dEx y)] (fun v=>v=.d (.bool (eqB x y))):=mu1 gl _ x y (Nat.le_refl _)
theorem rh8:dEx ex0=.agg [.int .u8 0,.int .u8 0,.int .u8 0,.int .i32 0,.str ⟨#[]⟩,.list 6 []]:=by
 rw[r9]
 rfl
attribute [local irreducible] TR TC
theorem jw5 (gl:List (Nat × List D))(e:Ex):FnD prog gl 142 [.d (dEx e)] (fun v=>v=.d (.bool (Lx.noneB e))):=by
 have h:=jt1 gl e ex0
 unfold Lx.noneB
 rw[rh8]at h
 simp only[r9]at h ⊢
 (refine j4 func142 ntmps142 results142 fun w M=>?_)
 (repeat' first|refine tr_at 1 ?_;(refine k7 1 ?_)|refine yyp ?_;try refine s_bu ?_ ?_<;>intro hb|refine yy ?_|refine at_call 84 ?_;refine y_call (hc:=h) ?_;try refine s_bu ?_ ?_<;>intro hb|refine at_nil ?_;refine z_nil [0,1,2,3,4,5] ?_|refine tc_seq fun K hK=>?_|apply_assumption -exfalso -symm)
 all_goals
  (refine j0 (j6 ?_))
  simp only[oneOf, *]
theorem jj9 (e:Ex):FnD prog (glS mm) 141 [.d (dEx e)] (fun v=>v=.d (.bool (Lx.elemB e))):=by
 have h:=ji1 (mm:=mm) e
 unfold Lx.elemB
 simp only[r9]at h ⊢
 (refine j4 func141 ntmps141 results141 fun w M=>?_)
 (repeat' first|refine tr_at 1 ?_;(refine k7 1 ?_)|refine yyp ?_;try refine s_bu ?_ ?_<;>intro hb|refine yy ?_|refine yy2 ?_ ?_<;>intro hcmp|refine at_call 144 ?_;refine y_call (hc:=h) ?_;try refine s_bu ?_ ?_<;>intro hb|refine at_nil ?_;refine z_nil qo18_0 ?_|refine tc_seq fun K hK=>?_|apply_assumption -exfalso -symm)
 all_goals
  (refine j0 (j6 ?_))
  simp only[oneOf, *,decide_true,decide_false,Bool.true_or,Bool.or_true,Bool.or_false,Bool.true_and,Bool.false_and]
  try rfl
theorem mf0 (t:Ty):FnD prog (glS mm) 185 [.d (dTy t)] (fun v=>v=.d (.bool (Lx.primT t))):=by
 have h:=kp5 (mm:=mm) t
 (refine j4 func185 ntmps185 results185 fun w M=>?_)
 (repeat' first|refine tr_at 1 ?_;(refine k7 1 ?_)|refine yyp ?_;try refine s_bu ?_ ?_<;>intro hb|refine yy ?_|refine yy2 ?_ ?_<;>intro hcmp|refine at_call 184 ?_;refine y_call (hc:=h) ?_;try refine s_bu ?_ ?_<;>intro hb|refine at_nil ?_;refine z_nil qo18_0 ?_|refine tc_seq fun K hK=>?_|apply_assumption -exfalso -symm)
 all_goals
  (refine j0 (j6 ?_))
  simp only[oneOf,V.d.injEq,D.bool.injEq,Lx.primT]
  (repeat (rename (∀ S:Sd,TC _ _ _ S->_)=>hX;clear hX))
  clear h
  simp only[je6,Lx.tyMay]at *
  grind [Lx.prim]
theorem mu2 (f:Fo):FnD prog (glS mm) 188 [.d (dFo f)] (fun v=>v=.d (.bool (Lx.foMay f))):=by
 have h:=kp5 (mm:=mm) f.type
 have h2:=mf0 (mm:=mm) f.type
 (refine j4 func188 ntmps188 results188 fun w M=>?_)
 (repeat' first|refine tr_at 1 ?_;(refine k7 1 ?_)|refine yyp ?_;try refine s_bu ?_ ?_<;>intro hb|refine yy ?_|refine at_call 140 ?_;refine y_call (hc:=(ji0 f.name)) ?_;try refine s_bu ?_ ?_<;>intro hb|refine at_call 184 ?_;refine y_call (hc:=h) ?_;try refine s_bu ?_ ?_<;>intro hb|refine at_call 185 ?_;refine y_call (hc:=h2) ?_;try refine s_bu ?_ ?_<;>intro hb|refine at_nil ?_;refine z_nil qo18_0 ?_|refine tc_seq fun K hK=>?_|apply_assumption -exfalso -symm)
 all_goals
  (refine j0 (j6 ?_))
  simp only[oneOf,V.d.injEq,D.bool.injEq,Lx.foMay]
  (repeat (rename (∀ S:Sd,TC _ _ _ S->_)=>hX;clear hX))
  clear h h2
  grind
theorem ra5 (r:Rp):FnD prog (glS mm) 134 [.d (dRp r)] (fun v=>v=.d (.bool (Lx.repMay r))):=by
 have h1:=jw5 (glS mm) r.base
 have h2:=jw5 (glS mm) r.count
 have h3:=ji1 (mm:=mm) r.base
 have h4:=ji1 (mm:=mm) r.count
 simp only[r9]at h1 h2 h3 h4
 (refine j4 func134 ntmps134 results134 fun w M=>?_)
 (repeat' first|refine tr_at 1 ?_;(refine k7 1 ?_)|refine yyp ?_;try refine s_bu ?_ ?_<;>intro hb|refine yy ?_|refine yy2 ?_ ?_<;>intro hcmp|refine at_call 142 ?_;refine y_call (hc:=(by first|exact h1|exact h2)) ?_;try refine s_bu ?_ ?_<;>intro hb|refine at_call 140 ?_;refine y_call (hc:=(ji0 r.name)) ?_;try refine s_bu ?_ ?_<;>intro hb|refine at_call 144 ?_;refine y_call (hc:=(by first|exact h3|exact h4)) ?_;try refine s_bu ?_ ?_<;>intro hb|refine at_nil ?_;refine z_nil qo18_0 ?_|refine tc_seq fun K hK=>?_|apply_assumption -exfalso -symm)
 all_goals
  (refine j0 (j6 ?_))
  simp only[oneOf,V.d.injEq,D.bool.injEq,Lx.repMay]
  (repeat (rename (∀ S:Sd,TC _ _ _ S->_)=>hX;clear hX))
  clear h1 h2 h3 h4
  simp only[je6]at *
  grind
def re8 (u:Lx.Uses):D:=.agg [.bool u.rep,.bool u.name,.bool u.channel,.bool u.spec,.bool u.procs,.int .i64 u.t0,.int .i64 u.t1,.int .i64 u.e0,.int .i64 u.e1,.int .i64 u.p0,.int .i64 u.p1,.int .i64 u.g0,.int .i64 u.g1,.int .u8 u.a,.int .u8 u.b]
theorem mu3 (k:Int):FnD prog (glS mm) 133 [.d (.int .u8 k)] (fun v=>v=.tup [.d (re8 (Lx.usesOf k).1),.d (.bool (Lx.usesOf k).2)]):=by
 unfold Lx.usesOf
 (refine j4 func133 ntmps133 results133 fun w M=>?_)
 (repeat' first|refine tr_at 2 ?_;(refine j1 2 ?_)|refine tr_at 8 ?_;refine z_p w_buildn ?_|refine tr_at 13 ?_;refine z_p w_buildn ?_|refine tr_at 17 ?_;refine z_p w_buildn ?_|refine tr_at 21 ?_;refine z_p w_buildn ?_|refine tr_at 25 ?_;refine z_p w_buildn ?_|refine tr_at 29 ?_;refine z_p w_buildn ?_|refine tr_at 34 ?_;refine z_p w_buildn ?_|refine tr_at 38 ?_;refine z_p w_buildn ?_|refine tr_at 42 ?_;refine z_p w_buildn ?_|refine tr_at 47 ?_;refine z_p w_buildn ?_|refine tr_at 51 ?_;refine z_p w_buildn ?_|refine tr_at 56 ?_;refine z_p w_buildn ?_|refine tr_at 61 ?_;refine z_p w_buildn ?_|refine tr_at 65 ?_;refine z_p w_buildn ?_|refine tr_at 69 ?_;refine z_p w_buildn ?_|refine tr_at 70 ?_;refine z_p w_buildn ?_|refine yyp ?_;try refine s_bu ?_ ?_<;>intro hb|refine yy ?_|refine yy2 ?_ ?_<;>intro hcmp|refine at_nil ?_;refine z_nil [0,2,3,4,5,6,9,14,18,22,26,30,35,39,43,48,52,57,62,66,191] ?_|refine tc_seq fun K hK=>?_|apply_assumption -exfalso -symm)
 all_goals
  (refine j0 (j6 ?_))
  simp only[*,or_true,true_or,or_self,if_true,if_false,Int.reduceEq]
  try rfl
end
section
def qo19_0:List Nat:=[0,1,2,3,4,5,6,7]
theorem qn9 {p x:Pr}(h:x∈p.l):SizeOf.sizeOf x<SizeOf.sizeOf p:=by
 cases p
 have:=List.sizeOf_lt_of_mem h
 simp only[Pr.l,Pr.mk.sizeOf_spec]at *
 omega
theorem qo0 {p x:Pr}{g:Gu}(hg:g∈p.guards)(hx:x∈g.body):SizeOf.sizeOf x<SizeOf.sizeOf p:=by
 cases p
 cases g
 have h1:=List.sizeOf_lt_of_mem hg
 have h2:=List.sizeOf_lt_of_mem hx
 simp only[Pr.guards,Gu.body,Pr.mk.sizeOf_spec,Gu.mk.sizeOf_spec]at *
 omega
theorem qo1 {p x:Pr}(h:x∈p.spec.body):SizeOf.sizeOf x<SizeOf.sizeOf p:=by
 obtain⟨_,_,_,_,_,_,_,_,_,⟨⟩⟩:=p
 have:=List.sizeOf_lt_of_mem h
 simp only[Pr.spec,Sp.body,Pr.mk.sizeOf_spec,Sp.mk.sizeOf_spec]at *
 omega
theorem ra6 {a b:Ty}:a=b↔a.kind=b.kind/\a.dim=b.dim/\a.item=b.item/\a.proto=b.proto/\True:=by
 cases a
 cases b
 simp
theorem ra7 {a b:Pt}:a=b↔a.cases=b.cases/\a.l=b.l:=by
 cases a
 cases b
 simp
theorem ra8 {a b:Rp}:a=b↔a.name=b.name/\a.base=b.base/\a.count=b.count:=by
 cases a
 cases b
 simp
theorem ra9 {a b:Sp}:a=b↔a.kind=b.kind/\a.type=b.type/\a.names=b.names/\a.e=b.e/\a.proto=b.proto/\a.formals=b.formals/\a.body=b.body:=by
 cases a
 cases b
 simp[Sp.kind,Sp.type,Sp.names,Sp.e,Sp.proto,Sp.formals,Sp.body]
theorem rb0 {a b:Gu}:a=b↔a.kind=b.kind/\a.name=b.name/\a.cond=b.cond/\a.chan=b.chan/\a.targets=b.targets/\a.values=b.values/\a.time=b.time/\a.body=b.body:=by
 cases a
 cases b
 simp[Gu.kind,Gu.name,Gu.cond,Gu.chan,Gu.targets,Gu.values,Gu.time,Gu.body]
theorem rb1 {a b:Pr}:a=b↔a.kind=b.kind/\a.name=b.name/\a.chan=b.chan/\a.targets=b.targets/\a.exprs=b.exprs/\a.rep=b.rep/\a.guards=b.guards/\a.l=b.l/\a.procs=b.procs/\a.spec=b.spec:=by
 cases a
 cases b
 simp[Pr.kind,Pr.name,Pr.chan,Pr.targets,Pr.exprs,Pr.rep,Pr.guards,Pr.l,Pr.procs,Pr.spec]
attribute [local irreducible] TR TC
theorem rb2 (gl:List (Nat × List D))(x y:Va):FnD prog gl 155 [.d (dVa x),.d (dVa y)] (fun v=>v=.d (.bool (eqB x y))):=by
 have h:=qg7 gl x.items y.items
 have hxy:=ra3 (a:=x) (b:=y)
 (refine j4 func155 ntmps155 results155 fun w M=>?_)
 (repeat' first|refine tr_at 2 ?_;(refine k7 2 ?_)|refine tr_at 3 ?_;(refine k7 3 ?_)|refine yyp ?_;try refine s_bu ?_ ?_<;>intro hb|refine yy ?_|refine yy2 ?_ ?_<;>intro hcmp|refine at_call 156 ?_;refine y_call (hc:=h) ?_;try refine s_bu ?_ ?_<;>intro hb|refine at_nil ?_;refine z_nil qo19_0 ?_|refine tc_seq fun K hK=>?_|apply_assumption -exfalso -symm)
 all_goals
  (refine j0 (j6 ?_))
  simp only[oneOf,V.d.injEq,D.bool.injEq]
  (repeat (rename (∀ S:Sd,TC _ _ _ S->_)=>hX;clear hX))
  clear h
  symm
  simp only[j9,r8,ne_eq]at *
  grind
theorem ji2 (gl:List (Nat × List D))(x y:List Ex):FnD prog gl 85 [.d (.list 6 (x.map dEx)),.d (.list 6 (y.map dEx))] (fun v=>v=.d (.bool (eqB x y))):=by
 have h:=mt2 gl x y fun a _ b=>jt1 gl a b
 (refine j4 func85 ntmps85 results85 fun w M=>?_)
 (repeat' first|refine yyp ?_;try refine s_bu ?_ ?_<;>intro hb|refine yy ?_|refine at_call 124 ?_;refine y_call (hc:=h) ?_;try refine s_bu ?_ ?_<;>intro hb|refine at_nil ?_;refine z_nil [0,1,4,5,6,7] ?_|refine tc_seq fun K hK=>?_|apply_assumption -exfalso -symm)
 all_goals
  (refine j0 (j6 ?_))
  simp only[oneOf, *]
def Lx.sameF (a b:Sp):Prop:=a.kind=b.kind/\a.type=b.type/\a.names=b.names/\a.e=b.e/\a.proto=b.proto/\a.formals=b.formals/\a.body.length=b.body.length
open Classical in
noncomputable def Lx.sameFB (a b:Sp):Bool:=decide (Lx.sameF a b)
theorem jt2 (gl:List (Nat × List D))(x y:Sp):FnD prog gl 125 [.d (dSp x),.d (dSp y)] (fun v=>v=.d (.bool (Lx.sameFB x y))):=by
 have h1:=mt1 gl x.names y.names
 have h2:=jt1 gl x.e y.e
 have h3:=mt3 gl x.proto.l y.proto.l fun a _ b=>rb2 gl a b
 have h4:=qg8 gl x.formals y.formals
 have e1:=ra6 (a:=x.type) (b:=y.type)
 have e2:=ra7 (a:=x.proto) (b:=y.proto)
 simp only[r9]at h2
 (refine j4 func125 ntmps125 results125 fun w M=>?_)
 (repeat' first|refine tr_at 2 ?_;(refine k7 2 ?_)|refine tr_at 3 ?_;(refine k7 3 ?_)|refine yyp ?_;try refine s_bu ?_ ?_<;>intro hb|refine yy ?_|refine yy2 ?_ ?_<;>intro hcmp|refine at_call 157 ?_;refine y_call (hc:=h1) ?_;try refine s_bu ?_ ?_<;>intro hb|refine at_call 84 ?_;refine y_call (hc:=h2) ?_;try refine s_bu ?_ ?_<;>intro hb|refine at_call 158 ?_;refine y_call (hc:=h3) ?_;try refine s_bu ?_ ?_<;>intro hb|refine at_call 159 ?_;refine y_call (hc:=h4) ?_;try refine s_bu ?_ ?_<;>intro hb|refine at_nil ?_;refine z_nil qo19_0 ?_|refine tc_seq fun K hK=>?_|apply_assumption -exfalso -symm)
 all_goals
  (refine j0 (j6 ?_))
  simp only[oneOf,V.d.injEq,D.bool.injEq,Lx.sameFB]
  (repeat (rename (∀ S:Sd,TC _ _ _ S->_)=>hX;clear hX))
  clear h1 h2 h3 h4
  symm
  simp only[j9,r8,ne_eq,decide_eq_true_eq,decide_eq_false_iff_not,Lx.sameF,beq_iff_eq,beq_eq_false_iff_ne]at *
  grind
theorem kw3 (gl:List (Nat × List D))(x y:Sp)(h:∀ a∈x.body,∀ b,FnD prog gl 49 [.d (dPr a),.d (dPr b)] (fun v=>v=.d (.bool (eqB a b)))):
 FnD prog gl 90 [.d (dSp x),.d (dSp y)] (fun v=>v=.d (.bool (eqB x y))):=by
 have h1:=jt2 gl x y
 have h2:=kd4 gl x.body y.body h
 have e1:=ra9 (a:=x) (b:=y)
 clear h
 (refine j4 func90 ntmps90 results90 fun w M=>?_)
 (repeat' first|refine tr_at 2 ?_;(refine k7 2 ?_)|refine tr_at 3 ?_;(refine k7 3 ?_)|refine yyp ?_;try refine s_bu ?_ ?_<;>intro hb|refine yy ?_|refine at_call 125 ?_;refine y_call (hc:=h1) ?_;try refine s_bu ?_ ?_<;>intro hb|refine at_call 89 ?_;refine y_call (hc:=h2) ?_;try refine s_bu ?_ ?_<;>intro hb|refine at_nil ?_;refine z_nil qo19_0 ?_|refine tc_seq fun K hK=>?_|apply_assumption -exfalso -symm)
 all_goals
  (refine j0 (j6 ?_))
  simp only[oneOf,V.d.injEq,D.bool.injEq]
  (repeat (rename (∀ S:Sd,TC _ _ _ S->_)=>hX;clear hX))
  clear h1 h2
  symm
  simp only[j9,r8,ne_eq,decide_eq_true_eq,decide_eq_false_iff_not,Lx.sameF,Lx.sameFB]at *
  grind
theorem mu4 (gl:List (Nat × List D))(x y:Gu)(h:∀ a∈x.body,∀ b,FnD prog gl 49 [.d (dPr a),.d (dPr b)] (fun v=>v=.d (.bool (eqB a b)))):
 FnD prog gl 88 [.d (dGu x),.d (dGu y)] (fun v=>v=.d (.bool (eqB x y))):=by
 have h1:=jt1 gl x.cond y.cond
 have h2:=jt1 gl x.chan y.chan
 have h3:=jt1 gl x.time y.time
 have h4:=ji2 gl x.targets y.targets
 have h5:=ji2 gl x.values y.values
 have h6:=kd4 gl x.body y.body h
 have e1:=rb0 (a:=x) (b:=y)
 clear h
 simp only[r9]at h1 h2 h3
 rw[jg4]
 (refine j4 func88 ntmps88 results88 fun w M=>?_)
 (repeat' first|refine tr_at 2 ?_;(refine k7 2 ?_)|refine tr_at 3 ?_;(refine k7 3 ?_)|refine yyp ?_;try refine s_bu ?_ ?_<;>intro hb|refine yy ?_|refine yy2 ?_ ?_<;>intro hcmp|refine at_call 84 ?_;refine y_call (hc:=(by first|exact h1|exact h2|exact h3)) ?_;try refine s_bu ?_ ?_<;>intro hb|refine at_call 85 ?_;refine y_call (hc:=(by first|exact h4|exact h5)) ?_;try refine s_bu ?_ ?_<;>intro hb|refine at_call 89 ?_;refine y_call (hc:=h6) ?_;try refine s_bu ?_ ?_<;>intro hb|refine at_nil ?_;refine z_nil qo19_0 ?_|refine tc_seq fun K hK=>?_|apply_assumption -exfalso -symm)
 all_goals
  (refine j0 (j6 ?_))
  simp only[oneOf,V.d.injEq,D.bool.injEq]
  (repeat (rename (∀ S:Sd,TC _ _ _ S->_)=>hX;clear hX))
  clear h1 h2 h3 h4 h5 h6
  symm
  simp only[j9,r8,ne_eq]at *
  grind
theorem qh7 (gl:List (Nat × List D))(x y:Pr)(hl:∀ a∈x.l,∀ b,FnD prog gl 49 [.d (dPr a),.d (dPr b)] (fun v=>v=.d (.bool (eqB a b))))
 (hg:∀ g∈x.guards,∀ a∈g.body,∀ b,FnD prog gl 49 [.d (dPr a),.d (dPr b)] (fun v=>v=.d (.bool (eqB a b))))
 (hb':∀ a∈x.spec.body,∀ b,FnD prog gl 49 [.d (dPr a),.d (dPr b)] (fun v=>v=.d (.bool (eqB a b)))):
 FnD prog gl 49 [.d (dPr x),.d (dPr y)] (fun v=>v=.d (.bool (eqB x y))):=by
 have h1:=jt1 gl x.chan y.chan
 have h2:=jt1 gl x.rep.base y.rep.base
 have h3:=jt1 gl x.rep.count y.rep.count
 have h4:=ji2 gl x.targets y.targets
 have h5:=ji2 gl x.exprs y.exprs
 have h6:=kd4 gl x.l y.l hl
 have h7:=mt4 gl x.guards y.guards fun g hm k=>mu4 gl g k (hg g hm)
 have h8:=kw3 gl x.spec y.spec hb'
 have h9:=mt0 gl x.procs y.procs
 have e1:=rb1 (a:=x) (b:=y)
 have e2:=ra8 (a:=x.rep) (b:=y.rep)
 clear hl hg hb'
 simp only[r9]at h1 h2 h3
 rw[x5]
 (refine j4 func49 ntmps49 results49 fun w M=>?_)
 (repeat' first|refine tr_at 2 ?_;(refine k7 2 ?_)|refine tr_at 3 ?_;(refine k7 3 ?_)|refine yyp ?_;try refine s_bu ?_ ?_<;>intro hb|refine yy ?_|refine yy2 ?_ ?_<;>intro hcmp|refine at_call 84 ?_;refine y_call (hc:=(by first|exact h1|exact h2|exact h3)) ?_;try refine s_bu ?_ ?_<;>intro hb|refine at_call 85 ?_;refine y_call (hc:=(by first|exact h4|exact h5)) ?_;try refine s_bu ?_ ?_<;>intro hb|refine at_call 86 ?_;refine y_call (hc:=h9) ?_;try refine s_bu ?_ ?_<;>intro hb|refine at_call 87 ?_;refine y_call (hc:=h7) ?_;try refine s_bu ?_ ?_<;>intro hb|refine at_call 89 ?_;refine y_call (hc:=h6) ?_;try refine s_bu ?_ ?_<;>intro hb|refine at_call 90 ?_;refine y_call (hc:=h8) ?_;try refine s_bu ?_ ?_<;>intro hb|refine at_nil ?_;refine z_nil qo19_0 ?_|refine tc_seq fun K hK=>?_|apply_assumption -exfalso -symm)
 all_goals
  (refine j0 (j6 ?_))
  simp only[oneOf,V.d.injEq,D.bool.injEq]
  (repeat (rename (∀ S:Sd,TC _ _ _ S->_)=>hX;clear hX))
  clear h1 h2 h3 h4 h5 h6 h7 h8 h9
  symm
  simp only[j9,r8,ne_eq]at *
  grind
theorem mu5 (gl:List (Nat × List D)):∀ (m:Nat) (x y:Pr),SizeOf.sizeOf x<=m->FnD prog gl 49 [.d (dPr x),.d (dPr y)] (fun v=>v=.d (.bool (eqB x y))):=by
 intro m
 induction m with
 |zero=>intro x y h;cases x;simp only[Pr.mk.sizeOf_spec]at h;omega
 |succ m ih=>
  intro x y hm
  exact qh7 gl x y (fun a ha b=>ih a b (by have:=qn9 ha;omega)) (fun g hg a ha b=>ih a b (by have:=qo0 hg ha;omega)) fun a ha b=>ih a b (by have:=qo1 ha;omega)
theorem rb3 (gl:List (Nat × List D))(x y:Pr):FnD prog gl 49 [.d (dPr x),.d (dPr y)] (fun v=>v=.d (.bool (eqB x y))):=mu5 gl _ x y (Nat.le_refl _)
theorem rb4 (gl:List (Nat × List D))(x y:Sp):FnD prog gl 90 [.d (dSp x),.d (dSp y)] (fun v=>v=.d (.bool (eqB x y))):=kw3 gl x y fun a _ b=>rb3 gl a b
end
end Go.Proofs.YtdopmfifmgkmoaaGreatDoor
