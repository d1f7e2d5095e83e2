/- Parts: O18, O19. -/
import Derived.Test.YtklklgfpkpglgaaGreatDoorP17
set_option linter.all false
set_option maxRecDepth 100000
set_option maxHeartbeats 16000000
namespace Go.Proofs.YtklklgfpkpglgaaGreatDoor
open Go.RowKit Go.Proofs.Tryz
section
def Ua:List Nat:=[0,1,2,3,4,5,6]
variable {mm:Int}
theorem jy1 (gl:List (Nat × List D))(x y:Ex):FnD prog gl 165 [.d (dEx x),.d (dEx y)] (fun v=>v=.d (.bool (eqB x y))):=qf2 gl _ x y (Au _)
theorem vj1:dEx ex0=.agg [.int .u8 0,.int .u8 0,.int .u8 0,.int .i32 0,.str ⟨#[]⟩,.list 6 []]:=by
 rw[k9];rfl
attribute [local irreducible] TR TC
theorem kd3 (gl:List (Nat × List D))(e:Ex):FnD prog gl 127 [.d (dEx e)] (fun v=>v=.d (.bool (Lx.Ka e))):=by
 have h:=jy1 gl e ex0;unfold Lx.Ka;rw[vj1]at h;simp only[k9]at h ⊢
 (refine j7 func127 ntmps127 results127 fun w M=>?_)
 (repeat' first|refine Ca 1 ?_;(refine Cq 1 ?_)|refine yyp ?_;try refine Ce ?_ ?_<;>intro hb|refine yy ?_|refine Ch 165 ?_;refine Ck (hc:=h) ?_;try refine Ce ?_ ?_<;>intro hb|refine at_nil ?_;refine Cc [0,1,2,3,4,5] ?_|refine Cb fun K hK=>?_|apply_assumption -exfalso -symm)
 all_goals
  (refine j1 (k7 ?_))
  simp only[oneOf, *]
theorem Jv (e:Ex):FnD prog (glS mm) 126 [.d (dEx e)] (fun v=>v=.d (.bool (Lx.Iw e))):=by
 have h:=jk7 (mm:=mm) e;unfold Lx.Iw;simp only[k9]at h ⊢
 (refine j7 func126 ntmps126 results126 fun w M=>?_)
 (repeat' first|refine Ca 1 ?_;(refine Cq 1 ?_)|refine yyp ?_;try refine Ce ?_ ?_<;>intro hb|refine yy ?_|refine yy2 ?_ ?_<;>intro hcmp|refine Ch 129 ?_;refine Ck (hc:=h) ?_;try refine Ce ?_ ?_<;>intro hb|refine at_nil ?_;refine Cc Ua ?_|refine Cb fun K hK=>?_|apply_assumption -exfalso -symm)
 all_goals
  (refine j1 (k7 ?_))
  simp only[oneOf, *,decide_true,decide_false,Ek,El,Ec,Bi,Bj]
  try rfl
theorem mt4 (t:Ty):FnD prog (glS mm) 173 [.d (dTy t)] (fun v=>v=.d (.bool (Lx.Rf t))):=by
 have h:=ku7 (mm:=mm) t
 (refine j7 func173 ntmps173 results173 fun w M=>?_)
 (repeat' first|refine Ca 1 ?_;(refine Cq 1 ?_)|refine yyp ?_;try refine Ce ?_ ?_<;>intro hb|refine yy ?_|refine yy2 ?_ ?_<;>intro hcmp|refine Ch 172 ?_;refine Ck (hc:=h) ?_;try refine Ce ?_ ?_<;>intro hb|refine at_nil ?_;refine Cc Ua ?_|refine Cb fun K hK=>?_|apply_assumption -exfalso -symm)
 all_goals
  (refine j1 (k7 ?_))
  simp only[oneOf,Bk,Be,Lx.Rf]
  (repeat (rename (∀ S:Sd,TC _ _ _ S->_)=>hX;clear hX))
  clear h;simp only[jp2,Lx.Pp]at *
  grind [Lx.prim]
theorem qk3 (f:Fo):FnD prog (glS mm) 176 [.d (dFo f)] (fun v=>v=.d (.bool (Lx.Px f))):=by
 have h:=ku7 (mm:=mm) f.type;have h2:=mt4 (mm:=mm) f.type
 (refine j7 func176 ntmps176 results176 fun w M=>?_)
 (repeat' first|refine Ca 1 ?_;(refine Cq 1 ?_)|refine yyp ?_;try refine Ce ?_ ?_<;>intro hb|refine yy ?_|refine Ch 125 ?_;refine Ck (hc:=(jk6 f.name)) ?_;try refine Ce ?_ ?_<;>intro hb|refine Ch 172 ?_;refine Ck (hc:=h) ?_;try refine Ce ?_ ?_<;>intro hb|refine Ch 173 ?_;refine Ck (hc:=h2) ?_;try refine Ce ?_ ?_<;>intro hb|refine at_nil ?_;refine Cc Ua ?_|refine Cb fun K hK=>?_|apply_assumption -exfalso -symm)
 all_goals
  (refine j1 (k7 ?_))
  simp only[oneOf,Bk,Be,Lx.Px]
  (repeat (rename (∀ S:Sd,TC _ _ _ S->_)=>hX;clear hX))
  clear h h2
  grind
theorem rw4 (r:Rp):FnD prog (glS mm) 119 [.d (dRp r)] (fun v=>v=.d (.bool (Lx.Kn r))):=by
 have h1:=kd3 (glS mm) r.base;have h2:=kd3 (glS mm) r.count;have h3:=jk7 (mm:=mm) r.base;have h4:=jk7 (mm:=mm) r.count;simp only[k9]at h1 h2 h3 h4
 (refine j7 func119 ntmps119 results119 fun w M=>?_)
 (repeat' first|refine Ca 1 ?_;(refine Cq 1 ?_)|refine yyp ?_;try refine Ce ?_ ?_<;>intro hb|refine yy ?_|refine yy2 ?_ ?_<;>intro hcmp|refine Ch 127 ?_;refine Ck (hc:=(by first|exact h1|exact h2)) ?_;try refine Ce ?_ ?_<;>intro hb|refine Ch 125 ?_;refine Ck (hc:=(jk6 r.name)) ?_;try refine Ce ?_ ?_<;>intro hb|refine Ch 129 ?_;refine Ck (hc:=(by first|exact h3|exact h4)) ?_;try refine Ce ?_ ?_<;>intro hb|refine at_nil ?_;refine Cc Ua ?_|refine Cb fun K hK=>?_|apply_assumption -exfalso -symm)
 all_goals
  (refine j1 (k7 ?_))
  simp only[oneOf,Bk,Be,Lx.Kn]
  (repeat (rename (∀ S:Sd,TC _ _ _ S->_)=>hX;clear hX))
  clear h1 h2 h3 h4;simp only[jp2]at *
  grind
def vd4 (u:Lx.Uses):D:=.agg [.bool u.rep,.bool u.name,.bool u.channel,.bool u.spec,.bool u.procs,.int .i64 u.t0,.int .i64 u.t1,.int .i64 u.e0,.int .i64 u.e1,.int .i64 u.p0,.int .i64 u.p1,.int .i64 u.g0,.int .i64 u.g1,.int .u8 u.a,.int .u8 u.b]
theorem qk4 (k:Int):FnD prog (glS mm) 118 [.d (.int .u8 k)] (fun v=>v=.tup [.d (vd4 (Lx.Hf k).1),.d (.bool (Lx.Hf k).2)]):=by
 unfold Lx.Hf
 (refine j7 func118 ntmps118 results118 fun w M=>?_)
 (repeat' first|refine Ca 2 ?_;(refine j3 2 ?_)|refine Ca 8 ?_;refine z_p Dk ?_|refine Ca 13 ?_;refine z_p Dk ?_|refine Ca 17 ?_;refine z_p Dk ?_|refine Ca 21 ?_;refine z_p Dk ?_|refine Ca 25 ?_;refine z_p Dk ?_|refine Ca 29 ?_;refine z_p Dk ?_|refine Ca 34 ?_;refine z_p Dk ?_|refine Ca 38 ?_;refine z_p Dk ?_|refine Ca 42 ?_;refine z_p Dk ?_|refine Ca 47 ?_;refine z_p Dk ?_|refine Ca 51 ?_;refine z_p Dk ?_|refine Ca 56 ?_;refine z_p Dk ?_|refine Ca 61 ?_;refine z_p Dk ?_|refine Ca 65 ?_;refine z_p Dk ?_|refine Ca 69 ?_;refine z_p Dk ?_|refine Ca 70 ?_;refine z_p Dk ?_|refine yyp ?_;try refine Ce ?_ ?_<;>intro hb|refine yy ?_|refine yy2 ?_ ?_<;>intro hcmp|refine at_nil ?_;refine Cc [0,2,3,4,5,6,9,14,18,22,26,30,35,39,43,48,52,57,62,66,178] ?_|refine Cb fun K hK=>?_|apply_assumption -exfalso -symm)
 all_goals
  (refine j1 (k7 ?_))
  simp only[*,or_true,true_or,or_self,if_true,if_false,Int.reduceEq]
  try rfl
end
section
def Sv:List Nat:=[0,1,2,3,4,5,6,7]
theorem rt4 {p x:Pr}(h:x∈p.l):SizeOf.sizeOf x<SizeOf.sizeOf p:=by
 cases p;have:=Fr h;simp only[Pr.l,Pr.mk.sizeOf_spec]at *;omega
theorem rt5 {p x:Pr}{g:Gu}(hg:g∈p.guards)(hx:x∈g.body):SizeOf.sizeOf x<SizeOf.sizeOf p:=by
 cases p;cases g;have h1:=Fr hg;have h2:=Fr hx;simp only[Pr.guards,Gu.body,Pr.mk.sizeOf_spec,Gu.mk.sizeOf_spec]at *;omega
theorem rt6 {p x:Pr}(h:x∈p.spec.body):SizeOf.sizeOf x<SizeOf.sizeOf p:=by
 obtain⟨_,_,_,_,_,_,_,_,_,⟨⟩⟩:=p;have:=Fr h;simp only[Pr.spec,Sp.body,Pr.mk.sizeOf_spec,Sp.mk.sizeOf_spec]at *;omega
theorem vd5 {a b:Ty}:a=b↔a.kind=b.kind/\a.dim=b.dim/\a.item=b.item/\a.proto=b.proto/\True:=by
 cases a;cases b;simp
theorem vd6 {a b:Pt}:a=b↔a.cases=b.cases/\a.l=b.l:=by
 cases a;cases b;simp
theorem vd7 {a b:Rp}:a=b↔a.name=b.name/\a.base=b.base/\a.count=b.count:=by
 cases a;cases b;simp
theorem vd8 {a b:Sp}:a=b↔a.kind=b.kind/\a.type=b.type/\a.names=b.names/\a.e=b.e/\a.proto=b.proto/\a.formals=b.formals/\a.body=b.body:=by
 cases a;cases b;simp[Sp.kind,Sp.type,Sp.names,Sp.e,Sp.proto,Sp.formals,Sp.body]
theorem vd9 {a b:Gu}:a=b↔a.kind=b.kind/\a.name=b.name/\a.cond=b.cond/\a.chan=b.chan/\a.targets=b.targets/\a.values=b.values/\a.time=b.time/\a.body=b.body:=by
 cases a;cases b;simp[Gu.kind,Gu.name,Gu.cond,Gu.chan,Gu.targets,Gu.values,Gu.time,Gu.body]
theorem ve0 {a b:Pr}:a=b↔a.kind=b.kind/\a.name=b.name/\a.chan=b.chan/\a.targets=b.targets/\a.exprs=b.exprs/\a.rep=b.rep/\a.guards=b.guards/\a.l=b.l/\a.procs=b.procs/\a.spec=b.spec:=by
 cases a;cases b;simp[Pr.kind,Pr.name,Pr.chan,Pr.targets,Pr.exprs,Pr.rep,Pr.guards,Pr.l,Pr.procs,Pr.spec]
attribute [local irreducible] TR TC
theorem rw5 (gl:List (Nat × List D))(x y:Va):FnD prog gl 204 [.d (dVa x),.d (dVa y)] (fun v=>v=.d (.bool (eqB x y))):=by
 have h:=qv0 gl x.items y.items;have hxy:=vd0 (a:=x) (b:=y)
 (refine j7 func204 ntmps204 results204 fun w M=>?_)
 (repeat' first|refine Ca 2 ?_;(refine Cq 2 ?_)|refine Ca 3 ?_;(refine Cq 3 ?_)|refine yyp ?_;try refine Ce ?_ ?_<;>intro hb|refine yy ?_|refine yy2 ?_ ?_<;>intro hcmp|refine Ch 205 ?_;refine Ck (hc:=h) ?_;try refine Ce ?_ ?_<;>intro hb|refine at_nil ?_;refine Cc Sv ?_|refine Cb fun K hK=>?_|apply_assumption -exfalso -symm)
 all_goals
  (refine j1 (k7 ?_))
  simp only[oneOf,Bk,Be]
  (repeat (rename (∀ S:Sd,TC _ _ _ S->_)=>hX;clear hX))
  clear h;symm;simp only[r8,x4,ne_eq]at *
  grind
theorem jl5 (gl:List (Nat × List D))(x y:List Ex):FnD prog gl 209 [.d (.list 6 (x.map dEx)),.d (.list 6 (y.map dEx))] (fun v=>v=.d (.bool (eqB x y))):=by
 have h:=qd9 gl x y fun a _ b=>jy1 gl a b
 (refine j7 func209 ntmps209 results209 fun w M=>?_)
 (repeat' first|refine yyp ?_;try refine Ce ?_ ?_<;>intro hb|refine yy ?_|refine Ch 224 ?_;refine Ck (hc:=h) ?_;try refine Ce ?_ ?_<;>intro hb|refine at_nil ?_;refine Cc [0,1,4,5,6,7] ?_|refine Cb fun K hK=>?_|apply_assumption -exfalso -symm)
 all_goals
  (refine j1 (k7 ?_))
  simp only[oneOf, *]
def Lx.Vp (a b:Sp):Prop:=a.kind=b.kind/\a.type=b.type/\a.names=b.names/\a.e=b.e/\a.proto=b.proto/\a.formals=b.formals/\a.body.length=b.body.length
open Classical in
noncomputable def Lx.Ud (a b:Sp):Bool:=decide (Lx.Vp a b)
theorem jy2 (gl:List (Nat × List D))(x y:Sp):FnD prog gl 178 [.d (dSp x),.d (dSp y)] (fun v=>v=.d (.bool (Lx.Ud x y))):=by
 have h1:=qd8 gl x.names y.names;have h2:=jy1 gl x.e y.e;have h3:=qe0 gl x.proto.l y.proto.l fun a _ b=>rw5 gl a b;have h4:=qv1 gl x.formals y.formals;have e1:=vd5 (a:=x.type) (b:=y.type);have e2:=vd6 (a:=x.proto) (b:=y.proto);simp only[k9]at h2
 (refine j7 func178 ntmps178 results178 fun w M=>?_)
 (repeat' first|refine Ca 2 ?_;(refine Cq 2 ?_)|refine Ca 3 ?_;(refine Cq 3 ?_)|refine yyp ?_;try refine Ce ?_ ?_<;>intro hb|refine yy ?_|refine yy2 ?_ ?_<;>intro hcmp|refine Ch 206 ?_;refine Ck (hc:=h1) ?_;try refine Ce ?_ ?_<;>intro hb|refine Ch 165 ?_;refine Ck (hc:=h2) ?_;try refine Ce ?_ ?_<;>intro hb|refine Ch 207 ?_;refine Ck (hc:=h3) ?_;try refine Ce ?_ ?_<;>intro hb|refine Ch 208 ?_;refine Ck (hc:=h4) ?_;try refine Ce ?_ ?_<;>intro hb|refine at_nil ?_;refine Cc Sv ?_|refine Cb fun K hK=>?_|apply_assumption -exfalso -symm)
 all_goals
  (refine j1 (k7 ?_))
  simp only[oneOf,Bk,Be,Lx.Ud]
  (repeat (rename (∀ S:Sd,TC _ _ _ S->_)=>hX;clear hX))
  clear h1 h2 h3 h4;symm;simp only[r8,x4,ne_eq,Ak,decide_eq_false_iff_not,Lx.Vp,Bx,beq_eq_false_iff_ne]at *
  grind
theorem mf9 (gl:List (Nat × List D))(x y:Sp)(h:∀ a∈x.body,∀ b,FnD prog gl 180 [.d (dPr a),.d (dPr b)] (fun v=>v=.d (.bool (eqB a b)))):
 FnD prog gl 133 [.d (dSp x),.d (dSp y)] (fun v=>v=.d (.bool (eqB x y))):=by
 have h1:=jy2 gl x y;have h2:=ki9 gl x.body y.body h;have e1:=vd8 (a:=x) (b:=y);clear h
 (refine j7 func133 ntmps133 results133 fun w M=>?_)
 (repeat' first|refine Ca 2 ?_;(refine Cq 2 ?_)|refine Ca 3 ?_;(refine Cq 3 ?_)|refine yyp ?_;try refine Ce ?_ ?_<;>intro hb|refine yy ?_|refine Ch 178 ?_;refine Ck (hc:=h1) ?_;try refine Ce ?_ ?_<;>intro hb|refine Ch 179 ?_;refine Ck (hc:=h2) ?_;try refine Ce ?_ ?_<;>intro hb|refine at_nil ?_;refine Cc Sv ?_|refine Cb fun K hK=>?_|apply_assumption -exfalso -symm)
 all_goals
  (refine j1 (k7 ?_))
  simp only[oneOf,Bk,Be]
  (repeat (rename (∀ S:Sd,TC _ _ _ S->_)=>hX;clear hX))
  clear h1 h2;symm;simp only[r8,x4,ne_eq,Ak,decide_eq_false_iff_not,Lx.Vp,Lx.Ud]at *
  grind
theorem qk5 (gl:List (Nat × List D))(x y:Gu)(h:∀ a∈x.body,∀ b,FnD prog gl 180 [.d (dPr a),.d (dPr b)] (fun v=>v=.d (.bool (eqB a b)))):
 FnD prog gl 212 [.d (dGu x),.d (dGu y)] (fun v=>v=.d (.bool (eqB x y))):=by
 have h1:=jy1 gl x.cond y.cond;have h2:=jy1 gl x.chan y.chan;have h3:=jy1 gl x.time y.time;have h4:=jl5 gl x.targets y.targets;have h5:=jl5 gl x.values y.values;have h6:=ki9 gl x.body y.body h;have e1:=vd9 (a:=x) (b:=y);clear h;simp only[k9]at h1 h2 h3;rw[jd7]
 (refine j7 func212 ntmps212 results212 fun w M=>?_)
 (repeat' first|refine Ca 2 ?_;(refine Cq 2 ?_)|refine Ca 3 ?_;(refine Cq 3 ?_)|refine yyp ?_;try refine Ce ?_ ?_<;>intro hb|refine yy ?_|refine yy2 ?_ ?_<;>intro hcmp|refine Ch 165 ?_;refine Ck (hc:=(by first|exact h1|exact h2|exact h3)) ?_;try refine Ce ?_ ?_<;>intro hb|refine Ch 209 ?_;refine Ck (hc:=(by first|exact h4|exact h5)) ?_;try refine Ce ?_ ?_<;>intro hb|refine Ch 179 ?_;refine Ck (hc:=h6) ?_;try refine Ce ?_ ?_<;>intro hb|refine at_nil ?_;refine Cc Sv ?_|refine Cb fun K hK=>?_|apply_assumption -exfalso -symm)
 all_goals
  (refine j1 (k7 ?_))
  simp only[oneOf,Bk,Be]
  (repeat (rename (∀ S:Sd,TC _ _ _ S->_)=>hX;clear hX))
  clear h1 h2 h3 h4 h5 h6;symm;simp only[r8,x4,ne_eq]at *
  grind
theorem qz6 (gl:List (Nat × List D))(x y:Pr)(hl:∀ a∈x.l,∀ b,FnD prog gl 180 [.d (dPr a),.d (dPr b)] (fun v=>v=.d (.bool (eqB a b))))
 (hg:∀ g∈x.guards,∀ a∈g.body,∀ b,FnD prog gl 180 [.d (dPr a),.d (dPr b)] (fun v=>v=.d (.bool (eqB a b))))
 (hb':∀ a∈x.spec.body,∀ b,FnD prog gl 180 [.d (dPr a),.d (dPr b)] (fun v=>v=.d (.bool (eqB a b)))):
 FnD prog gl 180 [.d (dPr x),.d (dPr y)] (fun v=>v=.d (.bool (eqB x y))):=by
 have h1:=jy1 gl x.chan y.chan;have h2:=jy1 gl x.rep.base y.rep.base;have h3:=jy1 gl x.rep.count y.rep.count;have h4:=jl5 gl x.targets y.targets;have h5:=jl5 gl x.exprs y.exprs;have h6:=ki9 gl x.l y.l hl;have h7:=qe1 gl x.guards y.guards fun g hm k=>qk5 gl g k (hg g hm);have h8:=mf9 gl x.spec y.spec hb';have h9:=qd7 gl x.procs y.procs;have e1:=ve0 (a:=x) (b:=y);have e2:=vd7 (a:=x.rep) (b:=y.rep);clear hl hg hb';simp only[k9]at h1 h2 h3;rw[j9]
 (refine j7 func180 ntmps180 results180 fun w M=>?_)
 (repeat' first|refine Ca 2 ?_;(refine Cq 2 ?_)|refine Ca 3 ?_;(refine Cq 3 ?_)|refine yyp ?_;try refine Ce ?_ ?_<;>intro hb|refine yy ?_|refine yy2 ?_ ?_<;>intro hcmp|refine Ch 165 ?_;refine Ck (hc:=(by first|exact h1|exact h2|exact h3)) ?_;try refine Ce ?_ ?_<;>intro hb|refine Ch 209 ?_;refine Ck (hc:=(by first|exact h4|exact h5)) ?_;try refine Ce ?_ ?_<;>intro hb|refine Ch 210 ?_;refine Ck (hc:=h9) ?_;try refine Ce ?_ ?_<;>intro hb|refine Ch 211 ?_;refine Ck (hc:=h7) ?_;try refine Ce ?_ ?_<;>intro hb|refine Ch 179 ?_;refine Ck (hc:=h6) ?_;try refine Ce ?_ ?_<;>intro hb|refine Ch 133 ?_;refine Ck (hc:=h8) ?_;try refine Ce ?_ ?_<;>intro hb|refine at_nil ?_;refine Cc Sv ?_|refine Cb fun K hK=>?_|apply_assumption -exfalso -symm)
 all_goals
  (refine j1 (k7 ?_))
  simp only[oneOf,Bk,Be]
  (repeat (rename (∀ S:Sd,TC _ _ _ S->_)=>hX;clear hX))
  clear h1 h2 h3 h4 h5 h6 h7 h8 h9;symm;simp only[r8,x4,ne_eq]at *
  grind
theorem rm9 (gl:List (Nat × List D)):∀ (m:Nat) (x y:Pr),SizeOf.sizeOf x<=m->FnD prog gl 180 [.d (dPr x),.d (dPr y)] (fun v=>v=.d (.bool (eqB x y))):=by
 intro m
 induction m with
 |zero=>intro x y h;cases x;simp only[Pr.mk.sizeOf_spec]at h;omega
 |succ m ih=>
  intro x y hm;exact qz6 gl x y (fun a ha b=>ih a b (by have:=rt4 ha;omega)) (fun g hg a ha b=>ih a b (by have:=rt5 hg ha;omega)) fun a ha b=>ih a b (by have:=rt6 ha;omega)
theorem rw6 (gl:List (Nat × List D))(x y:Pr):FnD prog gl 180 [.d (dPr x),.d (dPr y)] (fun v=>v=.d (.bool (eqB x y))):=rm9 gl _ x y (Au _)
theorem rw7 (gl:List (Nat × List D))(x y:Sp):FnD prog gl 133 [.d (dSp x),.d (dSp y)] (fun v=>v=.d (.bool (eqB x y))):=mf9 gl x y fun a _ b=>rw6 gl a b
end
end Go.Proofs.YtklklgfpkpglgaaGreatDoor
