/- Parts: O18, O19. -/
import Derived.Test.YtdopmfifmgkmoaaGreatDoorP15
set_option linter.all false
set_option maxRecDepth 100000
set_option maxHeartbeats 16000000
namespace Go.Proofs.YtdopmfifmgkmoaaGreatDoor
open Go.RowKit Go.Proofs.Tryz
section
def Uu:List Nat:=[0,1,2,3,4,5,6]
variable {mm:Int}
theorem jv0 (gl:List (Nat × List D))(x y:Ex):FnD prog gl 84 [.d (dEx x),.d (dEx y)] (fun v=>v=.d (.bool (eqB x y))):=mz3 gl _ x y (As _)
theorem rs0:dEx ex0=.agg [.int .u8 0,.int .u8 0,.int .u8 0,.int .i32 0,.str ⟨#[]⟩,.list 6 []]:=by
 rw[r9];rfl
attribute [local irreducible] TR TC
theorem jy0 (gl:List (Nat × List D))(e:Ex):FnD prog gl 142 [.d (dEx e)] (fun v=>v=.d (.bool (Lx.Jm e))):=by
 have h:=jv0 gl e ex0;unfold Lx.Jm;rw[rs0]at h;simp only[r9]at h ⊢
 (refine j3 func142 ntmps142 results142 fun w M=>?_)
 (repeat' first|refine Ca 1 ?_;(refine j6 1 ?_)|refine yyp ?_;try refine Cc ?_ ?_<;>intro hb|refine yy ?_|refine Cf 84 ?_;refine Cg (hc:=h) ?_;try refine Cc ?_ ?_<;>intro hb|refine at_nil ?_;refine Ce [0,1,2,3,4,5] ?_|refine Cb fun K hK=>?_|apply_assumption -exfalso -symm)
 all_goals
  (refine j0 (j5 ?_))
  simp only[oneOf, *]
theorem jl0 (e:Ex):FnD prog (glS mm) 141 [.d (dEx e)] (fun v=>v=.d (.bool (Lx.Hf e))):=by
 have h:=ji8 (mm:=mm) e;unfold Lx.Hf;simp only[r9]at h ⊢
 (refine j3 func141 ntmps141 results141 fun w M=>?_)
 (repeat' first|refine Ca 1 ?_;(refine j6 1 ?_)|refine yyp ?_;try refine Cc ?_ ?_<;>intro hb|refine yy ?_|refine yy2 ?_ ?_<;>intro hcmp|refine Cf 144 ?_;refine Cg (hc:=h) ?_;try refine Cc ?_ ?_<;>intro hb|refine at_nil ?_;refine Ce Uu ?_|refine Cb fun K hK=>?_|apply_assumption -exfalso -symm)
 all_goals
  (refine j0 (j5 ?_))
  simp only[oneOf, *,decide_true,decide_false,Ee,Eh,Ea,Bc,Av]
  try rfl
theorem mj7 (t:Ty):FnD prog (glS mm) 185 [.d (dTy t)] (fun v=>v=.d (.bool (Lx.Ru t))):=by
 have h:=kq9 (mm:=mm) t
 (refine j3 func185 ntmps185 results185 fun w M=>?_)
 (repeat' first|refine Ca 1 ?_;(refine j6 1 ?_)|refine yyp ?_;try refine Cc ?_ ?_<;>intro hb|refine yy ?_|refine yy2 ?_ ?_<;>intro hcmp|refine Cf 184 ?_;refine Cg (hc:=h) ?_;try refine Cc ?_ ?_<;>intro hb|refine at_nil ?_;refine Ce Uu ?_|refine Cb fun K hK=>?_|apply_assumption -exfalso -symm)
 all_goals
  (refine j0 (j5 ?_))
  simp only[oneOf,Ax,An,Lx.Ru]
  (repeat (rename (∀ S:Sd,TC _ _ _ S->_)=>hX;clear hX))
  clear h;simp only[jf0,Lx.Qp]at *
  grind [Lx.prim]
theorem mz4 (f:Fo):FnD prog (glS mm) 188 [.d (dFo f)] (fun v=>v=.d (.bool (Lx.Mg f))):=by
 have h:=kq9 (mm:=mm) f.type;have h2:=mj7 (mm:=mm) f.type
 (refine j3 func188 ntmps188 results188 fun w M=>?_)
 (repeat' first|refine Ca 1 ?_;(refine j6 1 ?_)|refine yyp ?_;try refine Cc ?_ ?_<;>intro hb|refine yy ?_|refine Cf 140 ?_;refine Cg (hc:=(ji7 f.name)) ?_;try refine Cc ?_ ?_<;>intro hb|refine Cf 184 ?_;refine Cg (hc:=h) ?_;try refine Cc ?_ ?_<;>intro hb|refine Cf 185 ?_;refine Cg (hc:=h2) ?_;try refine Cc ?_ ?_<;>intro hb|refine at_nil ?_;refine Ce Uu ?_|refine Cb fun K hK=>?_|apply_assumption -exfalso -symm)
 all_goals
  (refine j0 (j5 ?_))
  simp only[oneOf,Ax,An,Lx.Mg]
  (repeat (rename (∀ S:Sd,TC _ _ _ S->_)=>hX;clear hX))
  clear h h2
  grind
theorem rj7 (r:Rp):FnD prog (glS mm) 134 [.d (dRp r)] (fun v=>v=.d (.bool (Lx.Iz r))):=by
 have h1:=jy0 (glS mm) r.base;have h2:=jy0 (glS mm) r.count;have h3:=ji8 (mm:=mm) r.base;have h4:=ji8 (mm:=mm) r.count;simp only[r9]at h1 h2 h3 h4
 (refine j3 func134 ntmps134 results134 fun w M=>?_)
 (repeat' first|refine Ca 1 ?_;(refine j6 1 ?_)|refine yyp ?_;try refine Cc ?_ ?_<;>intro hb|refine yy ?_|refine yy2 ?_ ?_<;>intro hcmp|refine Cf 142 ?_;refine Cg (hc:=(by first|exact h1|exact h2)) ?_;try refine Cc ?_ ?_<;>intro hb|refine Cf 140 ?_;refine Cg (hc:=(ji7 r.name)) ?_;try refine Cc ?_ ?_<;>intro hb|refine Cf 144 ?_;refine Cg (hc:=(by first|exact h3|exact h4)) ?_;try refine Cc ?_ ?_<;>intro hb|refine at_nil ?_;refine Ce Uu ?_|refine Cb fun K hK=>?_|apply_assumption -exfalso -symm)
 all_goals
  (refine j0 (j5 ?_))
  simp only[oneOf,Ax,An,Lx.Iz]
  (repeat (rename (∀ S:Sd,TC _ _ _ S->_)=>hX;clear hX))
  clear h1 h2 h3 h4;simp only[jf0]at *
  grind
def ro4 (u:Lx.Uses):D:=.agg [.bool u.rep,.bool u.name,.bool u.channel,.bool u.spec,.bool u.procs,.int .i64 u.t0,.int .i64 u.t1,.int .i64 u.e0,.int .i64 u.e1,.int .i64 u.p0,.int .i64 u.p1,.int .i64 u.g0,.int .i64 u.g1,.int .u8 u.a,.int .u8 u.b]
theorem mz5 (k:Int):FnD prog (glS mm) 133 [.d (.int .u8 k)] (fun v=>v=.tup [.d (ro4 (Lx.Ia k).1),.d (.bool (Lx.Ia k).2)]):=by
 unfold Lx.Ia
 (refine j3 func133 ntmps133 results133 fun w M=>?_)
 (repeat' first|refine Ca 2 ?_;(refine Cj 2 ?_)|refine Ca 8 ?_;refine z_p Cr ?_|refine Ca 13 ?_;refine z_p Cr ?_|refine Ca 17 ?_;refine z_p Cr ?_|refine Ca 21 ?_;refine z_p Cr ?_|refine Ca 25 ?_;refine z_p Cr ?_|refine Ca 29 ?_;refine z_p Cr ?_|refine Ca 34 ?_;refine z_p Cr ?_|refine Ca 38 ?_;refine z_p Cr ?_|refine Ca 42 ?_;refine z_p Cr ?_|refine Ca 47 ?_;refine z_p Cr ?_|refine Ca 51 ?_;refine z_p Cr ?_|refine Ca 56 ?_;refine z_p Cr ?_|refine Ca 61 ?_;refine z_p Cr ?_|refine Ca 65 ?_;refine z_p Cr ?_|refine Ca 69 ?_;refine z_p Cr ?_|refine Ca 70 ?_;refine z_p Cr ?_|refine yyp ?_;try refine Cc ?_ ?_<;>intro hb|refine yy ?_|refine yy2 ?_ ?_<;>intro hcmp|refine at_nil ?_;refine Ce [0,2,3,4,5,6,9,14,18,22,26,30,35,39,43,48,52,57,62,66,191] ?_|refine Cb fun K hK=>?_|apply_assumption -exfalso -symm)
 all_goals
  (refine j0 (j5 ?_))
  simp only[*,or_true,true_or,or_self,if_true,if_false,Int.reduceEq]
  try rfl
end
section
def Tc:List Nat:=[0,1,2,3,4,5,6,7]
theorem mv0 {p x:Pr}(h:x∈p.l):SizeOf.sizeOf x<SizeOf.sizeOf p:=by
 cases p;have:=List.sizeOf_lt_of_mem h;simp only[Pr.l,Pr.mk.sizeOf_spec]at *;omega
theorem mv1 {p x:Pr}{g:Gu}(hg:g∈p.guards)(hx:x∈g.body):SizeOf.sizeOf x<SizeOf.sizeOf p:=by
 cases p;cases g;have h1:=List.sizeOf_lt_of_mem hg;have h2:=List.sizeOf_lt_of_mem hx;simp only[Pr.guards,Gu.body,Pr.mk.sizeOf_spec,Gu.mk.sizeOf_spec]at *;omega
theorem mv2 {p x:Pr}(h:x∈p.spec.body):SizeOf.sizeOf x<SizeOf.sizeOf p:=by
 obtain⟨_,_,_,_,_,_,_,_,_,⟨⟩⟩:=p;have:=List.sizeOf_lt_of_mem h;simp only[Pr.spec,Sp.body,Pr.mk.sizeOf_spec,Sp.mk.sizeOf_spec]at *;omega
theorem rj8 {a b:Ty}:a=b↔a.kind=b.kind/\a.dim=b.dim/\a.item=b.item/\a.proto=b.proto/\True:=by
 cases a;cases b;simp
theorem rj9 {a b:Pt}:a=b↔a.cases=b.cases/\a.l=b.l:=by
 cases a;cases b;simp
theorem rk0 {a b:Rp}:a=b↔a.name=b.name/\a.base=b.base/\a.count=b.count:=by
 cases a;cases b;simp
theorem rk1 {a b:Sp}:a=b↔a.kind=b.kind/\a.type=b.type/\a.names=b.names/\a.e=b.e/\a.proto=b.proto/\a.formals=b.formals/\a.body=b.body:=by
 cases a;cases b;simp[Sp.kind,Sp.type,Sp.names,Sp.e,Sp.proto,Sp.formals,Sp.body]
theorem rk2 {a b:Gu}:a=b↔a.kind=b.kind/\a.name=b.name/\a.cond=b.cond/\a.chan=b.chan/\a.targets=b.targets/\a.values=b.values/\a.time=b.time/\a.body=b.body:=by
 cases a;cases b;simp[Gu.kind,Gu.name,Gu.cond,Gu.chan,Gu.targets,Gu.values,Gu.time,Gu.body]
theorem rk3 {a b:Pr}:a=b↔a.kind=b.kind/\a.name=b.name/\a.chan=b.chan/\a.targets=b.targets/\a.exprs=b.exprs/\a.rep=b.rep/\a.guards=b.guards/\a.l=b.l/\a.procs=b.procs/\a.spec=b.spec:=by
 cases a;cases b;simp[Pr.kind,Pr.name,Pr.chan,Pr.targets,Pr.exprs,Pr.rep,Pr.guards,Pr.l,Pr.procs,Pr.spec]
attribute [local irreducible] TR TC
theorem rk4 (gl:List (Nat × List D))(x y:Va):FnD prog gl 155 [.d (dVa x),.d (dVa y)] (fun v=>v=.d (.bool (eqB x y))):=by
 have h:=qn7 gl x.items y.items;have hxy:=rj5 (a:=x) (b:=y)
 (refine j3 func155 ntmps155 results155 fun w M=>?_)
 (repeat' first|refine Ca 2 ?_;(refine j6 2 ?_)|refine Ca 3 ?_;(refine j6 3 ?_)|refine yyp ?_;try refine Cc ?_ ?_<;>intro hb|refine yy ?_|refine yy2 ?_ ?_<;>intro hcmp|refine Cf 156 ?_;refine Cg (hc:=h) ?_;try refine Cc ?_ ?_<;>intro hb|refine at_nil ?_;refine Ce Tc ?_|refine Cb fun K hK=>?_|apply_assumption -exfalso -symm)
 all_goals
  (refine j0 (j5 ?_))
  simp only[oneOf,Ax,An]
  (repeat (rename (∀ S:Sd,TC _ _ _ S->_)=>hX;clear hX))
  clear h;symm;simp only[k7,v7,ne_eq]at *
  grind
theorem ji9 (gl:List (Nat × List D))(x y:List Ex):FnD prog gl 85 [.d (.list 6 (x.map dEx)),.d (.list 6 (y.map dEx))] (fun v=>v=.d (.bool (eqB x y))):=by
 have h:=my3 gl x y fun a _ b=>jv0 gl a b
 (refine j3 func85 ntmps85 results85 fun w M=>?_)
 (repeat' first|refine yyp ?_;try refine Cc ?_ ?_<;>intro hb|refine yy ?_|refine Cf 124 ?_;refine Cg (hc:=h) ?_;try refine Cc ?_ ?_<;>intro hb|refine at_nil ?_;refine Ce [0,1,4,5,6,7] ?_|refine Cb fun K hK=>?_|apply_assumption -exfalso -symm)
 all_goals
  (refine j0 (j5 ?_))
  simp only[oneOf, *]
def Lx.Wo (a b:Sp):Prop:=a.kind=b.kind/\a.type=b.type/\a.names=b.names/\a.e=b.e/\a.proto=b.proto/\a.formals=b.formals/\a.body.length=b.body.length
open Classical in
noncomputable def Lx.Us (a b:Sp):Bool:=decide (Lx.Wo a b)
theorem jv1 (gl:List (Nat × List D))(x y:Sp):FnD prog gl 125 [.d (dSp x),.d (dSp y)] (fun v=>v=.d (.bool (Lx.Us x y))):=by
 have h1:=my2 gl x.names y.names;have h2:=jv0 gl x.e y.e;have h3:=my4 gl x.proto.l y.proto.l fun a _ b=>rk4 gl a b;have h4:=qn8 gl x.formals y.formals;have e1:=rj8 (a:=x.type) (b:=y.type);have e2:=rj9 (a:=x.proto) (b:=y.proto);simp only[r9]at h2
 (refine j3 func125 ntmps125 results125 fun w M=>?_)
 (repeat' first|refine Ca 2 ?_;(refine j6 2 ?_)|refine Ca 3 ?_;(refine j6 3 ?_)|refine yyp ?_;try refine Cc ?_ ?_<;>intro hb|refine yy ?_|refine yy2 ?_ ?_<;>intro hcmp|refine Cf 157 ?_;refine Cg (hc:=h1) ?_;try refine Cc ?_ ?_<;>intro hb|refine Cf 84 ?_;refine Cg (hc:=h2) ?_;try refine Cc ?_ ?_<;>intro hb|refine Cf 158 ?_;refine Cg (hc:=h3) ?_;try refine Cc ?_ ?_<;>intro hb|refine Cf 159 ?_;refine Cg (hc:=h4) ?_;try refine Cc ?_ ?_<;>intro hb|refine at_nil ?_;refine Ce Tc ?_|refine Cb fun K hK=>?_|apply_assumption -exfalso -symm)
 all_goals
  (refine j0 (j5 ?_))
  simp only[oneOf,Ax,An,Lx.Us]
  (repeat (rename (∀ S:Sd,TC _ _ _ S->_)=>hX;clear hX))
  clear h1 h2 h3 h4;symm;simp only[k7,v7,ne_eq,Al,decide_eq_false_iff_not,Lx.Wo,Eb,beq_eq_false_iff_ne]at *
  grind
theorem ky6 (gl:List (Nat × List D))(x y:Sp)(h:∀ a∈x.body,∀ b,FnD prog gl 49 [.d (dPr a),.d (dPr b)] (fun v=>v=.d (.bool (eqB a b)))):
 FnD prog gl 90 [.d (dSp x),.d (dSp y)] (fun v=>v=.d (.bool (eqB x y))):=by
 have h1:=jv1 gl x y;have h2:=ke7 gl x.body y.body h;have e1:=rk1 (a:=x) (b:=y);clear h
 (refine j3 func90 ntmps90 results90 fun w M=>?_)
 (repeat' first|refine Ca 2 ?_;(refine j6 2 ?_)|refine Ca 3 ?_;(refine j6 3 ?_)|refine yyp ?_;try refine Cc ?_ ?_<;>intro hb|refine yy ?_|refine Cf 125 ?_;refine Cg (hc:=h1) ?_;try refine Cc ?_ ?_<;>intro hb|refine Cf 89 ?_;refine Cg (hc:=h2) ?_;try refine Cc ?_ ?_<;>intro hb|refine at_nil ?_;refine Ce Tc ?_|refine Cb fun K hK=>?_|apply_assumption -exfalso -symm)
 all_goals
  (refine j0 (j5 ?_))
  simp only[oneOf,Ax,An]
  (repeat (rename (∀ S:Sd,TC _ _ _ S->_)=>hX;clear hX))
  clear h1 h2;symm;simp only[k7,v7,ne_eq,Al,decide_eq_false_iff_not,Lx.Wo,Lx.Us]at *
  grind
theorem mz6 (gl:List (Nat × List D))(x y:Gu)(h:∀ a∈x.body,∀ b,FnD prog gl 49 [.d (dPr a),.d (dPr b)] (fun v=>v=.d (.bool (eqB a b)))):
 FnD prog gl 88 [.d (dGu x),.d (dGu y)] (fun v=>v=.d (.bool (eqB x y))):=by
 have h1:=jv0 gl x.cond y.cond;have h2:=jv0 gl x.chan y.chan;have h3:=jv0 gl x.time y.time;have h4:=ji9 gl x.targets y.targets;have h5:=ji9 gl x.values y.values;have h6:=ke7 gl x.body y.body h;have e1:=rk2 (a:=x) (b:=y);clear h;simp only[r9]at h1 h2 h3;rw[je9]
 (refine j3 func88 ntmps88 results88 fun w M=>?_)
 (repeat' first|refine Ca 2 ?_;(refine j6 2 ?_)|refine Ca 3 ?_;(refine j6 3 ?_)|refine yyp ?_;try refine Cc ?_ ?_<;>intro hb|refine yy ?_|refine yy2 ?_ ?_<;>intro hcmp|refine Cf 84 ?_;refine Cg (hc:=(by first|exact h1|exact h2|exact h3)) ?_;try refine Cc ?_ ?_<;>intro hb|refine Cf 85 ?_;refine Cg (hc:=(by first|exact h4|exact h5)) ?_;try refine Cc ?_ ?_<;>intro hb|refine Cf 89 ?_;refine Cg (hc:=h6) ?_;try refine Cc ?_ ?_<;>intro hb|refine at_nil ?_;refine Ce Tc ?_|refine Cb fun K hK=>?_|apply_assumption -exfalso -symm)
 all_goals
  (refine j0 (j5 ?_))
  simp only[oneOf,Ax,An]
  (repeat (rename (∀ S:Sd,TC _ _ _ S->_)=>hX;clear hX))
  clear h1 h2 h3 h4 h5 h6;symm;simp only[k7,v7,ne_eq]at *
  grind
theorem qo7 (gl:List (Nat × List D))(x y:Pr)(hl:∀ a∈x.l,∀ b,FnD prog gl 49 [.d (dPr a),.d (dPr b)] (fun v=>v=.d (.bool (eqB a b))))
 (hg:∀ g∈x.guards,∀ a∈g.body,∀ b,FnD prog gl 49 [.d (dPr a),.d (dPr b)] (fun v=>v=.d (.bool (eqB a b))))
 (hb':∀ a∈x.spec.body,∀ b,FnD prog gl 49 [.d (dPr a),.d (dPr b)] (fun v=>v=.d (.bool (eqB a b)))):
 FnD prog gl 49 [.d (dPr x),.d (dPr y)] (fun v=>v=.d (.bool (eqB x y))):=by
 have h1:=jv0 gl x.chan y.chan;have h2:=jv0 gl x.rep.base y.rep.base;have h3:=jv0 gl x.rep.count y.rep.count;have h4:=ji9 gl x.targets y.targets;have h5:=ji9 gl x.exprs y.exprs;have h6:=ke7 gl x.l y.l hl;have h7:=my5 gl x.guards y.guards fun g hm k=>mz6 gl g k (hg g hm);have h8:=ky6 gl x.spec y.spec hb';have h9:=my1 gl x.procs y.procs;have e1:=rk3 (a:=x) (b:=y);have e2:=rk0 (a:=x.rep) (b:=y.rep);clear hl hg hb';simp only[r9]at h1 h2 h3;rw[v8]
 (refine j3 func49 ntmps49 results49 fun w M=>?_)
 (repeat' first|refine Ca 2 ?_;(refine j6 2 ?_)|refine Ca 3 ?_;(refine j6 3 ?_)|refine yyp ?_;try refine Cc ?_ ?_<;>intro hb|refine yy ?_|refine yy2 ?_ ?_<;>intro hcmp|refine Cf 84 ?_;refine Cg (hc:=(by first|exact h1|exact h2|exact h3)) ?_;try refine Cc ?_ ?_<;>intro hb|refine Cf 85 ?_;refine Cg (hc:=(by first|exact h4|exact h5)) ?_;try refine Cc ?_ ?_<;>intro hb|refine Cf 86 ?_;refine Cg (hc:=h9) ?_;try refine Cc ?_ ?_<;>intro hb|refine Cf 87 ?_;refine Cg (hc:=h7) ?_;try refine Cc ?_ ?_<;>intro hb|refine Cf 89 ?_;refine Cg (hc:=h6) ?_;try refine Cc ?_ ?_<;>intro hb|refine Cf 90 ?_;refine Cg (hc:=h8) ?_;try refine Cc ?_ ?_<;>intro hb|refine at_nil ?_;refine Ce Tc ?_|refine Cb fun K hK=>?_|apply_assumption -exfalso -symm)
 all_goals
  (refine j0 (j5 ?_))
  simp only[oneOf,Ax,An]
  (repeat (rename (∀ S:Sd,TC _ _ _ S->_)=>hX;clear hX))
  clear h1 h2 h3 h4 h5 h6 h7 h8 h9;symm;simp only[k7,v7,ne_eq]at *
  grind
theorem mz7 (gl:List (Nat × List D)):∀ (m:Nat) (x y:Pr),SizeOf.sizeOf x<=m->FnD prog gl 49 [.d (dPr x),.d (dPr y)] (fun v=>v=.d (.bool (eqB x y))):=by
 intro m
 induction m with
 |zero=>intro x y h;cases x;simp only[Pr.mk.sizeOf_spec]at h;omega
 |succ m ih=>
  intro x y hm;exact qo7 gl x y (fun a ha b=>ih a b (by have:=mv0 ha;omega)) (fun g hg a ha b=>ih a b (by have:=mv1 hg ha;omega)) fun a ha b=>ih a b (by have:=mv2 ha;omega)
theorem rk5 (gl:List (Nat × List D))(x y:Pr):FnD prog gl 49 [.d (dPr x),.d (dPr y)] (fun v=>v=.d (.bool (eqB x y))):=mz7 gl _ x y (As _)
theorem rk6 (gl:List (Nat × List D))(x y:Sp):FnD prog gl 90 [.d (dSp x),.d (dSp y)] (fun v=>v=.d (.bool (eqB x y))):=ky6 gl x y fun a _ b=>rk5 gl a b
end
end Go.Proofs.YtdopmfifmgkmoaaGreatDoor
