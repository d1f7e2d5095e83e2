/- Parts. -/
import Derived.Test.YtklklgfpkpglgaaGreatDoorW17
set_option linter.all false
set_option maxRecDepth 100000
set_option maxHeartbeats 0
namespace Go.Proofs.YtklklgfpkpglgaaGreatDoor
open Go.RowKit Go.Proofs.Tryz Lx
variable (gl:List (Nat × List D))
section
def Ve:List Nat:=[0,1,2,3,4,5,6]
variable {mm:Int}
theorem jw6 (x y:Ex):FnD prog gl 165 [.d (dEx x),.d (dEx y)] (λv=>v=.d (.bool (eqB x y))):=qd9 gl _ x y (Au _)
theorem vi4:dEx ex0=.agg [.int .u8 0,.int .u8 0,.int .u8 0,.int .i32 0,.str ⟨#[]⟩,.list 6 []]:=by
 rw[k9];rfl
attribute [local irreducible] TR TC
theorem ka7 (e:Ex):FnD prog gl 127 [.d (dEx e)] (λv=>v=.d (.bool (Iy e))):=by
 have h:=jw6 gl e ex0;unfold Iy;rw[vi4]at h;simp only[k9]at h ⊢
 (refine j5 func127 ntmps127 results127 λw M=>?_)
 (repeat' first|apply Ca 1;(refine Cm 1 ?_)|refine yyp ?_;try refine Ce ?_ ?_<;>intro hb|refine yy ?_|apply Cg 165;refine Ci (hc:=h) ?_;try refine Ce ?_ ?_<;>intro hb|apply ah;refine Cc [0,1,2,3,4,5] ?_|refine Cb λK hK=>?_|apply_assumption -exfalso -symm)
 all_goals
  (refine j1 (j8 ?_))
  simp only[aF, *]
theorem Ke (e:Ex):FnD prog (glS mm) 126 [.d (dEx e)] (λv=>v=.d (.bool (Gd e))):=by
 have h:=jk5 (mm:=mm) e;unfold Gd;simp only[k9]at h ⊢
 (refine j5 func126 ntmps126 results126 λw M=>?_)
 (repeat' first|apply Ca 1;(refine Cm 1 ?_)|refine yyp ?_;try refine Ce ?_ ?_<;>intro hb|refine yy ?_|refine yy2 ?_ ?_<;>intro hcmp|apply Cg 129;refine Ci (hc:=h) ?_;try refine Ce ?_ ?_<;>intro hb|apply ah;refine Cc Ve ?_|refine Cb λK hK=>?_|apply_assumption -exfalso -symm)
 all_goals
  (refine j1 (j8 ?_))
  simp only[aF, *,decide_true,decide_false,Eg,Eh,Ed,Bf,Ay]
  try rfl
theorem mp4 (t:Ty):FnD prog (glS mm) 173 [.d (dTy t)] (λv=>v=.d (.bool (Qp t))):=by
 have h:=ku0 (mm:=mm) t
 (refine j5 func173 ntmps173 results173 λw M=>?_)
 (repeat' first|apply Ca 1;(refine Cm 1 ?_)|refine yyp ?_;try refine Ce ?_ ?_<;>intro hb|refine yy ?_|refine yy2 ?_ ?_<;>intro hcmp|apply Cg 172;refine Ci (hc:=h) ?_;try refine Ce ?_ ?_<;>intro hb|apply ah;refine Cc Ve ?_|refine Cb λK hK=>?_|apply_assumption -exfalso -symm)
 all_goals
  (refine j1 (j8 ?_))
  simp only[aF,Aw,Aq,Qp]
  (repeat (rename (∀ S,TC _ _ _ S->_)=>hX;clear hX))
  clear h;simp only[jf7,Ol]at *
  grind [Lx.prim]
theorem qe0 (f:Fo):FnD prog (glS mm) 176 [.d (dFo f)] (λv=>v=.d (.bool (Md f))):=by
 have h:=ku0 (mm:=mm) f.type;have h2:=mp4 (mm:=mm) f.type
 (refine j5 func176 ntmps176 results176 λw M=>?_)
 (repeat' first|apply Ca 1;(refine Cm 1 ?_)|refine yyp ?_;try refine Ce ?_ ?_<;>intro hb|refine yy ?_|apply Cg 125;refine Ci (hc:=(jk4 f.name)) ?_;try refine Ce ?_ ?_<;>intro hb|apply Cg 172;refine Ci (hc:=h) ?_;try refine Ce ?_ ?_<;>intro hb|apply Cg 173;refine Ci (hc:=h2) ?_;try refine Ce ?_ ?_<;>intro hb|apply ah;refine Cc Ve ?_|refine Cb λK hK=>?_|apply_assumption -exfalso -symm)
 all_goals
  (refine j1 (j8 ?_))
  simp only[aF,Aw,Aq,Md]
  (repeat (rename (∀ S,TC _ _ _ S->_)=>hX;clear hX))
  clear h h2
  grind
theorem rv5 (r:Rp):FnD prog (glS mm) 119 [.d (dRp r)] (λv=>v=.d (.bool (Ii r))):=by
 have h1:=ka7 (glS mm) r.base;have h2:=ka7 (glS mm) r.count;have h3:=jk5 (mm:=mm) r.base;have h4:=jk5 (mm:=mm) r.count;simp only[k9]at h1 h2 h3 h4
 (refine j5 func119 ntmps119 results119 λw M=>?_)
 (repeat' first|apply Ca 1;(refine Cm 1 ?_)|refine yyp ?_;try refine Ce ?_ ?_<;>intro hb|refine yy ?_|refine yy2 ?_ ?_<;>intro hcmp|apply Cg 127;refine Ci (hc:=(by first|exact h1|exact h2)) ?_;try refine Ce ?_ ?_<;>intro hb|apply Cg 125;refine Ci (hc:=(jk4 r.name)) ?_;try refine Ce ?_ ?_<;>intro hb|apply Cg 129;refine Ci (hc:=(by first|exact h3|exact h4)) ?_;try refine Ce ?_ ?_<;>intro hb|apply ah;refine Cc Ve ?_|refine Cb λK hK=>?_|apply_assumption -exfalso -symm)
 all_goals
  (refine j1 (j8 ?_))
  simp only[aF,Aw,Aq,Ii]
  (repeat (rename (∀ S,TC _ _ _ S->_)=>hX;clear hX))
  clear h1 h2 h3 h4;simp only[jf7]at *
  grind
def vd4 (u:Lx.Uses):D:=.agg [.bool u.rep,.bool u.name,.bool u.channel,.bool u.spec,.bool u.ay,.int .i64 u.t0,.int .i64 u.t1,.int .i64 u.e0,.int .i64 u.e1,.int .i64 u.p0,.int .i64 u.p1,.int .i64 u.g0,.int .i64 u.g1,.int .u8 u.a,.int .u8 u.b]
theorem qe1 (k:Int):FnD prog (glS mm) 118 [.d (.int .u8 k)] (λv=>v=.tup [.d (vd4 (Gx k).1),.d (.bool (Gx k).2)]):=by
 unfold Gx
 (refine j5 func118 ntmps118 results118 λw M=>?_)
 (repeat' first|apply Ca 2;(refine j3 2 ?_)|apply Ca 8;refine z_p Cq ?_|apply Ca 13;refine z_p Cq ?_|apply Ca 17;refine z_p Cq ?_|apply Ca 21;refine z_p Cq ?_|apply Ca 25;refine z_p Cq ?_|apply Ca 29;refine z_p Cq ?_|apply Ca 34;refine z_p Cq ?_|apply Ca 38;refine z_p Cq ?_|apply Ca 42;refine z_p Cq ?_|apply Ca 47;refine z_p Cq ?_|apply Ca 51;refine z_p Cq ?_|apply Ca 56;refine z_p Cq ?_|apply Ca 61;refine z_p Cq ?_|apply Ca 65;refine z_p Cq ?_|apply Ca 69;refine z_p Cq ?_|apply Ca 70;refine z_p Cq ?_|refine yyp ?_;try refine Ce ?_ ?_<;>intro hb|refine yy ?_|refine yy2 ?_ ?_<;>intro hcmp|apply ah;refine Cc [0,2,3,4,5,6,9,14,18,22,26,30,35,39,43,48,52,57,62,66,178] ?_|refine Cb λK hK=>?_|apply_assumption -exfalso -symm)
 all_goals
  (refine j1 (j8 ?_))
  simp only[*,or_true,true_or,or_self,if_true,if_false,Int.reduceEq]
  try rfl
end
section
def Tq:List Nat:=[0,1,2,3,4,5,6,7]
theorem rk7 {p x:Pr}(h:x∈p.l):SizeOf.sizeOf x<SizeOf.sizeOf p:=by
 cases p;have:=Fm h;simp only[Pr.l,Pr.mk.sizeOf_spec]at *;omega
theorem rk8 {p x:Pr}{g:Gu}(hg:g∈p.ak)(hx:x∈g.body):SizeOf.sizeOf x<SizeOf.sizeOf p:=by
 cases p;cases g;have h1:=Fm hg;have h2:=Fm hx;simp only[Pr.ak,Gu.body,Pr.mk.sizeOf_spec,Gu.mk.sizeOf_spec]at *;omega
theorem rk9 {p x:Pr}(h:x∈p.spec.body):SizeOf.sizeOf x<SizeOf.sizeOf p:=by
 obtain⟨_,_,_,_,_,_,_,_,_,⟨⟩⟩:=p;have:=Fm h;simp only[Pr.spec,Sp.body,Pr.mk.sizeOf_spec,Sp.mk.sizeOf_spec]at *;omega
theorem rv6 {a b:Ty}:a=b↔a.kind=b.kind/\a.dim=b.dim/\a.item=b.item/\a.aN=b.aN/\True:=by
 cases a;cases b;simp
theorem rv7 {a b:Pt}:a=b↔a.cases=b.cases/\a.l=b.l:=by
 cases a;cases b;simp
theorem rv8 {a b:Rp}:a=b↔a.name=b.name/\a.base=b.base/\a.count=b.count:=by
 cases a;cases b;simp
theorem rv9 {a b:Sp}:a=b↔a.kind=b.kind/\a.type=b.type/\a.names=b.names/\a.e=b.e/\a.aN=b.aN/\a.ax=b.ax/\a.body=b.body:=by
 cases a;cases b;simp[Sp.kind,Sp.type,Sp.names,Sp.e,Sp.aN,Sp.ax,Sp.body]
theorem rw0 {a b:Gu}:a=b↔a.kind=b.kind/\a.name=b.name/\a.cond=b.cond/\a.av=b.av/\a.aj=b.aj/\a.values=b.values/\a.time=b.time/\a.body=b.body:=by
 cases a;cases b;simp[Gu.kind,Gu.name,Gu.cond,Gu.av,Gu.aj,Gu.values,Gu.time,Gu.body]
theorem rw1 {a b:Pr}:a=b↔a.kind=b.kind/\a.name=b.name/\a.av=b.av/\a.aj=b.aj/\a.au=b.au/\a.rep=b.rep/\a.ak=b.ak/\a.l=b.l/\a.ay=b.ay/\a.spec=b.spec:=by
 cases a;cases b;simp[Pr.kind,Pr.name,Pr.av,Pr.aj,Pr.au,Pr.rep,Pr.ak,Pr.l,Pr.ay,Pr.spec]
attribute [local irreducible] TR TC
theorem rw2 (x y:Va):FnD prog gl 204 [.d (dVa x),.d (dVa y)] (λv=>v=.d (.bool (eqB x y))):=by
 have h:=qu5 gl x.items y.items;have hxy:=rv3 (a:=x) (b:=y)
 (refine j5 func204 ntmps204 results204 λw M=>?_)
 (repeat' first|apply Ca 2;(refine Cm 2 ?_)|apply Ca 3;(refine Cm 3 ?_)|refine yyp ?_;try refine Ce ?_ ?_<;>intro hb|refine yy ?_|refine yy2 ?_ ?_<;>intro hcmp|apply Cg 205;refine Ci (hc:=h) ?_;try refine Ce ?_ ?_<;>intro hb|apply ah;refine Cc Tq ?_|refine Cb λK hK=>?_|apply_assumption -exfalso -symm)
 all_goals
  (refine j1 (j8 ?_))
  simp only[aF,Aw,Aq]
  (repeat (rename (∀ S,TC _ _ _ S->_)=>hX;clear hX))
  clear h;symm;simp only[r8,v7,ne_eq]at *
  grind
theorem jk6 (x y:List Ex):FnD prog gl 209 [.d (.list 6 (x.map dEx)),.d (.list 6 (y.map dEx))] (λv=>v=.d (.bool (eqB x y))):=by
 have h:=qc9 gl x y λa _ b=>jw6 gl a b
 (refine j5 func209 ntmps209 results209 λw M=>?_)
 (repeat' first|refine yyp ?_;try refine Ce ?_ ?_<;>intro hb|refine yy ?_|apply Cg 224;refine Ci (hc:=h) ?_;try refine Ce ?_ ?_<;>intro hb|apply ah;refine Cc [0,1,4,5,6,7] ?_|refine Cb λK hK=>?_|apply_assumption -exfalso -symm)
 all_goals
  (refine j1 (j8 ?_))
  simp only[aF, *]
def Lx.Xh (a b:Sp):Prop:=a.kind=b.kind/\a.type=b.type/\a.names=b.names/\a.e=b.e/\a.aN=b.aN/\a.ax=b.ax/\a.body.length=b.body.length
open Classical in
noncomputable def Lx.Vi (a b:Sp):Bool:=decide (Xh a b)
theorem jw7 (x y:Sp):FnD prog gl 178 [.d (dSp x),.d (dSp y)] (λv=>v=.d (.bool (Vi x y))):=by
 have h1:=qc8 gl x.names y.names;have h2:=jw6 gl x.e y.e;have h3:=qd0 gl x.aN.l y.aN.l λa _ b=>rw2 gl a b;have h4:=qu6 gl x.ax y.ax;have e1:=rv6 (a:=x.type) (b:=y.type);have e2:=rv7 (a:=x.aN) (b:=y.aN);simp only[k9]at h2
 (refine j5 func178 ntmps178 results178 λw M=>?_)
 (repeat' first|apply Ca 2;(refine Cm 2 ?_)|apply Ca 3;(refine Cm 3 ?_)|refine yyp ?_;try refine Ce ?_ ?_<;>intro hb|refine yy ?_|refine yy2 ?_ ?_<;>intro hcmp|apply Cg 206;refine Ci (hc:=h1) ?_;try refine Ce ?_ ?_<;>intro hb|apply Cg 165;refine Ci (hc:=h2) ?_;try refine Ce ?_ ?_<;>intro hb|apply Cg 207;refine Ci (hc:=h3) ?_;try refine Ce ?_ ?_<;>intro hb|apply Cg 208;refine Ci (hc:=h4) ?_;try refine Ce ?_ ?_<;>intro hb|apply ah;refine Cc Tq ?_|refine Cb λK hK=>?_|apply_assumption -exfalso -symm)
 all_goals
  (refine j1 (j8 ?_))
  simp only[aF,Aw,Aq,Vi]
  (repeat (rename (∀ S,TC _ _ _ S->_)=>hX;clear hX))
  clear h1 h2 h3 h4;symm;simp only[r8,v7,ne_eq,Aj,decide_eq_false_iff_not,Xh,Ee,beq_eq_false_iff_ne]at *
  grind
theorem mc4 (x y:Sp)(h:∀ a∈x.body,∀ b,FnD prog gl 180 [.d (dPr a),.d (dPr b)] (λv=>v=.d (.bool (eqB a b)))):
 FnD prog gl 133 [.d (dSp x),.d (dSp y)] (λv=>v=.d (.bool (eqB x y))):=by
 have h1:=jw7 gl x y;have h2:=kh6 gl x.body y.body h;have e1:=rv9 (a:=x) (b:=y);clear h
 (refine j5 func133 ntmps133 results133 λw M=>?_)
 (repeat' first|apply Ca 2;(refine Cm 2 ?_)|apply Ca 3;(refine Cm 3 ?_)|refine yyp ?_;try refine Ce ?_ ?_<;>intro hb|refine yy ?_|apply Cg 178;refine Ci (hc:=h1) ?_;try refine Ce ?_ ?_<;>intro hb|apply Cg 179;refine Ci (hc:=h2) ?_;try refine Ce ?_ ?_<;>intro hb|apply ah;refine Cc Tq ?_|refine Cb λK hK=>?_|apply_assumption -exfalso -symm)
 all_goals
  (refine j1 (j8 ?_))
  simp only[aF,Aw,Aq]
  (repeat (rename (∀ S,TC _ _ _ S->_)=>hX;clear hX))
  clear h1 h2;symm;simp only[r8,v7,ne_eq,Aj,decide_eq_false_iff_not,Xh,Vi]at *
  grind
theorem qe2 (x y:Gu)(h:∀ a∈x.body,∀ b,FnD prog gl 180 [.d (dPr a),.d (dPr b)] (λv=>v=.d (.bool (eqB a b)))):
 FnD prog gl 212 [.d (dGu x),.d (dGu y)] (λv=>v=.d (.bool (eqB x y))):=by
 have h1:=jw6 gl x.cond y.cond;have h2:=jw6 gl x.av y.av;have h3:=jw6 gl x.time y.time;have h4:=jk6 gl x.aj y.aj;have h5:=jk6 gl x.values y.values;have h6:=kh6 gl x.body y.body h;have e1:=rw0 (a:=x) (b:=y);clear h;simp only[k9]at h1 h2 h3;rw[jb9]
 (refine j5 func212 ntmps212 results212 λw M=>?_)
 (repeat' first|apply Ca 2;(refine Cm 2 ?_)|apply Ca 3;(refine Cm 3 ?_)|refine yyp ?_;try refine Ce ?_ ?_<;>intro hb|refine yy ?_|refine yy2 ?_ ?_<;>intro hcmp|apply Cg 165;refine Ci (hc:=(by first|exact h1|exact h2|exact h3)) ?_;try refine Ce ?_ ?_<;>intro hb|apply Cg 209;refine Ci (hc:=(by first|exact h4|exact h5)) ?_;try refine Ce ?_ ?_<;>intro hb|apply Cg 179;refine Ci (hc:=h6) ?_;try refine Ce ?_ ?_<;>intro hb|apply ah;refine Cc Tq ?_|refine Cb λK hK=>?_|apply_assumption -exfalso -symm)
 all_goals
  (refine j1 (j8 ?_))
  simp only[aF,Aw,Aq]
  (repeat (rename (∀ S,TC _ _ _ S->_)=>hX;clear hX))
  clear h1 h2 h3 h4 h5 h6;symm;simp only[r8,v7,ne_eq]at *
  grind
theorem qv7 (x y:Pr)(hl:∀ a∈x.l,∀ b,FnD prog gl 180 [.d (dPr a),.d (dPr b)] (λv=>v=.d (.bool (eqB a b))))
 (hg:∀ g∈x.ak,∀ a∈g.body,∀ b,FnD prog gl 180 [.d (dPr a),.d (dPr b)] (λv=>v=.d (.bool (eqB a b))))
 (hb':∀ a∈x.spec.body,∀ b,FnD prog gl 180 [.d (dPr a),.d (dPr b)] (λv=>v=.d (.bool (eqB a b)))):
 FnD prog gl 180 [.d (dPr x),.d (dPr y)] (λv=>v=.d (.bool (eqB x y))):=by
 have h1:=jw6 gl x.av y.av;have h2:=jw6 gl x.rep.base y.rep.base;have h3:=jw6 gl x.rep.count y.rep.count;have h4:=jk6 gl x.aj y.aj;have h5:=jk6 gl x.au y.au;have h6:=kh6 gl x.l y.l hl;have h7:=qd1 gl x.ak y.ak λg hm k=>qe2 gl g k (hg g hm);have h8:=mc4 gl x.spec y.spec hb';have h9:=qc7 gl x.ay y.ay;have e1:=rw1 (a:=x) (b:=y);have e2:=rv8 (a:=x.rep) (b:=y.rep);clear hl hg hb';simp only[k9]at h1 h2 h3;rw[v6]
 (refine j5 func180 ntmps180 results180 λw M=>?_)
 (repeat' first|apply Ca 2;(refine Cm 2 ?_)|apply Ca 3;(refine Cm 3 ?_)|refine yyp ?_;try refine Ce ?_ ?_<;>intro hb|refine yy ?_|refine yy2 ?_ ?_<;>intro hcmp|apply Cg 165;refine Ci (hc:=(by first|exact h1|exact h2|exact h3)) ?_;try refine Ce ?_ ?_<;>intro hb|apply Cg 209;refine Ci (hc:=(by first|exact h4|exact h5)) ?_;try refine Ce ?_ ?_<;>intro hb|apply Cg 210;refine Ci (hc:=h9) ?_;try refine Ce ?_ ?_<;>intro hb|apply Cg 211;refine Ci (hc:=h7) ?_;try refine Ce ?_ ?_<;>intro hb|apply Cg 179;refine Ci (hc:=h6) ?_;try refine Ce ?_ ?_<;>intro hb|apply Cg 133;refine Ci (hc:=h8) ?_;try refine Ce ?_ ?_<;>intro hb|apply ah;refine Cc Tq ?_|refine Cb λK hK=>?_|apply_assumption -exfalso -symm)
 all_goals
  (refine j1 (j8 ?_))
  simp only[aF,Aw,Aq]
  (repeat (rename (∀ S,TC _ _ _ S->_)=>hX;clear hX))
  clear h1 h2 h3 h4 h5 h6 h7 h8 h9;symm;simp only[r8,v7,ne_eq]at *
  grind
theorem rl0:∀ (m:Nat) (x y:Pr),SizeOf.sizeOf x<=m->FnD prog gl 180 [.d (dPr x),.d (dPr y)] (λv=>v=.d (.bool (eqB x y))):=by
 intro m
 induction m with
 |zero=>intro x y h;cases x;simp only[Pr.mk.sizeOf_spec]at h;omega
 |succ m ih=>
  intro x y hm;exact qv7 gl x y (λa ha b=>ih a b (by have:=rk7 ha;omega)) (λg hg a ha b=>ih a b (by have:=rk8 hg ha;omega)) λa ha b=>ih a b (by have:=rk9 ha;omega)
theorem rw3 (x y:Pr):FnD prog gl 180 [.d (dPr x),.d (dPr y)] (λv=>v=.d (.bool (eqB x y))):=rl0 gl _ x y (Au _)
theorem rw4 (x y:Sp):FnD prog gl 133 [.d (dSp x),.d (dSp y)] (λv=>v=.d (.bool (eqB x y))):=mc4 gl x y λa _ b=>rw3 gl a b
end
end Go.Proofs.YtklklgfpkpglgaaGreatDoor
