/- Parts. -/
import Derived.Test.YtklklgfpkpglgaaGreatDoorQ18
set_option linter.all false
set_option maxRecDepth 100000
set_option maxHeartbeats 0
namespace Go.Proofs.YtklklgfpkpglgaaGreatDoor
open Go.RowKit Go.Proofs.Tryz Lx
variable (gl:List (Nat × List D))
section
def Vd:List Nat:=[0,1,2,3,4,5,6]
variable {mm:Int}
theorem jw0 (x y:Ex):FnD prog gl 165 [.d (dEx x),.d (dEx y)] (λv=>v=.d (.bool (eqB x y))):=qi6 gl _ x y (Ap _)
theorem vv1:dEx ex0=.agg [.int .u8 0,.int .u8 0,.int .u8 0,.int .i32 0,.str ⟨#[]⟩,.list 6 []]:=by
 rw[r8];rfl
attribute [local irreducible] TR TC
theorem ka5 (e:Ex):FnD prog gl 127 [.d (dEx e)] (λv=>v=.d (.bool (Ip e))):=by
 have h:=jw0 gl e ex0;unfold Ip;rw[vv1]at h;simp only[r8]at h ⊢
 (refine j4 func127 ntmps127 results127 λw M=>?_)
 (repeat' first|apply Ca 1;(refine Ck 1 ?_)|refine yyp ?_;try refine Ce ?_ ?_<;>intro hb|refine yy ?_|apply Cf 165;refine Ci (hc:=h) ?_;try refine Ce ?_ ?_<;>intro hb|apply ah;refine Cc [0,1,2,3,4,5] ?_|refine Cb λK hK=>?_|apply_assumption -exfalso -symm)
 all_goals
  (refine j1 (j7 ?_))
  simp only[aF, *]
theorem Ka (e:Ex):FnD prog (glS mm) 126 [.d (dEx e)] (λv=>v=.d (.bool (Ga e))):=by
 have h:=jj7 (mm:=mm) e;unfold Ga;simp only[r8]at h ⊢
 (refine j4 func126 ntmps126 results126 λw M=>?_)
 (repeat' first|apply Ca 1;(refine Ck 1 ?_)|refine yyp ?_;try refine Ce ?_ ?_<;>intro hb|refine yy ?_|refine yy2 ?_ ?_<;>intro hcmp|apply Cf 129;refine Ci (hc:=h) ?_;try refine Ce ?_ ?_<;>intro hb|apply ah;refine Cc Vd ?_|refine Cb λK hK=>?_|apply_assumption -exfalso -symm)
 all_goals
  (refine j1 (j7 ?_))
  simp only[aF, *,decide_true,decide_false,Ef,Eh,Ec,Bf,As]
  try rfl
theorem ms4 (t:Ty):FnD prog (glS mm) 173 [.d (dTy t)] (λv=>v=.d (.bool (Qe t))):=by
 have h:=kw0 (mm:=mm) t
 (refine j4 func173 ntmps173 results173 λw M=>?_)
 (repeat' first|apply Ca 1;(refine Ck 1 ?_)|refine yyp ?_;try refine Ce ?_ ?_<;>intro hb|refine yy ?_|refine yy2 ?_ ?_<;>intro hcmp|apply Cf 172;refine Ci (hc:=h) ?_;try refine Ce ?_ ?_<;>intro hb|apply ah;refine Cc Vd ?_|refine Cb λK hK=>?_|apply_assumption -exfalso -symm)
 all_goals
  (refine j1 (j7 ?_))
  simp only[aF,At,Am,Qe]
  (repeat (rename (∀ S,TC _ _ _ S->_)=>hX;clear hX))
  clear h;simp only[jf5,Oe]at *
  grind [Lx.prim]
theorem qi7 (f:Fo):FnD prog (glS mm) 176 [.d (dFo f)] (λv=>v=.d (.bool (Lr f))):=by
 have h:=kw0 (mm:=mm) f.type;have h2:=ms4 (mm:=mm) f.type
 (refine j4 func176 ntmps176 results176 λw M=>?_)
 (repeat' first|apply Ca 1;(refine Ck 1 ?_)|refine yyp ?_;try refine Ce ?_ ?_<;>intro hb|refine yy ?_|apply Cf 125;refine Ci (hc:=(jj6 f.name)) ?_;try refine Ce ?_ ?_<;>intro hb|apply Cf 172;refine Ci (hc:=h) ?_;try refine Ce ?_ ?_<;>intro hb|apply Cf 173;refine Ci (hc:=h2) ?_;try refine Ce ?_ ?_<;>intro hb|apply ah;refine Cc Vd ?_|refine Cb λK hK=>?_|apply_assumption -exfalso -symm)
 all_goals
  (refine j1 (j7 ?_))
  simp only[aF,At,Am,Lr]
  (repeat (rename (∀ S,TC _ _ _ S->_)=>hX;clear hX))
  clear h h2
  grind
theorem vg1 (r:Rp):FnD prog (glS mm) 119 [.d (dRp r)] (λv=>v=.d (.bool (Hw r))):=by
 have h1:=ka5 (glS mm) r.base;have h2:=ka5 (glS mm) r.count;have h3:=jj7 (mm:=mm) r.base;have h4:=jj7 (mm:=mm) r.count;simp only[r8]at h1 h2 h3 h4
 (refine j4 func119 ntmps119 results119 λw M=>?_)
 (repeat' first|apply Ca 1;(refine Ck 1 ?_)|refine yyp ?_;try refine Ce ?_ ?_<;>intro hb|refine yy ?_|refine yy2 ?_ ?_<;>intro hcmp|apply Cf 127;refine Ci (hc:=(by first|exact h1|exact h2)) ?_;try refine Ce ?_ ?_<;>intro hb|apply Cf 125;refine Ci (hc:=(jj6 r.name)) ?_;try refine Ce ?_ ?_<;>intro hb|apply Cf 129;refine Ci (hc:=(by first|exact h3|exact h4)) ?_;try refine Ce ?_ ?_<;>intro hb|apply ah;refine Cc Vd ?_|refine Cb λK hK=>?_|apply_assumption -exfalso -symm)
 all_goals
  (refine j1 (j7 ?_))
  simp only[aF,At,Am,Hw]
  (repeat (rename (∀ S,TC _ _ _ S->_)=>hX;clear hX))
  clear h1 h2 h3 h4;simp only[jf5]at *
  grind
def vq2 (u:Lx.Uses):D:=.agg [.bool u.rep,.bool u.name,.bool u.channel,.bool u.spec,.bool u.ay,.int .i64 u.t0,.int .i64 u.t1,.int .i64 u.e0,.int .i64 u.e1,.int .i64 u.p0,.int .i64 u.p1,.int .i64 u.g0,.int .i64 u.g1,.int .u8 u.a,.int .u8 u.b]
theorem qi8 (k:Int):FnD prog (glS mm) 118 [.d (.int .u8 k)] (λv=>v=.tup [.d (vq2 (Hf k).1),.d (.bool (Hf k).2)]):=by
 unfold Hf
 (refine j4 func118 ntmps118 results118 λw M=>?_)
 (repeat' first|apply Ca 2;(refine j2 2 ?_)|apply Ca 8;refine z_p Cu ?_|apply Ca 13;refine z_p Cu ?_|apply Ca 17;refine z_p Cu ?_|apply Ca 21;refine z_p Cu ?_|apply Ca 25;refine z_p Cu ?_|apply Ca 29;refine z_p Cu ?_|apply Ca 34;refine z_p Cu ?_|apply Ca 38;refine z_p Cu ?_|apply Ca 42;refine z_p Cu ?_|apply Ca 47;refine z_p Cu ?_|apply Ca 51;refine z_p Cu ?_|apply Ca 56;refine z_p Cu ?_|apply Ca 61;refine z_p Cu ?_|apply Ca 65;refine z_p Cu ?_|apply Ca 69;refine z_p Cu ?_|apply Ca 70;refine z_p Cu ?_|refine yyp ?_;try refine Ce ?_ ?_<;>intro hb|refine yy ?_|refine yy2 ?_ ?_<;>intro hcmp|apply ah;refine Cc [0,2,3,4,5,6,9,14,18,22,26,30,35,39,43,48,52,57,62,66,178] ?_|refine Cb λK hK=>?_|apply_assumption -exfalso -symm)
 all_goals
  (refine j1 (j7 ?_))
  simp only[*,or_true,true_or,or_self,if_true,if_false,Int.reduceEq]
  try rfl
end
section
def Tp:List Nat:=[0,1,2,3,4,5,6,7]
theorem ru4 {p x:Pr}(h:x∈p.l):SizeOf.sizeOf x<SizeOf.sizeOf p:=by
 cases p;have:=Fk h;simp only[Pr.l,Pr.mk.sizeOf_spec]at *;omega
theorem ru5 {p x:Pr}{g:Gu}(hg:g∈p.ak)(hx:x∈g.body):SizeOf.sizeOf x<SizeOf.sizeOf p:=by
 cases p;cases g;have h1:=Fk hg;have h2:=Fk hx;simp only[Pr.ak,Gu.body,Pr.mk.sizeOf_spec,Gu.mk.sizeOf_spec]at *;omega
theorem ru6 {p x:Pr}(h:x∈p.spec.body):SizeOf.sizeOf x<SizeOf.sizeOf p:=by
 obtain⟨_,_,_,_,_,_,_,_,_,⟨⟩⟩:=p;have:=Fk h;simp only[Pr.spec,Sp.body,Pr.mk.sizeOf_spec,Sp.mk.sizeOf_spec]at *;omega
theorem vg2 {a b:Ty}:a=b↔a.kind=b.kind/\a.dim=b.dim/\a.item=b.item/\a.aN=b.aN/\True:=by
 cases a;cases b;simp
theorem vg3 {a b:Pt}:a=b↔a.cases=b.cases/\a.l=b.l:=by
 cases a;cases b;simp
theorem vg4 {a b:Rp}:a=b↔a.name=b.name/\a.base=b.base/\a.count=b.count:=by
 cases a;cases b;simp
theorem vg5 {a b:Sp}:a=b↔a.kind=b.kind/\a.type=b.type/\a.names=b.names/\a.e=b.e/\a.aN=b.aN/\a.ax=b.ax/\a.body=b.body:=by
 cases a;cases b;simp[Sp.kind,Sp.type,Sp.names,Sp.e,Sp.aN,Sp.ax,Sp.body]
theorem vg6 {a b:Gu}:a=b↔a.kind=b.kind/\a.name=b.name/\a.cond=b.cond/\a.av=b.av/\a.aj=b.aj/\a.values=b.values/\a.time=b.time/\a.body=b.body:=by
 cases a;cases b;simp[Gu.kind,Gu.name,Gu.cond,Gu.av,Gu.aj,Gu.values,Gu.time,Gu.body]
theorem vg7 {a b:Pr}:a=b↔a.kind=b.kind/\a.name=b.name/\a.av=b.av/\a.aj=b.aj/\a.au=b.au/\a.rep=b.rep/\a.ak=b.ak/\a.l=b.l/\a.ay=b.ay/\a.spec=b.spec:=by
 cases a;cases b;simp[Pr.kind,Pr.name,Pr.av,Pr.aj,Pr.au,Pr.rep,Pr.ak,Pr.l,Pr.ay,Pr.spec]
attribute [local irreducible] TR TC
theorem vg8 (x y:Va):FnD prog gl 204 [.d (dVa x),.d (dVa y)] (λv=>v=.d (.bool (eqB x y))):=by
 have h:=rb9 gl x.items y.items;have hxy:=vf9 (a:=x) (b:=y)
 (refine j4 func204 ntmps204 results204 λw M=>?_)
 (repeat' first|apply Ca 2;(refine Ck 2 ?_)|apply Ca 3;(refine Ck 3 ?_)|refine yyp ?_;try refine Ce ?_ ?_<;>intro hb|refine yy ?_|refine yy2 ?_ ?_<;>intro hcmp|apply Cf 205;refine Ci (hc:=h) ?_;try refine Ce ?_ ?_<;>intro hb|apply ah;refine Cc Tp ?_|refine Cb λK hK=>?_|apply_assumption -exfalso -symm)
 all_goals
  (refine j1 (j7 ?_))
  simp only[aF,At,Am]
  (repeat (rename (∀ S,TC _ _ _ S->_)=>hX;clear hX))
  clear h;symm;simp only[j9,r9,ne_eq]at *
  grind
theorem jj8 (x y:List Ex):FnD prog gl 209 [.d (.list 6 (x.map dEx)),.d (.list 6 (y.map dEx))] (λv=>v=.d (.bool (eqB x y))):=by
 have h:=qh6 gl x y λa _ b=>jw0 gl a b
 (refine j4 func209 ntmps209 results209 λw M=>?_)
 (repeat' first|refine yyp ?_;try refine Ce ?_ ?_<;>intro hb|refine yy ?_|apply Cf 224;refine Ci (hc:=h) ?_;try refine Ce ?_ ?_<;>intro hb|apply ah;refine Cc [0,1,4,5,6,7] ?_|refine Cb λK hK=>?_|apply_assumption -exfalso -symm)
 all_goals
  (refine j1 (j7 ?_))
  simp only[aF, *]
def Lx.Xk (a b:Sp):Prop:=a.kind=b.kind/\a.type=b.type/\a.names=b.names/\a.e=b.e/\a.aN=b.aN/\a.ax=b.ax/\a.body.length=b.body.length
open Classical in
noncomputable def Lx.Vi (a b:Sp):Bool:=decide (Xk a b)
theorem jw1 (x y:Sp):FnD prog gl 178 [.d (dSp x),.d (dSp y)] (λv=>v=.d (.bool (Vi x y))):=by
 have h1:=qh5 gl x.names y.names;have h2:=jw0 gl x.e y.e;have h3:=qh7 gl x.aN.l y.aN.l λa _ b=>vg8 gl a b;have h4:=rc0 gl x.ax y.ax;have e1:=vg2 (a:=x.type) (b:=y.type);have e2:=vg3 (a:=x.aN) (b:=y.aN);simp only[r8]at h2
 (refine j4 func178 ntmps178 results178 λw M=>?_)
 (repeat' first|apply Ca 2;(refine Ck 2 ?_)|apply Ca 3;(refine Ck 3 ?_)|refine yyp ?_;try refine Ce ?_ ?_<;>intro hb|refine yy ?_|refine yy2 ?_ ?_<;>intro hcmp|apply Cf 206;refine Ci (hc:=h1) ?_;try refine Ce ?_ ?_<;>intro hb|apply Cf 165;refine Ci (hc:=h2) ?_;try refine Ce ?_ ?_<;>intro hb|apply Cf 207;refine Ci (hc:=h3) ?_;try refine Ce ?_ ?_<;>intro hb|apply Cf 208;refine Ci (hc:=h4) ?_;try refine Ce ?_ ?_<;>intro hb|apply ah;refine Cc Tp ?_|refine Cb λK hK=>?_|apply_assumption -exfalso -symm)
 all_goals
  (refine j1 (j7 ?_))
  simp only[aF,At,Am,Vi]
  (repeat (rename (∀ S,TC _ _ _ S->_)=>hX;clear hX))
  clear h1 h2 h3 h4;symm;simp only[j9,r9,ne_eq,Ah,decide_eq_false_iff_not,Xk,Ed,beq_eq_false_iff_ne]at *
  grind
theorem me8 (x y:Sp)(h:∀ a∈x.body,∀ b,FnD prog gl 180 [.d (dPr a),.d (dPr b)] (λv=>v=.d (.bool (eqB a b)))):
 FnD prog gl 133 [.d (dSp x),.d (dSp y)] (λv=>v=.d (.bool (eqB x y))):=by
 have h1:=jw1 gl x y;have h2:=kh8 gl x.body y.body h;have e1:=vg5 (a:=x) (b:=y);clear h
 (refine j4 func133 ntmps133 results133 λw M=>?_)
 (repeat' first|apply Ca 2;(refine Ck 2 ?_)|apply Ca 3;(refine Ck 3 ?_)|refine yyp ?_;try refine Ce ?_ ?_<;>intro hb|refine yy ?_|apply Cf 178;refine Ci (hc:=h1) ?_;try refine Ce ?_ ?_<;>intro hb|apply Cf 179;refine Ci (hc:=h2) ?_;try refine Ce ?_ ?_<;>intro hb|apply ah;refine Cc Tp ?_|refine Cb λK hK=>?_|apply_assumption -exfalso -symm)
 all_goals
  (refine j1 (j7 ?_))
  simp only[aF,At,Am]
  (repeat (rename (∀ S,TC _ _ _ S->_)=>hX;clear hX))
  clear h1 h2;symm;simp only[j9,r9,ne_eq,Ah,decide_eq_false_iff_not,Xk,Vi]at *
  grind
theorem qi9 (x y:Gu)(h:∀ a∈x.body,∀ b,FnD prog gl 180 [.d (dPr a),.d (dPr b)] (λv=>v=.d (.bool (eqB a b)))):
 FnD prog gl 212 [.d (dGu x),.d (dGu y)] (λv=>v=.d (.bool (eqB x y))):=by
 have h1:=jw0 gl x.cond y.cond;have h2:=jw0 gl x.av y.av;have h3:=jw0 gl x.time y.time;have h4:=jj8 gl x.aj y.aj;have h5:=jj8 gl x.values y.values;have h6:=kh8 gl x.body y.body h;have e1:=vg6 (a:=x) (b:=y);clear h;simp only[r8]at h1 h2 h3;rw[jb7]
 (refine j4 func212 ntmps212 results212 λw M=>?_)
 (repeat' first|apply Ca 2;(refine Ck 2 ?_)|apply Ca 3;(refine Ck 3 ?_)|refine yyp ?_;try refine Ce ?_ ?_<;>intro hb|refine yy ?_|refine yy2 ?_ ?_<;>intro hcmp|apply Cf 165;refine Ci (hc:=(by first|exact h1|exact h2|exact h3)) ?_;try refine Ce ?_ ?_<;>intro hb|apply Cf 209;refine Ci (hc:=(by first|exact h4|exact h5)) ?_;try refine Ce ?_ ?_<;>intro hb|apply Cf 179;refine Ci (hc:=h6) ?_;try refine Ce ?_ ?_<;>intro hb|apply ah;refine Cc Tp ?_|refine Cb λK hK=>?_|apply_assumption -exfalso -symm)
 all_goals
  (refine j1 (j7 ?_))
  simp only[aF,At,Am]
  (repeat (rename (∀ S,TC _ _ _ S->_)=>hX;clear hX))
  clear h1 h2 h3 h4 h5 h6;symm;simp only[j9,r9,ne_eq]at *
  grind
theorem rd1 (x y:Pr)(hl:∀ a∈x.l,∀ b,FnD prog gl 180 [.d (dPr a),.d (dPr b)] (λv=>v=.d (.bool (eqB a b))))
 (hg:∀ g∈x.ak,∀ a∈g.body,∀ b,FnD prog gl 180 [.d (dPr a),.d (dPr b)] (λv=>v=.d (.bool (eqB a b))))
 (hb':∀ a∈x.spec.body,∀ b,FnD prog gl 180 [.d (dPr a),.d (dPr b)] (λv=>v=.d (.bool (eqB a b)))):
 FnD prog gl 180 [.d (dPr x),.d (dPr y)] (λv=>v=.d (.bool (eqB x y))):=by
 have h1:=jw0 gl x.av y.av;have h2:=jw0 gl x.rep.base y.rep.base;have h3:=jw0 gl x.rep.count y.rep.count;have h4:=jj8 gl x.aj y.aj;have h5:=jj8 gl x.au y.au;have h6:=kh8 gl x.l y.l hl;have h7:=qh8 gl x.ak y.ak λg hm k=>qi9 gl g k (hg g hm);have h8:=me8 gl x.spec y.spec hb';have h9:=qh4 gl x.ay y.ay;have e1:=vg7 (a:=x) (b:=y);have e2:=vg4 (a:=x.rep) (b:=y.rep);clear hl hg hb';simp only[r8]at h1 h2 h3;rw[v7]
 (refine j4 func180 ntmps180 results180 λw M=>?_)
 (repeat' first|apply Ca 2;(refine Ck 2 ?_)|apply Ca 3;(refine Ck 3 ?_)|refine yyp ?_;try refine Ce ?_ ?_<;>intro hb|refine yy ?_|refine yy2 ?_ ?_<;>intro hcmp|apply Cf 165;refine Ci (hc:=(by first|exact h1|exact h2|exact h3)) ?_;try refine Ce ?_ ?_<;>intro hb|apply Cf 209;refine Ci (hc:=(by first|exact h4|exact h5)) ?_;try refine Ce ?_ ?_<;>intro hb|apply Cf 210;refine Ci (hc:=h9) ?_;try refine Ce ?_ ?_<;>intro hb|apply Cf 211;refine Ci (hc:=h7) ?_;try refine Ce ?_ ?_<;>intro hb|apply Cf 179;refine Ci (hc:=h6) ?_;try refine Ce ?_ ?_<;>intro hb|apply Cf 133;refine Ci (hc:=h8) ?_;try refine Ce ?_ ?_<;>intro hb|apply ah;refine Cc Tp ?_|refine Cb λK hK=>?_|apply_assumption -exfalso -symm)
 all_goals
  (refine j1 (j7 ?_))
  simp only[aF,At,Am]
  (repeat (rename (∀ S,TC _ _ _ S->_)=>hX;clear hX))
  clear h1 h2 h3 h4 h5 h6 h7 h8 h9;symm;simp only[j9,r9,ne_eq]at *
  grind
theorem ru7:∀ (m:Nat) (x y:Pr),SizeOf.sizeOf x<=m->FnD prog gl 180 [.d (dPr x),.d (dPr y)] (λv=>v=.d (.bool (eqB x y))):=by
 intro m
 induction m with
 |zero=>intro x y h;cases x;simp only[Pr.mk.sizeOf_spec]at h;omega
 |succ m ih=>
  intro x y hm;exact rd1 gl x y (λa ha b=>ih a b (by have:=ru4 ha;omega)) (λg hg a ha b=>ih a b (by have:=ru5 hg ha;omega)) λa ha b=>ih a b (by have:=ru6 ha;omega)
theorem vg9 (x y:Pr):FnD prog gl 180 [.d (dPr x),.d (dPr y)] (λv=>v=.d (.bool (eqB x y))):=ru7 gl _ x y (Ap _)
theorem vh0 (x y:Sp):FnD prog gl 133 [.d (dSp x),.d (dSp y)] (λv=>v=.d (.bool (eqB x y))):=me8 gl x y λa _ b=>vg9 gl a b
end
end Go.Proofs.YtklklgfpkpglgaaGreatDoor
