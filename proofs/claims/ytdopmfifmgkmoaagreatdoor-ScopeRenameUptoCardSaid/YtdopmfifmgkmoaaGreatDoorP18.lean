/- Parts: O22, O23. -/
import Derived.Test.YtdopmfifmgkmoaaGreatDoorP17
set_option linter.all false
set_option maxRecDepth 100000
set_option maxHeartbeats 16000000
namespace Go.Proofs.YtdopmfifmgkmoaaGreatDoor
open Go.RowKit Go.Proofs.Tryz
section
def Wh:List Nat:=[0,1,4,5,6,7,8,9,16]
attribute [local irreducible] TR TC
theorem ro5 (gl:List (Nat × List D))(u:Lx.Uses)(x:Gu)(b:Bool)(h:FnE prog gl 135 [.d (dGu (x)),.ptr 3 0] [(3,.box [.d (.bool u.rep),.d (.bool u.name),.d (.bool u.channel),.d (.bool u.spec),.d (.bool u.procs),.d (.int .i64 u.t0),.d (.int .i64 u.t1),.d (.int .i64 u.e0),.d (.int .i64 u.e1),.d (.int .i64 u.p0),.d (.int .i64 u.p1),.d (.int .i64 u.g0),.d (.int .i64 u.g1),.d (.int .u8 u.a),.d (.int .u8 u.b)])] (fun v H1=>v=.d (.bool b)/\H1=[(3,.box [.d (.bool u.rep),.d (.bool u.name),.d (.bool u.channel),.d (.bool u.spec),.d (.bool u.procs),.d (.int .i64 u.t0),.d (.int .i64 u.t1),.d (.int .i64 u.e0),.d (.int .i64 u.e1),.d (.int .i64 u.p0),.d (.int .i64 u.p1),.d (.int .i64 u.g0),.d (.int .i64 u.g1),.d (.int .u8 u.a),.d (.int .u8 u.b)])])):
 FnE prog gl 174 [.d (dGu (x)),.ptr 5 0] [(5,.box [.clo (.func 135) [] [.ptr 3 0]]),(3,.box [.d (.bool u.rep),.d (.bool u.name),.d (.bool u.channel),.d (.bool u.spec),.d (.bool u.procs),.d (.int .i64 u.t0),.d (.int .i64 u.t1),.d (.int .i64 u.e0),.d (.int .i64 u.e1),.d (.int .i64 u.p0),.d (.int .i64 u.p1),.d (.int .i64 u.g0),.d (.int .i64 u.g1),.d (.int .u8 u.a),.d (.int .u8 u.b)])] (fun v H1=>v=.d (.bool (!b))/\H1=[(5,.box [.clo (.func 135) [] [.ptr 3 0]]),(3,.box [.d (.bool u.rep),.d (.bool u.name),.d (.bool u.channel),.d (.bool u.spec),.d (.bool u.procs),.d (.int .i64 u.t0),.d (.int .i64 u.t1),.d (.int .i64 u.e0),.d (.int .i64 u.e1),.d (.int .i64 u.p0),.d (.int .i64 u.p1),.d (.int .i64 u.g0),.d (.int .i64 u.g1),.d (.int .u8 u.a),.d (.int .u8 u.b)])]):=by
 simp only[je9]at h ⊢
 (refine j4 func174 ntmps174 results174 fun w M E b0=>?_)
 (repeat' first|refine Ca 2 ?_;(refine j6 2 ?_)|refine Ca 6 ?_;refine Ch (hc:=h) ?_;try refine Cc ?_ ?_<;>intro hb|refine yyp ?_;try refine Cc ?_ ?_<;>intro hb|refine yy ?_|refine at_nil ?_;refine Ce [0,1,2,3,4,5,6] ?_|refine Cb fun K hK=>?_|apply_assumption -exfalso -symm)
 all_goals (refine j0 (j7 ⟨?_,rfl⟩))
 all_goals simp only[oneOf, *,Bool.not_true,Bool.not_false]
theorem ro6 (gl:List (Nat × List D))(u:Lx.Uses)(q:Gu->Bool)(l:List Gu)(h:∀ (k:Nat) (hk:k<l.length),FnE prog gl 174 [.d (dGu (l[k])),.ptr 5 0] [(5,.box [.clo (.func 135) [] [.ptr 3 0]]),(3,.box [.d (.bool u.rep),.d (.bool u.name),.d (.bool u.channel),.d (.bool u.spec),.d (.bool u.procs),.d (.int .i64 u.t0),.d (.int .i64 u.t1),.d (.int .i64 u.e0),.d (.int .i64 u.e1),.d (.int .i64 u.p0),.d (.int .i64 u.p1),.d (.int .i64 u.g0),.d (.int .i64 u.g1),.d (.int .u8 u.a),.d (.int .u8 u.b)])] (fun v H1=>v=.d (.bool (q l[k]))/\H1=[(5,.box [.clo (.func 135) [] [.ptr 3 0]]),(3,.box [.d (.bool u.rep),.d (.bool u.name),.d (.bool u.channel),.d (.bool u.spec),.d (.bool u.procs),.d (.int .i64 u.t0),.d (.int .i64 u.t1),.d (.int .i64 u.e0),.d (.int .i64 u.e1),.d (.int .i64 u.p0),.d (.int .i64 u.p1),.d (.int .i64 u.g0),.d (.int .i64 u.g1),.d (.int .u8 u.a),.d (.int .u8 u.b)])])):
 FnE prog gl 199 [.d (.list 23 (l.map (fun x=>dGu (x)))),.clo (.func 174) [] [.ptr 5 0]] [(5,.box [.clo (.func 135) [] [.ptr 3 0]]),(3,.box [.d (.bool u.rep),.d (.bool u.name),.d (.bool u.channel),.d (.bool u.spec),.d (.bool u.procs),.d (.int .i64 u.t0),.d (.int .i64 u.t1),.d (.int .i64 u.e0),.d (.int .i64 u.e1),.d (.int .i64 u.p0),.d (.int .i64 u.p1),.d (.int .i64 u.g0),.d (.int .i64 u.g1),.d (.int .u8 u.a),.d (.int .u8 u.b)])] (fun v H1=>v=.d (.int .i64 (jd5 q l))/\H1=[(5,.box [.clo (.func 135) [] [.ptr 3 0]]),(3,.box [.d (.bool u.rep),.d (.bool u.name),.d (.bool u.channel),.d (.bool u.spec),.d (.bool u.procs),.d (.int .i64 u.t0),.d (.int .i64 u.t1),.d (.int .i64 u.e0),.d (.int .i64 u.e1),.d (.int .i64 u.p0),.d (.int .i64 u.p1),.d (.int .i64 u.g0),.d (.int .i64 u.g1),.d (.int .u8 u.a),.d (.int .u8 u.b)])]):=by
 simp only[je9]at h ⊢
 (refine j4 func199 ntmps199 results199 fun w M E b0=>?_)
 refine r7 0 rfl fun hn=>?_;simp only[Aa]at hn
 (repeat' first|refine yyp ?_;try refine Cc ?_ ?_<;>intro hb|refine yy ?_|refine at_nil ?_;refine Ce Wh ?_|refine Cb fun K hK=>?_|apply_assumption -exfalso -symm)
 refine j8 [4,5,8,9,10,11,12,13,14,15,16,17,18] [] (fun k:Nat=>[(8,.d (.int .i64 k))]) (fun _=>[]) (fun k=>k<=l.length/\jd5 q l=if jd5 q (l.drop k)<0 then -1 else jd5 q (l.drop k)+k) (fun k=>l.length - k) 0 ⟨Ak _,by have:=p8 q l;simp only[Et];split<;>omega⟩ fun k ⟨hk,hi⟩=>?_;dsimp only[Ac,Ad];have hlo:=p8 q (l.drop (k+1));rcases Ah k l.length with hk2|hk2
 ·have hone:=h k hk2
  (repeat' first|refine Ca 16 ?_;refine Ch (hc:=hone) ?_;try refine Cc ?_ ?_<;>intro hb|refine yyp ?_;try refine Cc ?_ ?_<;>intro hb|refine yy ?_|refine at_nil ?_;refine Ce Wh ?_|refine Cb fun K hK=>?_|apply_assumption -exfalso -symm)
  ·(refine j0 (j7 ⟨?_,rfl⟩))
   rw[hi,g9 _ _ _ hk2,Ae hb];simp[oneOf]
  ·refine⟨k+1,⟨by omega,?_⟩,by omega,v6⟩;rw[hi,g9 _ _ _ hk2,Af (show ¬q l[k]=true by rw[hb];exact Ef)];split<;>split<;>(try split)<;>omega
 ·(repeat' first|refine yyp ?_;try refine Cc ?_ ?_<;>intro hb|refine yy ?_|refine at_nil ?_;refine Ce Wh ?_|refine Cb fun K hK=>?_|apply_assumption -exfalso -symm)
  (refine j0 (j7 ⟨?_,rfl⟩))
  have:k=l.length:=by omega
  rw[hi,this,Eu];simp[oneOf,jd5]
theorem ro7 (gl:List (Nat × List D))(u:Lx.Uses)(q:Gu->Bool)(l:List Gu)(h:∀ (k:Nat) (hk:k<l.length),FnE prog gl 174 [.d (dGu (l[k])),.ptr 5 0] [(5,.box [.clo (.func 135) [] [.ptr 3 0]]),(3,.box [.d (.bool u.rep),.d (.bool u.name),.d (.bool u.channel),.d (.bool u.spec),.d (.bool u.procs),.d (.int .i64 u.t0),.d (.int .i64 u.t1),.d (.int .i64 u.e0),.d (.int .i64 u.e1),.d (.int .i64 u.p0),.d (.int .i64 u.p1),.d (.int .i64 u.g0),.d (.int .i64 u.g1),.d (.int .u8 u.a),.d (.int .u8 u.b)])] (fun v H1=>v=.d (.bool (q l[k]))/\H1=[(5,.box [.clo (.func 135) [] [.ptr 3 0]]),(3,.box [.d (.bool u.rep),.d (.bool u.name),.d (.bool u.channel),.d (.bool u.spec),.d (.bool u.procs),.d (.int .i64 u.t0),.d (.int .i64 u.t1),.d (.int .i64 u.e0),.d (.int .i64 u.e1),.d (.int .i64 u.p0),.d (.int .i64 u.p1),.d (.int .i64 u.g0),.d (.int .i64 u.g1),.d (.int .u8 u.a),.d (.int .u8 u.b)])])):
 FnE prog gl 173 [.d (.list 23 (l.map (fun x=>dGu (x)))),.clo (.func 174) [] [.ptr 5 0]] [(5,.box [.clo (.func 135) [] [.ptr 3 0]]),(3,.box [.d (.bool u.rep),.d (.bool u.name),.d (.bool u.channel),.d (.bool u.spec),.d (.bool u.procs),.d (.int .i64 u.t0),.d (.int .i64 u.t1),.d (.int .i64 u.e0),.d (.int .i64 u.e1),.d (.int .i64 u.p0),.d (.int .i64 u.p1),.d (.int .i64 u.g0),.d (.int .i64 u.g1),.d (.int .u8 u.a),.d (.int .u8 u.b)])] (fun v H1=>v=.d (.bool (l.any q))/\H1=[(5,.box [.clo (.func 135) [] [.ptr 3 0]]),(3,.box [.d (.bool u.rep),.d (.bool u.name),.d (.bool u.channel),.d (.bool u.spec),.d (.bool u.procs),.d (.int .i64 u.t0),.d (.int .i64 u.t1),.d (.int .i64 u.e0),.d (.int .i64 u.e1),.d (.int .i64 u.p0),.d (.int .i64 u.p1),.d (.int .i64 u.g0),.d (.int .i64 u.g1),.d (.int .u8 u.a),.d (.int .u8 u.b)])]):=by
 have hix:=ro6 gl u q l h;have hany:=je1 q l
 (refine j4 func173 ntmps173 results173 fun w M E b0=>?_)
 (repeat' first|refine Ca 7 ?_;refine Ch (hc:=hix) ?_|refine yyp ?_;try refine Cc ?_ ?_<;>intro hb|refine yy ?_|refine yy2 ?_ ?_<;>intro hcmp|refine at_nil ?_;refine Ce [0,1,4,5,6,7] ?_|refine Cb fun K hK=>?_|apply_assumption -exfalso -symm)
 all_goals (refine j0 (j7 ⟨?_,rfl⟩))
 all_goals simp only[oneOf,Ax,An]
 all_goals first
  |exact(hany.1 (by omega)).symm
  |(symm;cases ha:l.any q with
   |false=>rfl
   |true=>exfalso;have:=hany.2 ha;omega)
theorem rb0 (gl:List (Nat × List D))(u:Lx.Uses)(p:Gu->Bool)(l:List Gu)(a b:Int)(h:∀ x∈l,FnE prog gl 135 [.d (dGu (x)),.ptr 3 0] [(3,.box [.d (.bool u.rep),.d (.bool u.name),.d (.bool u.channel),.d (.bool u.spec),.d (.bool u.procs),.d (.int .i64 u.t0),.d (.int .i64 u.t1),.d (.int .i64 u.e0),.d (.int .i64 u.e1),.d (.int .i64 u.p0),.d (.int .i64 u.p1),.d (.int .i64 u.g0),.d (.int .i64 u.g1),.d (.int .u8 u.a),.d (.int .u8 u.b)])] (fun v H1=>v=.d (.bool (p x))/\H1=[(3,.box [.d (.bool u.rep),.d (.bool u.name),.d (.bool u.channel),.d (.bool u.spec),.d (.bool u.procs),.d (.int .i64 u.t0),.d (.int .i64 u.t1),.d (.int .i64 u.e0),.d (.int .i64 u.e1),.d (.int .i64 u.p0),.d (.int .i64 u.p1),.d (.int .i64 u.g0),.d (.int .i64 u.g1),.d (.int .u8 u.a),.d (.int .u8 u.b)])])):
 FnE prog gl 138 [.d (.list 23 (l.map (fun x=>dGu (x)))),.d (.agg [.int .i64 a,.int .i64 b]),.clo (.func 135) [] [.ptr 3 0]] [(3,.box [.d (.bool u.rep),.d (.bool u.name),.d (.bool u.channel),.d (.bool u.spec),.d (.bool u.procs),.d (.int .i64 u.t0),.d (.int .i64 u.t1),.d (.int .i64 u.e0),.d (.int .i64 u.e1),.d (.int .i64 u.p0),.d (.int .i64 u.p1),.d (.int .i64 u.g0),.d (.int .i64 u.g1),.d (.int .u8 u.a),.d (.int .u8 u.b)])] (fun v H1=>v=.d (.bool (Lx.Da l a b p))/\H1=[(3,.box [.d (.bool u.rep),.d (.bool u.name),.d (.bool u.channel),.d (.bool u.spec),.d (.bool u.procs),.d (.int .i64 u.t0),.d (.int .i64 u.t1),.d (.int .i64 u.e0),.d (.int .i64 u.e1),.d (.int .i64 u.p0),.d (.int .i64 u.p1),.d (.int .i64 u.g0),.d (.int .i64 u.g1),.d (.int .u8 u.a),.d (.int .u8 u.b)])]):=by
 have hcf:=ro7 gl u (fun x=>!p x) l fun k hk=>ro5 gl u l[k] (p l[k]) (h _ (Ar _));rw[jn6]at hcf
 (refine j4 func138 ntmps138 results138 fun w M E b0=>?_)
 (repeat' first|refine Ca 4 ?_;(refine j6 4 ?_)|refine Ca 5 ?_;(refine j6 5 ?_)|refine Ca 14 ?_;refine Ch (hc:=hcf) ?_;try refine Cc ?_ ?_<;>intro hb|refine yyp ?_;try refine Cc ?_ ?_<;>intro hb|refine yy ?_|refine Cf 137 ?_;refine Cg (hc:=(ke4 gl a b l.length)) ?_;try refine Cc ?_ ?_<;>intro hb|refine at_nil ?_;refine Ce [0,1,2,4,5,6,7,8] ?_|refine Cb fun K hK=>?_|apply_assumption -exfalso -symm)
 all_goals (refine j0 (j7 ⟨?_,rfl⟩))
 all_goals simp only[oneOf,Lx.Da, *,Bc,Av,Bool.not_not,Bool.not_true,Bool.not_false]
 all_goals (try (simp_all;done))
theorem mz8 (gl:List (Nat × List D))(n:Int):FnD prog gl 146 [.d (.int .i64 n)] (fun v=>v=.d (.bool (decide (0<=n) && decide (n<8)))):=by
 (refine j3 func146 ntmps146 results146 fun w M=>?_)
 (repeat' first|refine yyp ?_;try refine Cc ?_ ?_<;>intro hb|refine yy ?_|refine yy2 ?_ ?_<;>intro hcmp|refine at_nil ?_;refine Ce [0,2,3,4,5,6] ?_|refine Cb fun K hK=>?_|apply_assumption -exfalso -symm)
 all_goals
  (refine j0 (j5 ?_))
  simp only[oneOf, *,decide_true,decide_false,Bn,Az,Bc,Av]
theorem mz9 {mm:Int}(u:Lx.Uses)(g:Gu):FnE prog (glS mm) 135 [.d (dGu g),.ptr 3 0] [(3,.box [.d (.bool u.rep),.d (.bool u.name),.d (.bool u.channel),.d (.bool u.spec),.d (.bool u.procs),.d (.int .i64 u.t0),.d (.int .i64 u.t1),.d (.int .i64 u.e0),.d (.int .i64 u.e1),.d (.int .i64 u.p0),.d (.int .i64 u.p1),.d (.int .i64 u.g0),.d (.int .i64 u.g1),.d (.int .u8 u.a),.d (.int .u8 u.b)])] (fun v H1=>v=.d (.bool (decide (u.a<=g.kind) && decide (g.kind<=u.b) && Lx.Lh g))/\H1=[(3,.box [.d (.bool u.rep),.d (.bool u.name),.d (.bool u.channel),.d (.bool u.spec),.d (.bool u.procs),.d (.int .i64 u.t0),.d (.int .i64 u.t1),.d (.int .i64 u.e0),.d (.int .i64 u.e1),.d (.int .i64 u.p0),.d (.int .i64 u.p1),.d (.int .i64 u.g0),.d (.int .i64 u.g1),.d (.int .u8 u.a),.d (.int .u8 u.b)])]):=by
 have h:=qo8 (mm:=mm) g;simp only[je9]at h ⊢
 (refine j4 func135 ntmps135 results135 fun w M E b0=>?_)
 (repeat' first|refine Ca 2 ?_;(refine j6 2 ?_)|refine Ca 9 ?_;refine yyp ?_;try refine Cc ?_ ?_<;>intro hb|refine Ca 16 ?_;refine yyp ?_;try refine Cc ?_ ?_<;>intro hb|refine yyp ?_|refine yy ?_|refine yy2 ?_ ?_<;>intro hcmp|refine Cf 136 ?_;refine Cg (hc:=h) ?_|refine at_nil ?_;refine Ce [0,1,2,3,4,5,6] ?_|refine Cb fun K hK=>?_|apply_assumption -exfalso -symm)
 all_goals (refine j0 (j7 ⟨?_,rfl⟩))
 all_goals simp only[oneOf, *,ge_iff_le,decide_true,decide_false,Bc,Av]
end
section
def Rj:List Nat:=[0,1,2,3,4,5,6,20,24,27,31,38]
variable {mm:Int}
instance spanEq:TEq prog 189 [1,1]:=⟨by kernel_rfl⟩
def ka7 (p:Pr):List D:=[.int .u8 p.kind,.str p.name,
    .int .u8 p.chan.kind,.int .u8 p.chan.op,.int .u8 p.chan.ty,.int .i32 p.chan.n,.str p.chan.s,.list 6 (p.chan.l.map dEx),
    .list 6 (p.targets.map dEx),.list 6 (p.exprs.map dEx),
    .str p.rep.name,.int .u8 p.rep.base.kind,.int .u8 p.rep.base.op,.int .u8 p.rep.base.ty,.int .i32 p.rep.base.n,.str p.rep.base.s,.list 6 (p.rep.base.l.map dEx),
    .int .u8 p.rep.count.kind,.int .u8 p.rep.count.op,.int .u8 p.rep.count.ty,.int .i32 p.rep.count.n,.str p.rep.count.s,.list 6 (p.rep.count.l.map dEx),
    .list 23 (p.guards.map dGu),.list 42 (p.l.map dPr),.list 1 (p.procs.map (.int .i64)),
    .int .u8 p.spec.kind,.int .u8 p.spec.type.kind,.int .i64 p.spec.type.dim,.int .u8 p.spec.type.item,.str p.spec.type.proto,.list 1 (p.spec.names.map .str),
    .int .u8 p.spec.e.kind,.int .u8 p.spec.e.op,.int .u8 p.spec.e.ty,.int .i32 p.spec.e.n,.str p.spec.e.s,.list 6 (p.spec.e.l.map dEx),
    .bool p.spec.proto.cases,.list 2 (p.spec.proto.l.map dVa),.list 6 (p.spec.formals.map dFo),.list 42 (p.spec.body.map dPr)]
theorem qa0 (u:Lx.Uses)(r:ByteArray):(Lx.Ir u r).rep=u.rep/\(Lx.Ir u r).name=u.name/\(Lx.Ir u r).channel=u.channel/\(Lx.Ir u r).spec=u.spec/\(Lx.Ir u r).procs=u.procs:=by
 unfold Lx.Ir;split
 ·simp
 ·split<;>simp
attribute [local irreducible] TR TC
theorem qo9 (p:Pr):FnD prog (glS mm) 93 [.d (dPr p)] (fun v=>v=.d (.bool (Lx.Il p))):=by
 have q1:=mz5 (mm:=mm) p.kind;have q2:=rj7 (mm:=mm) p.rep;have q3:=fun u=>rb0 (glS mm) u (fun g=>decide (u.a<=g.kind) && decide (g.kind<=u.b) && Lx.Lh g) p.guards u.g0 u.g1 fun g _=>mz9 (mm:=mm) u g;have q4:=ji7 (mm:=mm) p.name;have q5:=jl0 (mm:=mm) p.chan;have q6:=jy0 (glS mm) p.chan;have q7:=fun a b=>ky0 (glS mm) Lx.Hf p.targets a b fun x _=>FnE.ofD (jl0 (mm:=mm) x) (by(repeat (first|exact Pures.nil|apply Pures.cons (Pure.d _)|apply Pures.cons (Pure.nils _)));fail_if_success intros);have q8:=fun a b=>mj5 (glS mm) Lx.Gr p.exprs a b fun x _=>FnE.ofD (ji8 (mm:=mm) x) (by(repeat (first|exact Pures.nil|apply Pures.cons (Pure.d _)|apply Pures.cons (Pure.nils _)));fail_if_success intros);have q9:=fun a b=>qn4 (glS mm) (fun n=>decide (0<=n) && decide (n<8)) p.procs a b fun x _=>FnE.ofD (mz8 (glS mm) x) (by(repeat (first|exact Pures.nil|apply Pures.cons (Pure.d _)|apply Pures.cons (Pure.nils _)));fail_if_success intros);have r1:=ra9 (mm:=mm) p.spec;have r2:=rk6 (glS mm) p.spec sp0;have hpl:Lx.Il p=Lx.Il p:=rfl;generalize hres:Lx.Il p=res at hpl ⊢;clear hpl;unfold Lx.Il at hres;obtain⟨u,ok,hu⟩:∃ u ok,Lx.Ia p.kind=(u,ok):=⟨_,_,rfl⟩;rw[hu]at q1 hres;dsimp only at q1 hres;simp only[r9]at q5 q6;rw[rs1]at r2;rw[v8]
 (refine j3 func93 ntmps93 results93 fun w M=>?_)
 refine Cb fun K0 h0=>?_
 (refine x7 (id:=0) ?_;(repeat' first|refine Ca 1 ?_;(refine j6 1 ?_)|refine yyp ?_;try refine Cc ?_ ?_<;>intro hb|refine at_nil ?_;refine Ce Rj ?_))
 refine h0 _ ?_;refine jp2 (t:=1) (env':=[(2,.d (.bool false)),(0,.d (dP p))]) (H':=[]) rfl rfl (by repeat (first|exact .nil|apply Frz.cons (.d _))) rfl (by(repeat (first|exact Sub.nil|apply Sub.cons rfl));fail_if_success intros) (by(repeat (first|exact Sub.nil|apply Sub.cons rfl));fail_if_success intros) rfl rfl ?_;refine Cb fun K1 h1=>?_
 (refine x7 (id:=1) ?_;(repeat' first|refine Ca 3 ?_;(refine Cj 3 ?_)|refine yyp ?_|refine yy ?_|refine Cf 133 ?_;refine Cg (hc:=q1) ?_|refine at_nil ?_;refine Ce Rj ?_))
 refine h1 _ ?_;refine g8 (ι:=Unit) (fun _=>⟨[(3,.ptr 3 0),(1,.d (.ref (ka7 p) 0)),(2,.d (.bool false)),(0,.d (dP p))],[(3,.box [.d (.bool u.rep),.d (.bool u.name),.d (.bool u.channel),.d (.bool u.spec),.d (.bool u.procs),.d (.int .i64 u.t0),.d (.int .i64 u.t1),.d (.int .i64 u.e0),.d (.int .i64 u.e1),.d (.int .i64 u.p0),.d (.int .i64 u.p1),.d (.int .i64 u.g0),.d (.int .i64 u.g1),.d (.int .u8 u.a),.d (.int .u8 u.b)])],glS mm⟩) (fun _=>ok=true/\Lx.Iz p.rep=true) ?_ ?_
 ·(repeat' first|refine Ca 15 ?_;refine yyp ?_;try refine Cc ?_ ?_<;>intro hb|refine Ca 20 ?_;refine yyp ?_;try refine Cc ?_ ?_<;>intro hb|refine yyp ?_|refine yy ?_|refine Cf 134 ?_;refine Cg (hc:=q2) ?_|refine at_nil ?_;refine Ce Rj ?_|refine Cb fun K hK=>?_|refine Ck 14 ?_;(try dsimp only[List.append]);refine j1 [] qo23_1 ?_|apply_assumption -exfalso -symm)
  all_goals first
   |(refine⟨(),?_,v6⟩
     clear q1 q2 q3 q4 q5 q6 q7 q8 q9 r1 r2 hres;simp_all)
   |(refine j0 ?_
     dsimp only[Exit.Mq];refine j5 ?_
     (repeat (rename (∀ S:Sd,TC _ _ _ S->_)=>hX;clear hX))
     clear q1 q2 q3 q4 q5 q6 q7 q8 q9 r1 r2;simp only[oneOf,Ax,An];rw[<-hres];clear hres;cases ok<;>simp_all)
 rintro _ ⟨hok,hrep⟩;rw[hok,hrep]at hres;refine g8 (ι:=Lx.Uses) (fun x=>⟨[(3,.ptr 3 0),(1,.d (.ref (ka7 p) 0)),(2,.d (.bool false)),(0,.d (dP p))],[(3,.box [.d (.bool x.rep),.d (.bool x.name),.d (.bool x.channel),.d (.bool x.spec),.d (.bool x.procs),.d (.int .i64 x.t0),.d (.int .i64 x.t1),.d (.int .i64 x.e0),.d (.int .i64 x.e1),.d (.int .i64 x.p0),.d (.int .i64 x.p1),.d (.int .i64 x.g0),.d (.int .i64 x.g1),.d (.int .u8 x.a),.d (.int .u8 x.b)])],glS mm⟩) (fun x=>x=Lx.Ir u p.rep.name/\(p.rep.name=ByteArray.empty\/u.rep=true)) ?_ ?_
 ·(repeat' first|refine Ca 27 ?_;refine yyp ?_;try refine Cc ?_ ?_<;>intro hb|refine yyp ?_|refine yy ?_|refine yy2 ?_ ?_<;>intro hcmp|refine at_nil ?_;refine Ce Rj ?_|refine Cb fun K hK=>?_|refine Ck 14 ?_;(try dsimp only[List.append]);refine j1 [] qo23_1 ?_|apply_assumption -exfalso -symm)
  all_goals first
   |(refine⟨{u with p0:=1,p1:=1},?_,v6⟩
     clear q1 q2 q3 q4 q5 q6 q7 q8 q9 r1 r2
     (repeat (rename (∀ S:Sd,TC _ _ _ S->_)=>hX;clear hX))
     clear hres;unfold Lx.Ir;simp only[jf0]at *;simp_all;done)
   |(refine⟨{u with g0:=1,g1:=1},?_,v6⟩
     clear q1 q2 q3 q4 q5 q6 q7 q8 q9 r1 r2
     (repeat (rename (∀ S:Sd,TC _ _ _ S->_)=>hX;clear hX))
     clear hres;unfold Lx.Ir;simp only[jf0]at *;simp_all;done)
   |(refine⟨u,?_,v6⟩
     clear q1 q2 q3 q4 q5 q6 q7 q8 q9 r1 r2
     (repeat (rename (∀ S:Sd,TC _ _ _ S->_)=>hX;clear hX))
     clear hres;unfold Lx.Ir;simp only[jf0]at *;simp_all;done)
   |(refine j0 ?_
     dsimp only[Exit.Mq];refine j5 ?_;clear q1 q2 q3 q4 q5 q6 q7 q8 q9 r1 r2
     (repeat (rename (∀ S:Sd,TC _ _ _ S->_)=>hX;clear hX))
     simp only[oneOf,Ax,An];rw[<-hres];clear hres;simp only[jf0]at *;simp_all;done)
 rintro x ⟨hx,hru⟩;rw[<-hx]at hres;have hxs:=qa0 u p.rep.name;rw[<-hx]at hxs;have hor:(decide (p.rep.name=ByteArray.empty) || u.rep)=true:=by
  rcases hru with h|h
  ·rw[Bt h];rfl
  ·rw[h,Eh]
 rw[hor]at hres;clear q1 q2 hu hok hrep hxs hor hru hx;simp only[Bc]at hres;refine Cb fun K10 h10=>?_
 (refine x7 (id:=10) ?_;(repeat' first|refine Ca 36 ?_;refine z_p Cr ?_|refine Ca 5 ?_;(refine Cj 5 ?_)|refine yy ?_|refine at_nil ?_;refine Ce Rj ?_))
 refine h10 _ ?_;refine g8 (ι:=Int) (fun n=>⟨[(5,.ptr 5 0),(3,.ptr 3 0),(1,.d (.ref (ka7 p) 0)),(2,.d (.bool false)),(0,.d (dP p))],[(5,.box [.d (.int .i64 n),.d (.int .i64 n)]),(3,.box [.d (.bool x.rep),.d (.bool x.name),.d (.bool x.channel),.d (.bool x.spec),.d (.bool x.procs),.d (.int .i64 x.t0),.d (.int .i64 x.t1),.d (.int .i64 x.e0),.d (.int .i64 x.e1),.d (.int .i64 x.p0),.d (.int .i64 x.p1),.d (.int .i64 x.g0),.d (.int .i64 x.g1),.d (.int .u8 x.a),.d (.int .u8 x.b)])],glS mm⟩) (fun n=>n=if x.procs then (p.l.length:Int) else 0) ?_ ?_
 ·(repeat' first|refine Ca 38 ?_;refine yyp ?_;try refine Cc ?_ ?_<;>intro hb|refine Ca 45 ?_;refine z_p Cr ?_|refine yyp ?_|refine yy ?_|refine at_nil ?_;refine Ce Rj ?_|refine Cb fun K hK=>?_|refine Ck 14 ?_;(try dsimp only[List.append]);refine j1 [] qo23_1 ?_|apply_assumption -exfalso -symm)
  all_goals
   refine⟨_,?_,v6⟩;rw[hb]
   try rfl
 intro n hn;rw[<-hn]at hres
 as_aux_lemma=>
  (repeat' first|refine Ca 53 ?_;refine yyp ?_;try refine Cc ?_ ?_<;>intro hb|refine Ca 59 ?_;refine Ch (hc:=q3 x) ?_|refine Ca 61 ?_;refine yyp ?_;try refine Cc ?_ ?_<;>intro hb|refine Ca 72 ?_;refine yyp ?_;try refine Cc ?_ ?_<;>intro hb|refine Ca 83 ?_;refine yyp ?_;try refine Cc ?_ ?_<;>intro hb|refine Ca 88 ?_;refine Ch (hc:=q7 _ _) ?_|refine Ca 90 ?_;refine yyp ?_;try refine Cc ?_ ?_<;>intro hb|refine Ca 95 ?_;refine Ch (hc:=q8 _ _) ?_|refine Ca 97 ?_;refine yyp ?_;try refine Cc ?_ ?_<;>intro hb|refine Ca 101 ?_;refine Ch (hc:=q9 _ _) ?_|refine Ca 103 ?_;refine yyp ?_;try refine Cc ?_ ?_<;>intro hb|refine Ca 106 ?_;refine yyp ?_;try refine Cc ?_ ?_<;>intro hb|refine Ca 111 ?_;refine yyp ?_;try refine Cc ?_ ?_<;>intro hb|refine Ca 115 ?_;refine yyp ?_;try refine Cc ?_ ?_<;>intro hb|refine yyp ?_|refine yy ?_|refine yy2 ?_ ?_<;>intro hcmp|refine Cf 137 ?_;refine Cg (hc:=(ke4 _ _ _ _)) ?_|refine Cf 140 ?_;refine Cg (hc:=q4) ?_|refine Cf 139 ?_;refine Cg (hc:=(kx8 _ _ _ _)) ?_|refine Cf 141 ?_;refine Cg (hc:=q5) ?_|refine Cf 142 ?_;refine Cg (hc:=q6) ?_|refine Cf 147 ?_;refine Cg (hc:=r1) ?_|refine Cf 90 ?_;refine Cg (hc:=r2) ?_|refine at_nil ?_;refine Ce Rj ?_|refine Cb fun K hK=>?_|refine Ck 14 ?_;(try dsimp only[List.append]);refine j1 [12,41,48,54] (lin [0,8,5,13,16,22,24,28,36,44,33,41,51,52,56,60,68,80,65,73,85,88,78,94,96,100,104,112,124,109,117,129,122,134,138,140,144,148,156,153,161,167,168,172,176,184,181,189,195,196,200,204,209,213,219,220,224,228,233,236,240,245,250,252,256,260,265,268,272,276,284,281,290,292,296,300,304]) ?_|apply_assumption -exfalso -symm)
  all_goals clear q3 q4 q5 q6 q7 q8 q9 r1 r2
  all_goals as_aux_lemma=>first
   |((refine j0 (j5 ?_))
     (repeat (rename (∀ S:Sd,TC _ _ _ S->_)=>hX;clear hX))
     simp only[oneOf,Ax,An];rw[<-hres];simp only[jf0]at *
     grind)
end
end Go.Proofs.YtdopmfifmgkmoaaGreatDoor
