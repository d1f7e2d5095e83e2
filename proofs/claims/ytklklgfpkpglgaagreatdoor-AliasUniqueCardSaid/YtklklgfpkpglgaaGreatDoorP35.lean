/- Parts: O22, O23. -/
import Derived.Test.YtklklgfpkpglgaaGreatDoorP50
set_option linter.all false
set_option maxRecDepth 100000
set_option maxHeartbeats 16000000
namespace Go.Proofs.YtklklgfpkpglgaaGreatDoor
open Go.RowKit Go.Proofs.Tryz
section
def Uz:List Nat:=[0,1,4,5,6,7,8,9,16]
attribute [local irreducible] TR TC
theorem ve1 (gl:List (Nat × List D))(u:Lx.Uses)(x:Gu)(b:Bool)(h:FnE prog gl 120 [.d (dGu (x)),.ptr 3 0] [(3,.box [.d (.bool u.rep),.d (.bool u.name),.d (.bool u.channel),.d (.bool u.spec),.d (.bool u.procs),.d (.int .i64 u.t0),.d (.int .i64 u.t1),.d (.int .i64 u.e0),.d (.int .i64 u.e1),.d (.int .i64 u.p0),.d (.int .i64 u.p1),.d (.int .i64 u.g0),.d (.int .i64 u.g1),.d (.int .u8 u.a),.d (.int .u8 u.b)])] (fun v H1=>v=.d (.bool b)/\H1=[(3,.box [.d (.bool u.rep),.d (.bool u.name),.d (.bool u.channel),.d (.bool u.spec),.d (.bool u.procs),.d (.int .i64 u.t0),.d (.int .i64 u.t1),.d (.int .i64 u.e0),.d (.int .i64 u.e1),.d (.int .i64 u.p0),.d (.int .i64 u.p1),.d (.int .i64 u.g0),.d (.int .i64 u.g1),.d (.int .u8 u.a),.d (.int .u8 u.b)])])):
 FnE prog gl 161 [.d (dGu (x)),.ptr 5 0] [(5,.box [.clo (.func 120) [] [.ptr 3 0]]),(3,.box [.d (.bool u.rep),.d (.bool u.name),.d (.bool u.channel),.d (.bool u.spec),.d (.bool u.procs),.d (.int .i64 u.t0),.d (.int .i64 u.t1),.d (.int .i64 u.e0),.d (.int .i64 u.e1),.d (.int .i64 u.p0),.d (.int .i64 u.p1),.d (.int .i64 u.g0),.d (.int .i64 u.g1),.d (.int .u8 u.a),.d (.int .u8 u.b)])] (fun v H1=>v=.d (.bool (!b))/\H1=[(5,.box [.clo (.func 120) [] [.ptr 3 0]]),(3,.box [.d (.bool u.rep),.d (.bool u.name),.d (.bool u.channel),.d (.bool u.spec),.d (.bool u.procs),.d (.int .i64 u.t0),.d (.int .i64 u.t1),.d (.int .i64 u.e0),.d (.int .i64 u.e1),.d (.int .i64 u.p0),.d (.int .i64 u.p1),.d (.int .i64 u.g0),.d (.int .i64 u.g1),.d (.int .u8 u.a),.d (.int .u8 u.b)])]):=by
 simp only[jd7]at h ⊢
 (refine j2 func161 ntmps161 results161 fun w M E b0=>?_)
 (repeat' first|refine Ca 2 ?_;(refine Cq 2 ?_)|refine Ca 6 ?_;refine Cg (hc:=h) ?_;try refine Ce ?_ ?_<;>intro hb|refine yyp ?_;try refine Ce ?_ ?_<;>intro hb|refine yy ?_|refine at_nil ?_;refine Cc [0,1,2,3,4,5,6] ?_|refine Cb fun K hK=>?_|apply_assumption -exfalso -symm)
 all_goals (refine j1 (j4 ⟨?_,rfl⟩))
 all_goals simp only[oneOf, *,Bool.not_true,Bool.not_false]
theorem ve2 (gl:List (Nat × List D))(u:Lx.Uses)(q:Gu->Bool)(l:List Gu)(h:∀ (k:Nat) (hk:k<l.length),FnE prog gl 161 [.d (dGu (l[k])),.ptr 5 0] [(5,.box [.clo (.func 120) [] [.ptr 3 0]]),(3,.box [.d (.bool u.rep),.d (.bool u.name),.d (.bool u.channel),.d (.bool u.spec),.d (.bool u.procs),.d (.int .i64 u.t0),.d (.int .i64 u.t1),.d (.int .i64 u.e0),.d (.int .i64 u.e1),.d (.int .i64 u.p0),.d (.int .i64 u.p1),.d (.int .i64 u.g0),.d (.int .i64 u.g1),.d (.int .u8 u.a),.d (.int .u8 u.b)])] (fun v H1=>v=.d (.bool (q l[k]))/\H1=[(5,.box [.clo (.func 120) [] [.ptr 3 0]]),(3,.box [.d (.bool u.rep),.d (.bool u.name),.d (.bool u.channel),.d (.bool u.spec),.d (.bool u.procs),.d (.int .i64 u.t0),.d (.int .i64 u.t1),.d (.int .i64 u.e0),.d (.int .i64 u.e1),.d (.int .i64 u.p0),.d (.int .i64 u.p1),.d (.int .i64 u.g0),.d (.int .i64 u.g1),.d (.int .u8 u.a),.d (.int .u8 u.b)])])):
 FnE prog gl 192 [.d (.list 23 (l.map (fun x=>dGu (x)))),.clo (.func 161) [] [.ptr 5 0]] [(5,.box [.clo (.func 120) [] [.ptr 3 0]]),(3,.box [.d (.bool u.rep),.d (.bool u.name),.d (.bool u.channel),.d (.bool u.spec),.d (.bool u.procs),.d (.int .i64 u.t0),.d (.int .i64 u.t1),.d (.int .i64 u.e0),.d (.int .i64 u.e1),.d (.int .i64 u.p0),.d (.int .i64 u.p1),.d (.int .i64 u.g0),.d (.int .i64 u.g1),.d (.int .u8 u.a),.d (.int .u8 u.b)])] (fun v H1=>v=.d (.int .i64 (jd8 q l))/\H1=[(5,.box [.clo (.func 120) [] [.ptr 3 0]]),(3,.box [.d (.bool u.rep),.d (.bool u.name),.d (.bool u.channel),.d (.bool u.spec),.d (.bool u.procs),.d (.int .i64 u.t0),.d (.int .i64 u.t1),.d (.int .i64 u.e0),.d (.int .i64 u.e1),.d (.int .i64 u.p0),.d (.int .i64 u.p1),.d (.int .i64 u.g0),.d (.int .i64 u.g1),.d (.int .u8 u.a),.d (.int .u8 u.b)])]):=by
 simp only[jd7]at h ⊢
 (refine j2 func192 ntmps192 results192 fun w M E b0=>?_)
 refine j8 0 rfl fun hn=>?_;simp only[Ab]at hn
 (repeat' first|refine yyp ?_;try refine Ce ?_ ?_<;>intro hb|refine yy ?_|refine at_nil ?_;refine Cc Uz ?_|refine Cb fun K hK=>?_|apply_assumption -exfalso -symm)
 refine j6 [4,5,8,9,10,11,12,13,14,15,16,17,18] [] (fun k:Nat=>[(8,.d (.int .i64 k))]) (fun _=>[]) (fun k=>k<=l.length/\jd8 q l=if jd8 q (l.drop k)<0 then -1 else jd8 q (l.drop k)+k) (fun k=>l.length - k) 0 ⟨Ai _,by have:=l9 q l;simp only[Ev];split<;>omega⟩ fun k ⟨hk,hi⟩=>?_;dsimp only[Ac,Af];have hlo:=l9 q (l.drop (k+1));rcases Ah k l.length with hk2|hk2
 ·have hone:=h k hk2
  (repeat' first|refine Ca 16 ?_;refine Cg (hc:=hone) ?_;try refine Ce ?_ ?_<;>intro hb|refine yyp ?_;try refine Ce ?_ ?_<;>intro hb|refine yy ?_|refine at_nil ?_;refine Cc Uz ?_|refine Cb fun K hK=>?_|apply_assumption -exfalso -symm)
  ·(refine j1 (j4 ⟨?_,rfl⟩))
   rw[hi,x8 _ _ _ hk2,Ad hb];simp[oneOf]
  ·refine⟨k+1,⟨by omega,?_⟩,by omega,k8⟩;rw[hi,x8 _ _ _ hk2,Ae (show ¬q l[k]=true by rw[hb];exact Ft)];split<;>split<;>(try split)<;>omega
 ·(repeat' first|refine yyp ?_;try refine Ce ?_ ?_<;>intro hb|refine yy ?_|refine at_nil ?_;refine Cc Uz ?_|refine Cb fun K hK=>?_|apply_assumption -exfalso -symm)
  (refine j1 (j4 ⟨?_,rfl⟩))
  have:k=l.length:=by omega
  rw[hi,this,Fk];simp[oneOf,jd8]
theorem ve3 (gl:List (Nat × List D))(u:Lx.Uses)(q:Gu->Bool)(l:List Gu)(h:∀ (k:Nat) (hk:k<l.length),FnE prog gl 161 [.d (dGu (l[k])),.ptr 5 0] [(5,.box [.clo (.func 120) [] [.ptr 3 0]]),(3,.box [.d (.bool u.rep),.d (.bool u.name),.d (.bool u.channel),.d (.bool u.spec),.d (.bool u.procs),.d (.int .i64 u.t0),.d (.int .i64 u.t1),.d (.int .i64 u.e0),.d (.int .i64 u.e1),.d (.int .i64 u.p0),.d (.int .i64 u.p1),.d (.int .i64 u.g0),.d (.int .i64 u.g1),.d (.int .u8 u.a),.d (.int .u8 u.b)])] (fun v H1=>v=.d (.bool (q l[k]))/\H1=[(5,.box [.clo (.func 120) [] [.ptr 3 0]]),(3,.box [.d (.bool u.rep),.d (.bool u.name),.d (.bool u.channel),.d (.bool u.spec),.d (.bool u.procs),.d (.int .i64 u.t0),.d (.int .i64 u.t1),.d (.int .i64 u.e0),.d (.int .i64 u.e1),.d (.int .i64 u.p0),.d (.int .i64 u.p1),.d (.int .i64 u.g0),.d (.int .i64 u.g1),.d (.int .u8 u.a),.d (.int .u8 u.b)])])):
 FnE prog gl 160 [.d (.list 23 (l.map (fun x=>dGu (x)))),.clo (.func 161) [] [.ptr 5 0]] [(5,.box [.clo (.func 120) [] [.ptr 3 0]]),(3,.box [.d (.bool u.rep),.d (.bool u.name),.d (.bool u.channel),.d (.bool u.spec),.d (.bool u.procs),.d (.int .i64 u.t0),.d (.int .i64 u.t1),.d (.int .i64 u.e0),.d (.int .i64 u.e1),.d (.int .i64 u.p0),.d (.int .i64 u.p1),.d (.int .i64 u.g0),.d (.int .i64 u.g1),.d (.int .u8 u.a),.d (.int .u8 u.b)])] (fun v H1=>v=.d (.bool (l.any q))/\H1=[(5,.box [.clo (.func 120) [] [.ptr 3 0]]),(3,.box [.d (.bool u.rep),.d (.bool u.name),.d (.bool u.channel),.d (.bool u.spec),.d (.bool u.procs),.d (.int .i64 u.t0),.d (.int .i64 u.t1),.d (.int .i64 u.e0),.d (.int .i64 u.e1),.d (.int .i64 u.p0),.d (.int .i64 u.p1),.d (.int .i64 u.g0),.d (.int .i64 u.g1),.d (.int .u8 u.a),.d (.int .u8 u.b)])]):=by
 have hix:=ve2 gl u q l h;have hany:=je6 q l
 (refine j2 func160 ntmps160 results160 fun w M E b0=>?_)
 (repeat' first|refine Ca 7 ?_;refine Cg (hc:=hix) ?_|refine yyp ?_;try refine Ce ?_ ?_<;>intro hb|refine yy ?_|refine yy2 ?_ ?_<;>intro hcmp|refine at_nil ?_;refine Cc [0,1,4,5,6,7] ?_|refine Cb fun K hK=>?_|apply_assumption -exfalso -symm)
 all_goals (refine j1 (j4 ⟨?_,rfl⟩))
 all_goals simp only[oneOf,Bk,Be]
 all_goals first
  |exact(hany.1 (by omega)).symm
  |(symm;cases ha:l.any q with
   |false=>rfl
   |true=>exfalso;have:=hany.2 ha;omega)
theorem rn1 (gl:List (Nat × List D))(u:Lx.Uses)(p:Gu->Bool)(l:List Gu)(a b:Int)(h:∀ x∈l,FnE prog gl 120 [.d (dGu (x)),.ptr 3 0] [(3,.box [.d (.bool u.rep),.d (.bool u.name),.d (.bool u.channel),.d (.bool u.spec),.d (.bool u.procs),.d (.int .i64 u.t0),.d (.int .i64 u.t1),.d (.int .i64 u.e0),.d (.int .i64 u.e1),.d (.int .i64 u.p0),.d (.int .i64 u.p1),.d (.int .i64 u.g0),.d (.int .i64 u.g1),.d (.int .u8 u.a),.d (.int .u8 u.b)])] (fun v H1=>v=.d (.bool (p x))/\H1=[(3,.box [.d (.bool u.rep),.d (.bool u.name),.d (.bool u.channel),.d (.bool u.spec),.d (.bool u.procs),.d (.int .i64 u.t0),.d (.int .i64 u.t1),.d (.int .i64 u.e0),.d (.int .i64 u.e1),.d (.int .i64 u.p0),.d (.int .i64 u.p1),.d (.int .i64 u.g0),.d (.int .i64 u.g1),.d (.int .u8 u.a),.d (.int .u8 u.b)])])):
 FnE prog gl 123 [.d (.list 23 (l.map (fun x=>dGu (x)))),.d (.agg [.int .i64 a,.int .i64 b]),.clo (.func 120) [] [.ptr 3 0]] [(3,.box [.d (.bool u.rep),.d (.bool u.name),.d (.bool u.channel),.d (.bool u.spec),.d (.bool u.procs),.d (.int .i64 u.t0),.d (.int .i64 u.t1),.d (.int .i64 u.e0),.d (.int .i64 u.e1),.d (.int .i64 u.p0),.d (.int .i64 u.p1),.d (.int .i64 u.g0),.d (.int .i64 u.g1),.d (.int .u8 u.a),.d (.int .u8 u.b)])] (fun v H1=>v=.d (.bool (Lx.Dj l a b p))/\H1=[(3,.box [.d (.bool u.rep),.d (.bool u.name),.d (.bool u.channel),.d (.bool u.spec),.d (.bool u.procs),.d (.int .i64 u.t0),.d (.int .i64 u.t1),.d (.int .i64 u.e0),.d (.int .i64 u.e1),.d (.int .i64 u.p0),.d (.int .i64 u.p1),.d (.int .i64 u.g0),.d (.int .i64 u.g1),.d (.int .u8 u.a),.d (.int .u8 u.b)])]):=by
 have hcf:=ve3 gl u (fun x=>!p x) l fun k hk=>ve1 gl u l[k] (p l[k]) (h _ (Aw _));rw[jp8]at hcf
 (refine j2 func123 ntmps123 results123 fun w M E b0=>?_)
 (repeat' first|refine Ca 4 ?_;(refine Cq 4 ?_)|refine Ca 5 ?_;(refine Cq 5 ?_)|refine Ca 14 ?_;refine Cg (hc:=hcf) ?_;try refine Ce ?_ ?_<;>intro hb|refine yyp ?_;try refine Ce ?_ ?_<;>intro hb|refine yy ?_|refine Ch 122 ?_;refine Ck (hc:=(ki6 gl a b l.length)) ?_;try refine Ce ?_ ?_<;>intro hb|refine at_nil ?_;refine Cc [0,1,2,4,5,6,7,8] ?_|refine Cb fun K hK=>?_|apply_assumption -exfalso -symm)
 all_goals (refine j1 (j4 ⟨?_,rfl⟩))
 all_goals simp only[oneOf,Lx.Dj, *,Bi,Bj,Bool.not_not,Bool.not_true,Bool.not_false]
 all_goals (try (simp_all;done))
theorem qk7 (gl:List (Nat × List D))(n:Int):FnD prog gl 131 [.d (.int .i64 n)] (fun v=>v=.d (.bool (decide (0<=n) && decide (n<8)))):=by
 (refine j7 func131 ntmps131 results131 fun w M=>?_)
 (repeat' first|refine yyp ?_;try refine Ce ?_ ?_<;>intro hb|refine yy ?_|refine yy2 ?_ ?_<;>intro hcmp|refine at_nil ?_;refine Cc [0,2,3,4,5,6] ?_|refine Cb fun K hK=>?_|apply_assumption -exfalso -symm)
 all_goals
  (refine j1 (k7 ?_))
  simp only[oneOf, *,decide_true,decide_false,Bw,Bo,Bi,Bj]
theorem qk8 {mm:Int}(u:Lx.Uses)(g:Gu):FnE prog (glS mm) 120 [.d (dGu g),.ptr 3 0] [(3,.box [.d (.bool u.rep),.d (.bool u.name),.d (.bool u.channel),.d (.bool u.spec),.d (.bool u.procs),.d (.int .i64 u.t0),.d (.int .i64 u.t1),.d (.int .i64 u.e0),.d (.int .i64 u.e1),.d (.int .i64 u.p0),.d (.int .i64 u.p1),.d (.int .i64 u.g0),.d (.int .i64 u.g1),.d (.int .u8 u.a),.d (.int .u8 u.b)])] (fun v H1=>v=.d (.bool (decide (u.a<=g.kind) && decide (g.kind<=u.b) && Lx.Le g))/\H1=[(3,.box [.d (.bool u.rep),.d (.bool u.name),.d (.bool u.channel),.d (.bool u.spec),.d (.bool u.procs),.d (.int .i64 u.t0),.d (.int .i64 u.t1),.d (.int .i64 u.e0),.d (.int .i64 u.e1),.d (.int .i64 u.p0),.d (.int .i64 u.p1),.d (.int .i64 u.g0),.d (.int .i64 u.g1),.d (.int .u8 u.a),.d (.int .u8 u.b)])]):=by
 have h:=qz7 (mm:=mm) g;simp only[jd7]at h ⊢
 (refine j2 func120 ntmps120 results120 fun w M E b0=>?_)
 (repeat' first|refine Ca 2 ?_;(refine Cq 2 ?_)|refine Ca 9 ?_;refine yyp ?_;try refine Ce ?_ ?_<;>intro hb|refine Ca 16 ?_;refine yyp ?_;try refine Ce ?_ ?_<;>intro hb|refine yyp ?_|refine yy ?_|refine yy2 ?_ ?_<;>intro hcmp|refine Ch 121 ?_;refine Ck (hc:=h) ?_|refine at_nil ?_;refine Cc [0,1,2,3,4,5,6] ?_|refine Cb fun K hK=>?_|apply_assumption -exfalso -symm)
 all_goals (refine j1 (j4 ⟨?_,rfl⟩))
 all_goals simp only[oneOf, *,ge_iff_le,decide_true,decide_false,Bi,Bj]
end
section
def Qt:List Nat:=[0,1,2,3,4,5,6,20,24,27,31,38]
def qk9:Plan:=lin [0,8,5,13,16,22,24,28,36,44,33,41,50,52,56,60,68,80,65,73,85,88,78,94,96,100,104,112,124,109,117,129,122,134,138,140,144,148,156,153,161,166,168,172,176,184,181,189,194,196,200,204,209,213,218,220,224,228,233,236,240,245,250,252,256,260,265,268,272,276,284,281,290,292,296,300,304]
variable {mm:Int}
instance spanEq:TEq prog 176 [1,1]:=⟨by kernel_rfl⟩
def jy4 (p:Pr):List D:=[.int .u8 p.kind,.str p.name,
    .int .u8 p.chan.kind,.int .u8 p.chan.op,.int .u8 p.chan.ty,.int .i32 p.chan.n,.str p.chan.s,.list 6 (p.chan.l.map dEx),
    .list 6 (p.targets.map dEx),.list 6 (p.exprs.map dEx),
    .str p.rep.name,.int .u8 p.rep.base.kind,.int .u8 p.rep.base.op,.int .u8 p.rep.base.ty,.int .i32 p.rep.base.n,.str p.rep.base.s,.list 6 (p.rep.base.l.map dEx),
    .int .u8 p.rep.count.kind,.int .u8 p.rep.count.op,.int .u8 p.rep.count.ty,.int .i32 p.rep.count.n,.str p.rep.count.s,.list 6 (p.rep.count.l.map dEx),
    .list 23 (p.guards.map dGu),.list 42 (p.l.map dPr),.list 1 (p.procs.map (.int .i64)),
    .int .u8 p.spec.kind,.int .u8 p.spec.type.kind,.int .i64 p.spec.type.dim,.int .u8 p.spec.type.item,.str p.spec.type.proto,.list 1 (p.spec.names.map .str),
    .int .u8 p.spec.e.kind,.int .u8 p.spec.e.op,.int .u8 p.spec.e.ty,.int .i32 p.spec.e.n,.str p.spec.e.s,.list 6 (p.spec.e.l.map dEx),
    .bool p.spec.proto.cases,.list 2 (p.spec.proto.l.map dVa),.list 6 (p.spec.formals.map dFo),.list 42 (p.spec.body.map dPr)]
theorem ql0 (u:Lx.Uses)(r:ByteArray):(Lx.Ii u r).rep=u.rep/\(Lx.Ii u r).name=u.name/\(Lx.Ii u r).channel=u.channel/\(Lx.Ii u r).spec=u.spec/\(Lx.Ii u r).procs=u.procs:=by
 unfold Lx.Ii;split
 ·simp
 ·split<;>simp
attribute [local irreducible] TR TC
theorem mt5 (p:Pr):FnD prog (glS mm) 77 [.d (dPr p)] (fun v=>v=.d (.bool (Lx.Gq p))):=by
 have q1:=qk4 (mm:=mm) p.kind;have q2:=rw4 (mm:=mm) p.rep;have q3:=fun u=>rn1 (glS mm) u (fun g=>decide (u.a<=g.kind) && decide (g.kind<=u.b) && Lx.Le g) p.guards u.g0 u.g1 fun g _=>qk8 (mm:=mm) u g;have q4:=jk6 (mm:=mm) p.name;have q5:=Jv (mm:=mm) p.chan;have q6:=kd3 (glS mm) p.chan;have q7:=fun a b=>mc9 (glS mm) Lx.Iw p.targets a b fun x _=>FnE.ofD (Jv (mm:=mm) x) (by(repeat (first|exact Pures.nil|apply Pures.cons (Pure.d _)|apply Pures.cons (Pure.nils _)));fail_if_success intros);have q8:=fun a b=>mq4 (glS mm) Lx.Ja p.exprs a b fun x _=>FnE.ofD (jk7 (mm:=mm) x) (by(repeat (first|exact Pures.nil|apply Pures.cons (Pure.d _)|apply Pures.cons (Pure.nils _)));fail_if_success intros);have q9:=fun a b=>qu6 (glS mm) (fun n=>decide (0<=n) && decide (n<8)) p.procs a b fun x _=>FnE.ofD (qk7 (glS mm) x) (by(repeat (first|exact Pures.nil|apply Pures.cons (Pure.d _)|apply Pures.cons (Pure.nils _)));fail_if_success intros);have r1:=rn0 (mm:=mm) p.spec;have r2:=rw7 (glS mm) p.spec sp0;have hpl:Lx.Gq p=Lx.Gq p:=rfl;generalize hres:Lx.Gq p=res at hpl ⊢;clear hpl;unfold Lx.Gq at hres;obtain⟨u,ok,hu⟩:∃ u ok,Lx.Hf p.kind=(u,ok):=⟨_,_,rfl⟩;rw[hu]at q1 hres;dsimp only at q1 hres;simp only[k9]at q5 q6;rw[vj2]at r2;rw[j9]
 (refine j7 func77 ntmps77 results77 fun w M=>?_)
 refine Cb fun K0 h0=>?_
 (refine v8 (id:=0) ?_;(repeat' first|refine Ca 1 ?_;(refine Cq 1 ?_)|refine yyp ?_;try refine Ce ?_ ?_<;>intro hb|refine at_nil ?_;refine Cc Qt ?_))
 refine h0 _ ?_;refine jw5 (t:=1) (env':=[(2,.d (.bool false)),(0,.d (dP p))]) (H':=[]) rfl rfl (by repeat (first|exact .nil|apply Frz.cons (.d _))) rfl (by(repeat (first|exact Sub.nil|apply Sub.cons rfl));fail_if_success intros) (by(repeat (first|exact Sub.nil|apply Sub.cons rfl));fail_if_success intros) rfl rfl ?_;refine Cb fun K1 h1=>?_
 (refine v8 (id:=1) ?_;(repeat' first|refine Ca 3 ?_;(refine j3 3 ?_)|refine yyp ?_|refine yy ?_|refine Ch 118 ?_;refine Ck (hc:=q1) ?_|refine at_nil ?_;refine Cc Qt ?_))
 refine h1 _ ?_;refine jj2 (ι:=Unit) (fun _=>⟨[(3,.ptr 3 0),(1,.d (.ref (jy4 p) 0)),(2,.d (.bool false)),(0,.d (dP p))],[(3,.box [.d (.bool u.rep),.d (.bool u.name),.d (.bool u.channel),.d (.bool u.spec),.d (.bool u.procs),.d (.int .i64 u.t0),.d (.int .i64 u.t1),.d (.int .i64 u.e0),.d (.int .i64 u.e1),.d (.int .i64 u.p0),.d (.int .i64 u.p1),.d (.int .i64 u.g0),.d (.int .i64 u.g1),.d (.int .u8 u.a),.d (.int .u8 u.b)])],glS mm⟩) (fun _=>ok=true/\Lx.Kn p.rep=true) ?_ ?_
 ·(repeat' first|refine Ca 15 ?_;refine yyp ?_;try refine Ce ?_ ?_<;>intro hb|refine Ca 20 ?_;refine yyp ?_;try refine Ce ?_ ?_<;>intro hb|refine yyp ?_|refine yy ?_|refine Ch 119 ?_;refine Ck (hc:=q2) ?_|refine at_nil ?_;refine Cc Qt ?_|refine Cb fun K hK=>?_|refine Cf 14 ?_;(try dsimp only[List.append]);refine j0 [] qk9 ?_|apply_assumption -exfalso -symm)
  all_goals first
   |(refine⟨(),?_,k8⟩
     clear q1 q2 q3 q4 q5 q6 q7 q8 q9 r1 r2 hres;simp_all)
   |(refine j1 ?_
     dsimp only[Exit.Nf];refine k7 ?_
     (repeat (rename (∀ S:Sd,TC _ _ _ S->_)=>hX;clear hX))
     clear q1 q2 q3 q4 q5 q6 q7 q8 q9 r1 r2;simp only[oneOf,Bk,Be];rw[<-hres];clear hres;cases ok<;>simp_all)
 rintro _ ⟨hok,hrep⟩;rw[hok,hrep]at hres;refine jj2 (ι:=Lx.Uses) (fun x=>⟨[(3,.ptr 3 0),(1,.d (.ref (jy4 p) 0)),(2,.d (.bool false)),(0,.d (dP p))],[(3,.box [.d (.bool x.rep),.d (.bool x.name),.d (.bool x.channel),.d (.bool x.spec),.d (.bool x.procs),.d (.int .i64 x.t0),.d (.int .i64 x.t1),.d (.int .i64 x.e0),.d (.int .i64 x.e1),.d (.int .i64 x.p0),.d (.int .i64 x.p1),.d (.int .i64 x.g0),.d (.int .i64 x.g1),.d (.int .u8 x.a),.d (.int .u8 x.b)])],glS mm⟩) (fun x=>x=Lx.Ii u p.rep.name/\(p.rep.name=ByteArray.empty\/u.rep=true)) ?_ ?_
 ·(repeat' first|refine Ca 27 ?_;refine yyp ?_;try refine Ce ?_ ?_<;>intro hb|refine yyp ?_|refine yy ?_|refine yy2 ?_ ?_<;>intro hcmp|refine at_nil ?_;refine Cc Qt ?_|refine Cb fun K hK=>?_|refine Cf 14 ?_;(try dsimp only[List.append]);refine j0 [] qk9 ?_|apply_assumption -exfalso -symm)
  all_goals first
   |(refine⟨{u with p0:=1,p1:=1},?_,k8⟩
     clear q1 q2 q3 q4 q5 q6 q7 q8 q9 r1 r2
     (repeat (rename (∀ S:Sd,TC _ _ _ S->_)=>hX;clear hX))
     clear hres;unfold Lx.Ii;simp only[jp2]at *;simp_all;done)
   |(refine⟨{u with g0:=1,g1:=1},?_,k8⟩
     clear q1 q2 q3 q4 q5 q6 q7 q8 q9 r1 r2
     (repeat (rename (∀ S:Sd,TC _ _ _ S->_)=>hX;clear hX))
     clear hres;unfold Lx.Ii;simp only[jp2]at *;simp_all;done)
   |(refine⟨u,?_,k8⟩
     clear q1 q2 q3 q4 q5 q6 q7 q8 q9 r1 r2
     (repeat (rename (∀ S:Sd,TC _ _ _ S->_)=>hX;clear hX))
     clear hres;unfold Lx.Ii;simp only[jp2]at *;simp_all;done)
   |(refine j1 ?_
     dsimp only[Exit.Nf];refine k7 ?_;clear q1 q2 q3 q4 q5 q6 q7 q8 q9 r1 r2
     (repeat (rename (∀ S:Sd,TC _ _ _ S->_)=>hX;clear hX))
     simp only[oneOf,Bk,Be];rw[<-hres];clear hres;simp only[jp2]at *;simp_all;done)
 rintro x ⟨hx,hru⟩;rw[<-hx]at hres;have hxs:=ql0 u p.rep.name;rw[<-hx]at hxs;have hor:(decide (p.rep.name=ByteArray.empty) || u.rep)=true:=by
  rcases hru with h|h
  ·rw[Eb h];rfl
  ·rw[h,El]
 rw[hor]at hres;clear q1 q2 hu hok hrep hxs hor hru hx;simp only[Bi]at hres;refine Cb fun K10 h10=>?_
 (refine v8 (id:=10) ?_;(repeat' first|refine Ca 36 ?_;refine z_p Dk ?_|refine Ca 5 ?_;(refine j3 5 ?_)|refine yy ?_|refine at_nil ?_;refine Cc Qt ?_))
 refine h10 _ ?_;refine jj2 (ι:=Int) (fun n=>⟨[(5,.ptr 5 0),(3,.ptr 3 0),(1,.d (.ref (jy4 p) 0)),(2,.d (.bool false)),(0,.d (dP p))],[(5,.box [.d (.int .i64 n),.d (.int .i64 n)]),(3,.box [.d (.bool x.rep),.d (.bool x.name),.d (.bool x.channel),.d (.bool x.spec),.d (.bool x.procs),.d (.int .i64 x.t0),.d (.int .i64 x.t1),.d (.int .i64 x.e0),.d (.int .i64 x.e1),.d (.int .i64 x.p0),.d (.int .i64 x.p1),.d (.int .i64 x.g0),.d (.int .i64 x.g1),.d (.int .u8 x.a),.d (.int .u8 x.b)])],glS mm⟩) (fun n=>n=if x.procs then (p.l.length:Int) else 0) ?_ ?_
 ·(repeat' first|refine Ca 38 ?_;refine yyp ?_;try refine Ce ?_ ?_<;>intro hb|refine Ca 45 ?_;refine z_p Dk ?_|refine yyp ?_|refine yy ?_|refine at_nil ?_;refine Cc Qt ?_|refine Cb fun K hK=>?_|refine Cf 14 ?_;(try dsimp only[List.append]);refine j0 [] qk9 ?_|apply_assumption -exfalso -symm)
  all_goals
   refine⟨_,?_,k8⟩;rw[hb]
   try rfl
 intro n hn;rw[<-hn]at hres
 as_aux_lemma=>
  (repeat' first|refine Ca 53 ?_;refine yyp ?_;try refine Ce ?_ ?_<;>intro hb|refine Ca 59 ?_;refine Cg (hc:=q3 x) ?_|refine Ca 61 ?_;refine yyp ?_;try refine Ce ?_ ?_<;>intro hb|refine Ca 72 ?_;refine yyp ?_;try refine Ce ?_ ?_<;>intro hb|refine Ca 83 ?_;refine yyp ?_;try refine Ce ?_ ?_<;>intro hb|refine Ca 88 ?_;refine Cg (hc:=q7 _ _) ?_|refine Ca 90 ?_;refine yyp ?_;try refine Ce ?_ ?_<;>intro hb|refine Ca 95 ?_;refine Cg (hc:=q8 _ _) ?_|refine Ca 97 ?_;refine yyp ?_;try refine Ce ?_ ?_<;>intro hb|refine Ca 101 ?_;refine Cg (hc:=q9 _ _) ?_|refine Ca 103 ?_;refine yyp ?_;try refine Ce ?_ ?_<;>intro hb|refine Ca 106 ?_;refine yyp ?_;try refine Ce ?_ ?_<;>intro hb|refine Ca 111 ?_;refine yyp ?_;try refine Ce ?_ ?_<;>intro hb|refine Ca 115 ?_;refine yyp ?_;try refine Ce ?_ ?_<;>intro hb|refine yyp ?_|refine yy ?_|refine yy2 ?_ ?_<;>intro hcmp|refine Ch 122 ?_;refine Ck (hc:=(ki6 _ _ _ _)) ?_|refine Ch 125 ?_;refine Ck (hc:=q4) ?_|refine Ch 124 ?_;refine Ck (hc:=(mc7 _ _ _ _)) ?_|refine Ch 126 ?_;refine Ck (hc:=q5) ?_|refine Ch 127 ?_;refine Ck (hc:=q6) ?_|refine Ch 132 ?_;refine Ck (hc:=r1) ?_|refine Ch 133 ?_;refine Ck (hc:=r2) ?_|refine at_nil ?_;refine Cc Qt ?_|refine Cb fun K hK=>?_|refine Cf 14 ?_;(try dsimp only[List.append]);refine j0 [12,41,48,54] (lin [0,8,5,13,16,22,24,28,36,44,33,41,51,52,56,60,68,80,65,73,85,88,78,94,96,100,104,112,124,109,117,129,122,134,138,140,144,148,156,153,161,167,168,172,176,184,181,189,195,196,200,204,209,213,219,220,224,228,233,236,240,245,250,252,256,260,265,268,272,276,284,281,290,292,296,300,304]) ?_|apply_assumption -exfalso -symm)
  all_goals clear q3 q4 q5 q6 q7 q8 q9 r1 r2
  all_goals as_aux_lemma=>first
   |((refine j1 (k7 ?_))
     (repeat (rename (∀ S:Sd,TC _ _ _ S->_)=>hX;clear hX))
     simp only[oneOf,Bk,Be];rw[<-hres];simp only[jp2]at *
     grind)
end
end Go.Proofs.YtklklgfpkpglgaaGreatDoor
