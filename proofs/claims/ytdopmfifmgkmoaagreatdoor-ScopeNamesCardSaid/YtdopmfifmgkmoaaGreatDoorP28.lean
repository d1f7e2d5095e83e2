/- Parts: O22, O23. -/
import Derived.Test.YtdopmfifmgkmoaaGreatDoorP27
set_option linter.all false
set_option maxRecDepth 100000
set_option maxHeartbeats 16000000
namespace Go.Proofs.YtdopmfifmgkmoaaGreatDoor
open Go.RowKit Go.Proofs.Tryz
section
def qo22_0:List Nat:=[0,1,4,5,6,7,8,9,16]
attribute [local irreducible] TR TC
theorem re9 (gl:List (Nat × List D))(u:Lx.Uses)(x:Gu)(b:Bool)(h:FnE prog gl 135 [.d (dGu (x)),.ptr 3 0] [(3,.box [.d (.bool u.rep),.d (.bool u.name),.d (.bool u.channel),.d (.bool u.spec),.d (.bool u.procs),.d (.int .i64 u.t0),.d (.int .i64 u.t1),.d (.int .i64 u.e0),.d (.int .i64 u.e1),.d (.int .i64 u.p0),.d (.int .i64 u.p1),.d (.int .i64 u.g0),.d (.int .i64 u.g1),.d (.int .u8 u.a),.d (.int .u8 u.b)])] (fun v H1=>v=.d (.bool b)/\H1=[(3,.box [.d (.bool u.rep),.d (.bool u.name),.d (.bool u.channel),.d (.bool u.spec),.d (.bool u.procs),.d (.int .i64 u.t0),.d (.int .i64 u.t1),.d (.int .i64 u.e0),.d (.int .i64 u.e1),.d (.int .i64 u.p0),.d (.int .i64 u.p1),.d (.int .i64 u.g0),.d (.int .i64 u.g1),.d (.int .u8 u.a),.d (.int .u8 u.b)])])):
 FnE prog gl 174 [.d (dGu (x)),.ptr 5 0] [(5,.box [.clo (.func 135) [] [.ptr 3 0]]),(3,.box [.d (.bool u.rep),.d (.bool u.name),.d (.bool u.channel),.d (.bool u.spec),.d (.bool u.procs),.d (.int .i64 u.t0),.d (.int .i64 u.t1),.d (.int .i64 u.e0),.d (.int .i64 u.e1),.d (.int .i64 u.p0),.d (.int .i64 u.p1),.d (.int .i64 u.g0),.d (.int .i64 u.g1),.d (.int .u8 u.a),.d (.int .u8 u.b)])] (fun v H1=>v=.d (.bool (!b))/\H1=[(5,.box [.clo (.func 135) [] [.ptr 3 0]]),(3,.box [.d (.bool u.rep),.d (.bool u.name),.d (.bool u.channel),.d (.bool u.spec),.d (.bool u.procs),.d (.int .i64 u.t0),.d (.int .i64 u.t1),.d (.int .i64 u.e0),.d (.int .i64 u.e1),.d (.int .i64 u.p0),.d (.int .i64 u.p1),.d (.int .i64 u.g0),.d (.int .i64 u.g1),.d (.int .u8 u.a),.d (.int .u8 u.b)])]):=by
 simp only[jg4]at h ⊢
 (refine j3 func174 ntmps174 results174 fun w M E b0=>?_)
 (repeat' first|refine tr_at 2 ?_;(refine k7 2 ?_)|refine tr_at 6 ?_;refine y_callE (hc:=h) ?_;try refine s_bu ?_ ?_<;>intro hb|refine yyp ?_;try refine s_bu ?_ ?_<;>intro hb|refine yy ?_|refine at_nil ?_;refine z_nil [0,1,2,3,4,5,6] ?_|refine tc_seq fun K hK=>?_|apply_assumption -exfalso -symm)
 all_goals (refine j0 (j7 ⟨?_,rfl⟩))
 all_goals simp only[oneOf, *,Bool.not_true,Bool.not_false]
theorem rf0 (gl:List (Nat × List D))(u:Lx.Uses)(q:Gu->Bool)(l:List Gu)(h:∀ (k:Nat) (hk:k<l.length),FnE prog gl 174 [.d (dGu (l[k])),.ptr 5 0] [(5,.box [.clo (.func 135) [] [.ptr 3 0]]),(3,.box [.d (.bool u.rep),.d (.bool u.name),.d (.bool u.channel),.d (.bool u.spec),.d (.bool u.procs),.d (.int .i64 u.t0),.d (.int .i64 u.t1),.d (.int .i64 u.e0),.d (.int .i64 u.e1),.d (.int .i64 u.p0),.d (.int .i64 u.p1),.d (.int .i64 u.g0),.d (.int .i64 u.g1),.d (.int .u8 u.a),.d (.int .u8 u.b)])] (fun v H1=>v=.d (.bool (q l[k]))/\H1=[(5,.box [.clo (.func 135) [] [.ptr 3 0]]),(3,.box [.d (.bool u.rep),.d (.bool u.name),.d (.bool u.channel),.d (.bool u.spec),.d (.bool u.procs),.d (.int .i64 u.t0),.d (.int .i64 u.t1),.d (.int .i64 u.e0),.d (.int .i64 u.e1),.d (.int .i64 u.p0),.d (.int .i64 u.p1),.d (.int .i64 u.g0),.d (.int .i64 u.g1),.d (.int .u8 u.a),.d (.int .u8 u.b)])])):
 FnE prog gl 199 [.d (.list 23 (l.map (fun x=>dGu (x)))),.clo (.func 174) [] [.ptr 5 0]] [(5,.box [.clo (.func 135) [] [.ptr 3 0]]),(3,.box [.d (.bool u.rep),.d (.bool u.name),.d (.bool u.channel),.d (.bool u.spec),.d (.bool u.procs),.d (.int .i64 u.t0),.d (.int .i64 u.t1),.d (.int .i64 u.e0),.d (.int .i64 u.e1),.d (.int .i64 u.p0),.d (.int .i64 u.p1),.d (.int .i64 u.g0),.d (.int .i64 u.g1),.d (.int .u8 u.a),.d (.int .u8 u.b)])] (fun v H1=>v=.d (.int .i64 (jd6 q l))/\H1=[(5,.box [.clo (.func 135) [] [.ptr 3 0]]),(3,.box [.d (.bool u.rep),.d (.bool u.name),.d (.bool u.channel),.d (.bool u.spec),.d (.bool u.procs),.d (.int .i64 u.t0),.d (.int .i64 u.t1),.d (.int .i64 u.e0),.d (.int .i64 u.e1),.d (.int .i64 u.p0),.d (.int .i64 u.p1),.d (.int .i64 u.g0),.d (.int .i64 u.g1),.d (.int .u8 u.a),.d (.int .u8 u.b)])]):=by
 simp only[jg4]at h ⊢
 (refine j3 func199 ntmps199 results199 fun w M E b0=>?_)
 refine r7 0 rfl fun hn=>?_
 simp only[List.length_map]at hn
 (repeat' first|refine yyp ?_;try refine s_bu ?_ ?_<;>intro hb|refine yy ?_|refine at_nil ?_;refine z_nil qo22_0 ?_|refine tc_seq fun K hK=>?_|apply_assumption -exfalso -symm)
 refine k9 [4,5,8,9,10,11,12,13,14,15,16,17,18] [] (fun k:Nat=>[(8,.d (.int .i64 k))]) (fun _=>[]) (fun k=>k<=l.length/\jd6 q l=if jd6 q (l.drop k)<0 then -1 else jd6 q (l.drop k)+k) (fun k=>l.length - k) 0 ⟨Nat.zero_le _,by have:=n8 q l;simp only[List.drop_zero];split<;>omega⟩ fun k ⟨hk,hi⟩=>?_
 dsimp only[List.cons_append,List.nil_append]
 have hlo:=n8 q (l.drop (k+1))
 rcases Nat.lt_or_ge k l.length with hk2|hk2
 ·have hone:=h k hk2
  (repeat' first|refine tr_at 16 ?_;refine y_callE (hc:=hone) ?_;try refine s_bu ?_ ?_<;>intro hb|refine yyp ?_;try refine s_bu ?_ ?_<;>intro hb|refine yy ?_|refine at_nil ?_;refine z_nil qo22_0 ?_|refine tc_seq fun K hK=>?_|apply_assumption -exfalso -symm)
  ·(refine j0 (j7 ⟨?_,rfl⟩))
   rw[hi,z8 _ _ _ hk2,if_pos hb]
   simp[oneOf]
  ·refine⟨k+1,⟨by omega,?_⟩,by omega,v7⟩
   rw[hi,z8 _ _ _ hk2,if_neg (show ¬q l[k]=true by rw[hb];exact Bool.false_ne_true)]
   split<;>split<;>(try split)<;>omega
 ·(repeat' first|refine yyp ?_;try refine s_bu ?_ ?_<;>intro hb|refine yy ?_|refine at_nil ?_;refine z_nil qo22_0 ?_|refine tc_seq fun K hK=>?_|apply_assumption -exfalso -symm)
  (refine j0 (j7 ⟨?_,rfl⟩))
  have:k=l.length:=by omega
  rw[hi,this,List.drop_length]
  simp[oneOf,jd6]
theorem rf1 (gl:List (Nat × List D))(u:Lx.Uses)(q:Gu->Bool)(l:List Gu)(h:∀ (k:Nat) (hk:k<l.length),FnE prog gl 174 [.d (dGu (l[k])),.ptr 5 0] [(5,.box [.clo (.func 135) [] [.ptr 3 0]]),(3,.box [.d (.bool u.rep),.d (.bool u.name),.d (.bool u.channel),.d (.bool u.spec),.d (.bool u.procs),.d (.int .i64 u.t0),.d (.int .i64 u.t1),.d (.int .i64 u.e0),.d (.int .i64 u.e1),.d (.int .i64 u.p0),.d (.int .i64 u.p1),.d (.int .i64 u.g0),.d (.int .i64 u.g1),.d (.int .u8 u.a),.d (.int .u8 u.b)])] (fun v H1=>v=.d (.bool (q l[k]))/\H1=[(5,.box [.clo (.func 135) [] [.ptr 3 0]]),(3,.box [.d (.bool u.rep),.d (.bool u.name),.d (.bool u.channel),.d (.bool u.spec),.d (.bool u.procs),.d (.int .i64 u.t0),.d (.int .i64 u.t1),.d (.int .i64 u.e0),.d (.int .i64 u.e1),.d (.int .i64 u.p0),.d (.int .i64 u.p1),.d (.int .i64 u.g0),.d (.int .i64 u.g1),.d (.int .u8 u.a),.d (.int .u8 u.b)])])):
 FnE prog gl 173 [.d (.list 23 (l.map (fun x=>dGu (x)))),.clo (.func 174) [] [.ptr 5 0]] [(5,.box [.clo (.func 135) [] [.ptr 3 0]]),(3,.box [.d (.bool u.rep),.d (.bool u.name),.d (.bool u.channel),.d (.bool u.spec),.d (.bool u.procs),.d (.int .i64 u.t0),.d (.int .i64 u.t1),.d (.int .i64 u.e0),.d (.int .i64 u.e1),.d (.int .i64 u.p0),.d (.int .i64 u.p1),.d (.int .i64 u.g0),.d (.int .i64 u.g1),.d (.int .u8 u.a),.d (.int .u8 u.b)])] (fun v H1=>v=.d (.bool (l.any q))/\H1=[(5,.box [.clo (.func 135) [] [.ptr 3 0]]),(3,.box [.d (.bool u.rep),.d (.bool u.name),.d (.bool u.channel),.d (.bool u.spec),.d (.bool u.procs),.d (.int .i64 u.t0),.d (.int .i64 u.t1),.d (.int .i64 u.e0),.d (.int .i64 u.e1),.d (.int .i64 u.p0),.d (.int .i64 u.p1),.d (.int .i64 u.g0),.d (.int .i64 u.g1),.d (.int .u8 u.a),.d (.int .u8 u.b)])]):=by
 have hix:=rf0 gl u q l h
 have hany:=je0 q l
 (refine j3 func173 ntmps173 results173 fun w M E b0=>?_)
 (repeat' first|refine tr_at 7 ?_;refine y_callE (hc:=hix) ?_|refine yyp ?_;try refine s_bu ?_ ?_<;>intro hb|refine yy ?_|refine yy2 ?_ ?_<;>intro hcmp|refine at_nil ?_;refine z_nil [0,1,4,5,6,7] ?_|refine tc_seq fun K hK=>?_|apply_assumption -exfalso -symm)
 all_goals (refine j0 (j7 ⟨?_,rfl⟩))
 all_goals simp only[oneOf,V.d.injEq,D.bool.injEq]
 all_goals first
  |exact(hany.1 (by omega)).symm
  |(symm;cases ha:l.any q with
   |false=>rfl
   |true=>exfalso;have:=hany.2 ha;omega)
theorem qs8 (gl:List (Nat × List D))(u:Lx.Uses)(p:Gu->Bool)(l:List Gu)(a b:Int)(h:∀ x∈l,FnE prog gl 135 [.d (dGu (x)),.ptr 3 0] [(3,.box [.d (.bool u.rep),.d (.bool u.name),.d (.bool u.channel),.d (.bool u.spec),.d (.bool u.procs),.d (.int .i64 u.t0),.d (.int .i64 u.t1),.d (.int .i64 u.e0),.d (.int .i64 u.e1),.d (.int .i64 u.p0),.d (.int .i64 u.p1),.d (.int .i64 u.g0),.d (.int .i64 u.g1),.d (.int .u8 u.a),.d (.int .u8 u.b)])] (fun v H1=>v=.d (.bool (p x))/\H1=[(3,.box [.d (.bool u.rep),.d (.bool u.name),.d (.bool u.channel),.d (.bool u.spec),.d (.bool u.procs),.d (.int .i64 u.t0),.d (.int .i64 u.t1),.d (.int .i64 u.e0),.d (.int .i64 u.e1),.d (.int .i64 u.p0),.d (.int .i64 u.p1),.d (.int .i64 u.g0),.d (.int .i64 u.g1),.d (.int .u8 u.a),.d (.int .u8 u.b)])])):
 FnE prog gl 138 [.d (.list 23 (l.map (fun x=>dGu (x)))),.d (.agg [.int .i64 a,.int .i64 b]),.clo (.func 135) [] [.ptr 3 0]] [(3,.box [.d (.bool u.rep),.d (.bool u.name),.d (.bool u.channel),.d (.bool u.spec),.d (.bool u.procs),.d (.int .i64 u.t0),.d (.int .i64 u.t1),.d (.int .i64 u.e0),.d (.int .i64 u.e1),.d (.int .i64 u.p0),.d (.int .i64 u.p1),.d (.int .i64 u.g0),.d (.int .i64 u.g1),.d (.int .u8 u.a),.d (.int .u8 u.b)])] (fun v H1=>v=.d (.bool (Lx.eachB l a b p))/\H1=[(3,.box [.d (.bool u.rep),.d (.bool u.name),.d (.bool u.channel),.d (.bool u.spec),.d (.bool u.procs),.d (.int .i64 u.t0),.d (.int .i64 u.t1),.d (.int .i64 u.e0),.d (.int .i64 u.e1),.d (.int .i64 u.p0),.d (.int .i64 u.p1),.d (.int .i64 u.g0),.d (.int .i64 u.g1),.d (.int .u8 u.a),.d (.int .u8 u.b)])]):=by
 have hcf:=rf1 gl u (fun x=>!p x) l fun k hk=>re9 gl u l[k] (p l[k]) (h _ (List.getElem_mem _))
 rw[jm3]at hcf
 (refine j3 func138 ntmps138 results138 fun w M E b0=>?_)
 (repeat' first|refine tr_at 4 ?_;(refine k7 4 ?_)|refine tr_at 5 ?_;(refine k7 5 ?_)|refine tr_at 14 ?_;refine y_callE (hc:=hcf) ?_;try refine s_bu ?_ ?_<;>intro hb|refine yyp ?_;try refine s_bu ?_ ?_<;>intro hb|refine yy ?_|refine at_call 137 ?_;refine y_call (hc:=(kd1 gl a b l.length)) ?_;try refine s_bu ?_ ?_<;>intro hb|refine at_nil ?_;refine z_nil [0,1,2,4,5,6,7,8] ?_|refine tc_seq fun K hK=>?_|apply_assumption -exfalso -symm)
 all_goals (refine j0 (j7 ⟨?_,rfl⟩))
 all_goals simp only[oneOf,Lx.eachB, *,Bool.true_and,Bool.false_and,Bool.not_not,Bool.not_true,Bool.not_false]
 all_goals (try (simp_all;done))
theorem mu6 (gl:List (Nat × List D))(n:Int):FnD prog gl 146 [.d (.int .i64 n)] (fun v=>v=.d (.bool (decide (0<=n) && decide (n<8)))):=by
 (refine j4 func146 ntmps146 results146 fun w M=>?_)
 (repeat' first|refine yyp ?_;try refine s_bu ?_ ?_<;>intro hb|refine yy ?_|refine yy2 ?_ ?_<;>intro hcmp|refine at_nil ?_;refine z_nil [0,2,3,4,5,6] ?_|refine tc_seq fun K hK=>?_|apply_assumption -exfalso -symm)
 all_goals
  (refine j0 (j6 ?_))
  simp only[oneOf, *,decide_true,decide_false,Bool.and_true,Bool.and_false,Bool.true_and,Bool.false_and]
theorem mu7 {mm:Int}(u:Lx.Uses)(g:Gu):FnE prog (glS mm) 135 [.d (dGu g),.ptr 3 0] [(3,.box [.d (.bool u.rep),.d (.bool u.name),.d (.bool u.channel),.d (.bool u.spec),.d (.bool u.procs),.d (.int .i64 u.t0),.d (.int .i64 u.t1),.d (.int .i64 u.e0),.d (.int .i64 u.e1),.d (.int .i64 u.p0),.d (.int .i64 u.p1),.d (.int .i64 u.g0),.d (.int .i64 u.g1),.d (.int .u8 u.a),.d (.int .u8 u.b)])] (fun v H1=>v=.d (.bool (decide (u.a<=g.kind) && decide (g.kind<=u.b) && Lx.guMay g))/\H1=[(3,.box [.d (.bool u.rep),.d (.bool u.name),.d (.bool u.channel),.d (.bool u.spec),.d (.bool u.procs),.d (.int .i64 u.t0),.d (.int .i64 u.t1),.d (.int .i64 u.e0),.d (.int .i64 u.e1),.d (.int .i64 u.p0),.d (.int .i64 u.p1),.d (.int .i64 u.g0),.d (.int .i64 u.g1),.d (.int .u8 u.a),.d (.int .u8 u.b)])]):=by
 have h:=qh8 (mm:=mm) g
 simp only[jg4]at h ⊢
 (refine j3 func135 ntmps135 results135 fun w M E b0=>?_)
 (repeat' first|refine tr_at 2 ?_;(refine k7 2 ?_)|refine tr_at 9 ?_;refine yyp ?_;try refine s_bu ?_ ?_<;>intro hb|refine tr_at 16 ?_;refine yyp ?_;try refine s_bu ?_ ?_<;>intro hb|refine yyp ?_|refine yy ?_|refine yy2 ?_ ?_<;>intro hcmp|refine at_call 136 ?_;refine y_call (hc:=h) ?_|refine at_nil ?_;refine z_nil [0,1,2,3,4,5,6] ?_|refine tc_seq fun K hK=>?_|apply_assumption -exfalso -symm)
 all_goals (refine j0 (j7 ⟨?_,rfl⟩))
 all_goals simp only[oneOf, *,ge_iff_le,decide_true,decide_false,Bool.true_and,Bool.false_and]
end
section
def qo23_0:List Nat:=[0,1,2,3,4,5,6,20,24,27,31,38]
variable {mm:Int}
instance spanEq:TEq prog 189 [1,1]:=⟨by kernel_rfl⟩
def jy5 (p:Pr):List D:=[.int .u8 p.kind,.str p.name,
    .int .u8 p.chan.kind,.int .u8 p.chan.op,.int .u8 p.chan.ty,.int .i32 p.chan.n,.str p.chan.s,.list 6 (p.chan.l.map dEx),
    .list 6 (p.targets.map dEx),.list 6 (p.exprs.map dEx),
    .str p.rep.name,.int .u8 p.rep.base.kind,.int .u8 p.rep.base.op,.int .u8 p.rep.base.ty,.int .i32 p.rep.base.n,.str p.rep.base.s,.list 6 (p.rep.base.l.map dEx),
    .int .u8 p.rep.count.kind,.int .u8 p.rep.count.op,.int .u8 p.rep.count.ty,.int .i32 p.rep.count.n,.str p.rep.count.s,.list 6 (p.rep.count.l.map dEx),
    .list 23 (p.guards.map dGu),.list 42 (p.l.map dPr),.list 1 (p.procs.map (.int .i64)),
    .int .u8 p.spec.kind,.int .u8 p.spec.type.kind,.int .i64 p.spec.type.dim,.int .u8 p.spec.type.item,.str p.spec.type.proto,.list 1 (p.spec.names.map .str),
    .int .u8 p.spec.e.kind,.int .u8 p.spec.e.op,.int .u8 p.spec.e.ty,.int .i32 p.spec.e.n,.str p.spec.e.s,.list 6 (p.spec.e.l.map dEx),
    .bool p.spec.proto.cases,.list 2 (p.spec.proto.l.map dVa),.list 6 (p.spec.formals.map dFo),.list 42 (p.spec.body.map dPr)]
theorem mu8 (u:Lx.Uses)(r:ByteArray):(Lx.usesRep u r).rep=u.rep/\(Lx.usesRep u r).name=u.name/\(Lx.usesRep u r).channel=u.channel/\(Lx.usesRep u r).spec=u.spec/\(Lx.usesRep u r).procs=u.procs:=by
 unfold Lx.usesRep
 split
 ·simp
 ·split<;>simp
attribute [local irreducible] TR TC
theorem qh9 (p:Pr):FnD prog (glS mm) 93 [.d (dPr p)] (fun v=>v=.d (.bool (Lx.plainB p))):=by
 have q1:=mu3 (mm:=mm) p.kind
 have q2:=ra5 (mm:=mm) p.rep
 have q3:=fun u=>qs8 (glS mm) u (fun g=>decide (u.a<=g.kind) && decide (g.kind<=u.b) && Lx.guMay g) p.guards u.g0 u.g1 fun g _=>mu7 (mm:=mm) u g
 have q4:=ji0 (mm:=mm) p.name
 have q5:=jj9 (mm:=mm) p.chan
 have q6:=jw5 (glS mm) p.chan
 have q7:=fun a b=>kv7 (glS mm) Lx.elemB p.targets a b fun x _=>FnE.ofD (jj9 (mm:=mm) x) (by(repeat (first|exact Pures.nil|apply Pures.cons (Pure.d _)|apply Pures.cons (Pure.nils _)));fail_if_success intros)
 have q8:=fun a b=>me8 (glS mm) Lx.exMay p.exprs a b fun x _=>FnE.ofD (ji1 (mm:=mm) x) (by(repeat (first|exact Pures.nil|apply Pures.cons (Pure.d _)|apply Pures.cons (Pure.nils _)));fail_if_success intros)
 have q9:=fun a b=>qg4 (glS mm) (fun n=>decide (0<=n) && decide (n<8)) p.procs a b fun x _=>FnE.ofD (mu6 (glS mm) x) (by(repeat (first|exact Pures.nil|apply Pures.cons (Pure.d _)|apply Pures.cons (Pure.nils _)));fail_if_success intros)
 have r1:=qs7 (mm:=mm) p.spec
 have r2:=rb4 (glS mm) p.spec sp0
 have hpl:Lx.plainB p=Lx.plainB p:=rfl
 generalize hres:Lx.plainB p=res at hpl ⊢
 clear hpl
 unfold Lx.plainB at hres
 obtain⟨u,ok,hu⟩:∃ u ok,Lx.usesOf p.kind=(u,ok):=⟨_,_,rfl⟩
 rw[hu]at q1 hres
 dsimp only at q1 hres
 simp only[r9]at q5 q6
 rw[rh9]at r2
 rw[x5]
 (refine j4 func93 ntmps93 results93 fun w M=>?_)
 refine tc_seq fun K0 h0=>?_
 (refine x8 (id:=0) ?_;(repeat' first|refine tr_at 1 ?_;(refine k7 1 ?_)|refine yyp ?_;try refine s_bu ?_ ?_<;>intro hb|refine at_nil ?_;refine z_nil qo23_0 ?_))
 refine h0 _ ?_
 refine jm1 (t:=1) (env':=[(2,.d (.bool false)),(0,.d (dP p))]) (H':=[]) rfl rfl (by repeat (first|exact .nil|apply Frz.cons (.d _))) rfl (by(repeat (first|exact Sub.nil|apply Sub.cons rfl));fail_if_success intros) (by(repeat (first|exact Sub.nil|apply Sub.cons rfl));fail_if_success intros) rfl rfl ?_
 refine tc_seq fun K1 h1=>?_
 (refine x8 (id:=1) ?_;(repeat' first|refine tr_at 3 ?_;(refine j1 3 ?_)|refine yyp ?_|refine yy ?_|refine at_call 133 ?_;refine y_call (hc:=q1) ?_|refine at_nil ?_;refine z_nil qo23_0 ?_))
 refine h1 _ ?_
 refine z7 (ι:=Unit) (fun _=>⟨[(3,.ptr 3 0),(1,.d (.ref (jy5 p) 0)),(2,.d (.bool false)),(0,.d (dP p))],[(3,.box [.d (.bool u.rep),.d (.bool u.name),.d (.bool u.channel),.d (.bool u.spec),.d (.bool u.procs),.d (.int .i64 u.t0),.d (.int .i64 u.t1),.d (.int .i64 u.e0),.d (.int .i64 u.e1),.d (.int .i64 u.p0),.d (.int .i64 u.p1),.d (.int .i64 u.g0),.d (.int .i64 u.g1),.d (.int .u8 u.a),.d (.int .u8 u.b)])],glS mm⟩) (fun _=>ok=true/\Lx.repMay p.rep=true) ?_ ?_
 ·(repeat' first|refine tr_at 15 ?_;refine yyp ?_;try refine s_bu ?_ ?_<;>intro hb|refine tr_at 20 ?_;refine yyp ?_;try refine s_bu ?_ ?_<;>intro hb|refine yyp ?_|refine yy ?_|refine at_call 134 ?_;refine y_call (hc:=q2) ?_|refine at_nil ?_;refine z_nil qo23_0 ?_|refine tc_seq fun K hK=>?_|refine j5 14 ?_;(try dsimp only[List.append]);refine j2 [] qo23_1 ?_|apply_assumption -exfalso -symm)
  all_goals first
   |(refine⟨(),?_,v7⟩
     clear q1 q2 q3 q4 q5 q6 q7 q8 q9 r1 r2 hres
     simp_all)
   |(refine j0 ?_
     dsimp only[Exit.thenD]
     refine j6 ?_
     (repeat (rename (∀ S:Sd,TC _ _ _ S->_)=>hX;clear hX))
     clear q1 q2 q3 q4 q5 q6 q7 q8 q9 r1 r2
     simp only[oneOf,V.d.injEq,D.bool.injEq]
     rw[<-hres]
     clear hres
     cases ok<;>simp_all)
 rintro _ ⟨hok,hrep⟩
 rw[hok,hrep]at hres
 refine z7 (ι:=Lx.Uses) (fun x=>⟨[(3,.ptr 3 0),(1,.d (.ref (jy5 p) 0)),(2,.d (.bool false)),(0,.d (dP p))],[(3,.box [.d (.bool x.rep),.d (.bool x.name),.d (.bool x.channel),.d (.bool x.spec),.d (.bool x.procs),.d (.int .i64 x.t0),.d (.int .i64 x.t1),.d (.int .i64 x.e0),.d (.int .i64 x.e1),.d (.int .i64 x.p0),.d (.int .i64 x.p1),.d (.int .i64 x.g0),.d (.int .i64 x.g1),.d (.int .u8 x.a),.d (.int .u8 x.b)])],glS mm⟩) (fun x=>x=Lx.usesRep u p.rep.name/\(p.rep.name=ByteArray.empty\/u.rep=true)) ?_ ?_
 ·(repeat' first|refine tr_at 27 ?_;refine yyp ?_;try refine s_bu ?_ ?_<;>intro hb|refine yyp ?_|refine yy ?_|refine yy2 ?_ ?_<;>intro hcmp|refine at_nil ?_;refine z_nil qo23_0 ?_|refine tc_seq fun K hK=>?_|refine j5 14 ?_;(try dsimp only[List.append]);refine j2 [] qo23_1 ?_|apply_assumption -exfalso -symm)
  all_goals first
   |(refine⟨{u with p0:=1,p1:=1},?_,v7⟩
     clear q1 q2 q3 q4 q5 q6 q7 q8 q9 r1 r2
     (repeat (rename (∀ S:Sd,TC _ _ _ S->_)=>hX;clear hX))
     clear hres
     unfold Lx.usesRep
     simp only[je6]at *
     simp_all;done)
   |(refine⟨{u with g0:=1,g1:=1},?_,v7⟩
     clear q1 q2 q3 q4 q5 q6 q7 q8 q9 r1 r2
     (repeat (rename (∀ S:Sd,TC _ _ _ S->_)=>hX;clear hX))
     clear hres
     unfold Lx.usesRep
     simp only[je6]at *
     simp_all;done)
   |(refine⟨u,?_,v7⟩
     clear q1 q2 q3 q4 q5 q6 q7 q8 q9 r1 r2
     (repeat (rename (∀ S:Sd,TC _ _ _ S->_)=>hX;clear hX))
     clear hres
     unfold Lx.usesRep
     simp only[je6]at *
     simp_all;done)
   |(refine j0 ?_
     dsimp only[Exit.thenD]
     refine j6 ?_
     clear q1 q2 q3 q4 q5 q6 q7 q8 q9 r1 r2
     (repeat (rename (∀ S:Sd,TC _ _ _ S->_)=>hX;clear hX))
     simp only[oneOf,V.d.injEq,D.bool.injEq]
     rw[<-hres]
     clear hres
     simp only[je6]at *
     simp_all;done)
 rintro x ⟨hx,hru⟩
 rw[<-hx]at hres
 have hxs:=mu8 u p.rep.name
 rw[<-hx]at hxs
 have hor:(decide (p.rep.name=ByteArray.empty) || u.rep)=true:=by
  rcases hru with h|h
  ·rw[decide_eq_true h];rfl
  ·rw[h,Bool.or_true]
 rw[hor]at hres
 clear q1 q2 hu hok hrep hxs hor hru hx
 simp only[Bool.true_and]at hres
 refine tc_seq fun K10 h10=>?_
 (refine x8 (id:=10) ?_;(repeat' first|refine tr_at 36 ?_;refine z_p w_buildn ?_|refine tr_at 5 ?_;(refine j1 5 ?_)|refine yy ?_|refine at_nil ?_;refine z_nil qo23_0 ?_))
 refine h10 _ ?_
 refine z7 (ι:=Int) (fun n=>⟨[(5,.ptr 5 0),(3,.ptr 3 0),(1,.d (.ref (jy5 p) 0)),(2,.d (.bool false)),(0,.d (dP p))],[(5,.box [.d (.int .i64 n),.d (.int .i64 n)]),(3,.box [.d (.bool x.rep),.d (.bool x.name),.d (.bool x.channel),.d (.bool x.spec),.d (.bool x.procs),.d (.int .i64 x.t0),.d (.int .i64 x.t1),.d (.int .i64 x.e0),.d (.int .i64 x.e1),.d (.int .i64 x.p0),.d (.int .i64 x.p1),.d (.int .i64 x.g0),.d (.int .i64 x.g1),.d (.int .u8 x.a),.d (.int .u8 x.b)])],glS mm⟩) (fun n=>n=if x.procs then (p.l.length:Int) else 0) ?_ ?_
 ·(repeat' first|refine tr_at 38 ?_;refine yyp ?_;try refine s_bu ?_ ?_<;>intro hb|refine tr_at 45 ?_;refine z_p w_buildn ?_|refine yyp ?_|refine yy ?_|refine at_nil ?_;refine z_nil qo23_0 ?_|refine tc_seq fun K hK=>?_|refine j5 14 ?_;(try dsimp only[List.append]);refine j2 [] qo23_1 ?_|apply_assumption -exfalso -symm)
  all_goals
   refine⟨_,?_,v7⟩
   rw[hb]
   try rfl
 intro n hn
 rw[<-hn]at hres
 as_aux_lemma=>
  (repeat' first|refine tr_at 53 ?_;refine yyp ?_;try refine s_bu ?_ ?_<;>intro hb|refine tr_at 59 ?_;refine y_callE (hc:=q3 x) ?_|refine tr_at 61 ?_;refine yyp ?_;try refine s_bu ?_ ?_<;>intro hb|refine tr_at 72 ?_;refine yyp ?_;try refine s_bu ?_ ?_<;>intro hb|refine tr_at 83 ?_;refine yyp ?_;try refine s_bu ?_ ?_<;>intro hb|refine tr_at 88 ?_;refine y_callE (hc:=q7 _ _) ?_|refine tr_at 90 ?_;refine yyp ?_;try refine s_bu ?_ ?_<;>intro hb|refine tr_at 95 ?_;refine y_callE (hc:=q8 _ _) ?_|refine tr_at 97 ?_;refine yyp ?_;try refine s_bu ?_ ?_<;>intro hb|refine tr_at 101 ?_;refine y_callE (hc:=q9 _ _) ?_|refine tr_at 103 ?_;refine yyp ?_;try refine s_bu ?_ ?_<;>intro hb|refine tr_at 106 ?_;refine yyp ?_;try refine s_bu ?_ ?_<;>intro hb|refine tr_at 111 ?_;refine yyp ?_;try refine s_bu ?_ ?_<;>intro hb|refine tr_at 115 ?_;refine yyp ?_;try refine s_bu ?_ ?_<;>intro hb|refine yyp ?_|refine yy ?_|refine yy2 ?_ ?_<;>intro hcmp|refine at_call 137 ?_;refine y_call (hc:=(kd1 _ _ _ _)) ?_|refine at_call 140 ?_;refine y_call (hc:=q4) ?_|refine at_call 139 ?_;refine y_call (hc:=(kv5 _ _ _ _)) ?_|refine at_call 141 ?_;refine y_call (hc:=q5) ?_|refine at_call 142 ?_;refine y_call (hc:=q6) ?_|refine at_call 147 ?_;refine y_call (hc:=r1) ?_|refine at_call 90 ?_;refine y_call (hc:=r2) ?_|refine at_nil ?_;refine z_nil qo23_0 ?_|refine tc_seq fun K hK=>?_|refine j5 14 ?_;(try dsimp only[List.append]);refine j2 [12,41,48,54] (lin [0,8,5,13,16,22,24,28,36,44,33,41,51,52,56,60,68,80,65,73,85,88,78,94,96,100,104,112,124,109,117,129,122,134,138,140,144,148,156,153,161,167,168,172,176,184,181,189,195,196,200,204,209,213,219,220,224,228,233,236,240,245,250,252,256,260,265,268,272,276,284,281,290,292,296,300,304]) ?_|apply_assumption -exfalso -symm)
  all_goals clear q3 q4 q5 q6 q7 q8 q9 r1 r2
  all_goals as_aux_lemma=>first
   |((refine j0 (j6 ?_))
     (repeat (rename (∀ S:Sd,TC _ _ _ S->_)=>hX;clear hX))
     simp only[oneOf,V.d.injEq,D.bool.injEq]
     rw[<-hres]
     simp only[je6]at *
     grind)
end
end Go.Proofs.YtdopmfifmgkmoaaGreatDoor
