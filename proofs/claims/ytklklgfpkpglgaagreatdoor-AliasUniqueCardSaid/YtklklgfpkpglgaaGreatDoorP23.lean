/- Parts: S26. -/
import Derived.Test.YtklklgfpkpglgaaGreatDoorP21
import Derived.Test.YtklklgfpkpglgaaGreatDoorP22
set_option linter.all false
set_option maxRecDepth 100000
set_option maxHeartbeats 16000000
namespace Go.Proofs.YtklklgfpkpglgaaGreatDoor
open Go.RowKit Go.Proofs.Tryz
section
def Lv:List Nat:=[1,2,4,5,7,17,22,23,24,25,30,112]
def qg4:List Nat:=[7,24,25,26,27,28,29,30,31,32,33,34,35,36,37,38]
def Na:List Nat:=[0,1,2,3,4,5,6,128]
variable {mm:Int}
def Sp.Vq (s:Sp)(b:List Pr):Sp:=.mk s.kind s.type s.names s.e s.proto s.formals b
def Pr.set2 (p:Pr)(g:List Gu)(l:List Pr):Pr:=.mk p.kind p.name p.chan p.targets p.exprs p.rep g l p.procs p.spec
attribute [local irreducible] TR TC
theorem qw3 (gl:List (Nat × List D))(k:Sc.Kind)(σ σ2:Sc.W)(s:Sp)(b:List Pr)
 (hE:FnE prog gl 58 [.d (.list 42 (s.body.map dPr)),.clo (.func 31) [.ptr 900 0] []] (HW k σ) (fun v H1=>v=.d (.list 42 (b.map dPr))/\H1=HW k σ2)):
 FnE prog gl 88 [.ptr 1003 0,.ptr 1002 0] ((1003,.box (sv s))::(1002,.box [.ptr 900 0])::HW k σ)
  (fun v H1=>v=.tup []/\H1=(1003,.box (sv (s.Vq b)))::(1002,.box [.ptr 900 0])::HW k σ2):=by
 cases k
 all_goals dsimp only[HW,ja0,z6]at hE ⊢
 all_goals (refine j2 func88 ntmps88 results88 fun w M E b0=>?_)
 all_goals (repeat' first|refine Ca 6 ?_;refine Cg (hc:=hE) ?_|refine yyp ?_;try refine Ce ?_ ?_<;>intro hb|refine yy ?_|refine at_nil ?_;refine Cc [0,1,2,3,4,5] ?_|refine Cb fun K hK=>?_|apply_assumption -exfalso -symm)
 all_goals exact g8 ⟨rfl,rfl⟩
theorem jb3 (gl:List (Nat × List D))(k:Sc.Kind)(σ σ1 σ2:Sc.W)(p:Pr)(g:List Gu)(l:List Pr)
 (hG:FnE prog gl 56 [.d (.list 23 (p.guards.map dGu)),.clo (.func 57) [.ptr 900 0] []] (HW k σ) (fun v H1=>v=.d (.list 23 (g.map dGu))/\H1=HW k σ1))
 (hE:FnE prog gl 58 [.d (.list 42 (p.l.map dPr)),.clo (.func 31) [.ptr 900 0] []] (HW k σ1) (fun v H1=>v=.d (.list 42 (l.map dPr))/\H1=HW k σ2)):
 FnE prog gl 55 [.ptr 1003 0,.ptr 1002 0] ((1003,.box (pv p))::(1002,.box [.ptr 900 0])::HW k σ)
  (fun v H1=>v=.tup []/\H1=(1003,.box (pv (p.set2 g l)))::(1002,.box [.ptr 900 0])::HW k σ2):=by
 cases k
 all_goals dsimp only[HW,ja0,z6]at hG hE ⊢
 all_goals (refine j2 func55 ntmps55 results55 fun w M E b0=>?_)
 all_goals (repeat' first|refine Ca 6 ?_;refine Cg (hc:=hG) ?_|refine Ca 12 ?_;refine Cg (hc:=hE) ?_|refine yyp ?_;try refine Ce ?_ ?_<;>intro hb|refine yy ?_|refine at_nil ?_;refine Cc [0,1,2,3,4,5] ?_|refine Cb fun K hK=>?_|apply_assumption -exfalso -symm)
 all_goals exact g8 ⟨rfl,rfl⟩
def kp7 (s:Sp)(j:Nat):List ByteArray:=(s.proto.l.take j).filterMap fun v=>if s.proto.cases then some v.tag else none
theorem kb9 (s:Sp)(j:Nat)(hj:j<s.proto.l.length):kp7 s (j+1)=kp7 s j++(if s.proto.cases then [s.proto.l[j].tag] else []):=by
 unfold kp7;rw[Ao hj,List.filterMap_append];congr 1;simp only[List.filterMap_cons,List.filterMap_nil];split<;>simp_all
theorem kj5 (s:Sp)(j:Nat)(hj:s.proto.l.length<=j):kp7 s j=Sc.Ni s:=by
 unfold kp7 Sc.Ni;rw[Am hj];cases s.proto.cases
 ·simp
 ·simp
theorem kj6 (s:Sp)(j:Nat):(kp7 s j).length<=j:=by
 unfold kp7;have h1:=List.length_filterMap_le (fun v:Va=>if s.proto.cases then some v.tag else none) (s.proto.l.take j);rw[Aj]at h1;omega
theorem qw4 (env:ByteArray->List Sc.Ent)(s:Sp):(s.kind=4->Sc.Dv env s=(true,Sc.Ni s))/\(s.kind≠4->Sc.Dv env s=(false,Sc.Ct env s.type)):=by
 unfold Sc.Dv;exact⟨fun h=>Ad h,fun h=>Ae h⟩
theorem qw5 (k:Sc.Kind)(σ:Sc.W)(s:Sp)(i:Int)(ht:σ.Wx)(hn:σ.Vn 1)(hl:s.proto.l.length<=1000000000):
 FnE prog (glS mm) 81 [.d (.int .i64 i),.ptr 1002 0,.ptr 1003 0] ((1002,.box [.ptr 900 0])::(1003,.box (sv s))::HW k σ)
  (fun v H1=>v=.d (Gd ⟨(Sc.Cu σ).1,(Sc.Dv σ.env s).1,(Sc.Dv σ.env s).2⟩)/\H1=(1002,.box [.ptr 900 0])::(1003,.box (sv s))::HW k (Sc.Cu σ).2):=by
 have hf:=jl0 (mm:=mm) k σ ht hn;have hc:=kq9 (glS mm) k (Sc.Cu σ).2 s.type;have ho:=qw4 σ.env s;rw[show(Sc.Cu σ).2.env=σ.env from rfl]at hc;generalize Sc.Cu σ=r at hf hc ⊢;generalize Sc.Ct σ.env s.type=ct at hc ho;by_cases hk:s.kind=4
 ·rw[ho.1 hk];clear ho;cases k
  all_goals dsimp only[HW,ja0,z6]at hf hc ⊢
  case free=>
   (refine j2 func81 ntmps81 results81 fun w M E b0=>?_)
   (repeat' first|refine Ca 4 ?_;(refine j3 4 ?_)|refine yyp ?_;try refine Ce ?_ ?_<;>intro hb|refine yy ?_|refine at_nil ?_;refine Cc Lv ?_|(apply Hy (x:=.region 1 _ _);focus ((refine Cf 1 ?_;refine j0 [1,5,8] q02 ?_);(repeat' (first|refine Ca 9 ?_;refine Cg (hc:=hf) ?_|refine Ca 5 ?_;(refine j3 5 ?_)|refine Ca 13 ?_;refine Cg (hc:=hc) ?_|refine Ca 14 ?_;refine z_p Dk ?_|refine yyp ?_|refine yy ?_|refine at_nil ?_;refine Cc Lv ?_|refine Hz ?_ ?_|refine jy8 ?_ ?_));(all_goals first|exact Wk.refl _ _|exact k8);done))|refine Cb fun K hK=>?_|refine Cf 1 ?_;refine j0 [1,5,8] q02 ?_|apply_assumption -exfalso -symm)
   all_goals try (exfalso;exact absurd hk (by assumption))
   refine jp5 5 36 2 (e:=9) (sz:=1) rfl rfl rfl ?_;refine j6 qg4 [5,36] (fun x:Nat × Nat=>[(24,.d (.int .i64 x.1))]) (fun x=>[(5,.box [.d (.str r.1),.d (.bool true),.own 36 x.2]),(36,.row 9 1 true ((kp7 s x.1).map .str) x.2)]) (fun x=>x.1<=s.proto.l.length) (fun x=>s.proto.l.length - x.1) (0,0) (Ai _) fun⟨j,kv⟩ hj=>?_;dsimp only[Ac,Af]at hj ⊢;have hlen:=kj6 s j;rcases Ah j s.proto.l.length with hj2|hj2
   ·have hts:=kb9 s j hj2
    (repeat' first|refine Ca 7 ?_;(refine j3 7 ?_)|refine Ca 35 ?_;(refine Dn 35 ?_)|refine yyp ?_;try refine Ce ?_ ?_<;>intro hb|refine yy ?_|(refine Da ?_;first|(refine Df (fun kv=>?_))|(refine z_append_suf (fun sx sp kv hsx hsp hsl=>?_)))|refine at_nil ?_;refine Cc Lv ?_|(apply Hy (x:=.region 1 _ _);focus ((refine Cf 1 ?_;refine j0 [8] q07 ?_);(repeat' (first|refine Ca 4 ?_;(refine j3 4 ?_)));(all_goals first|exact Wk.refl _ _|exact k8);done))|refine Cb fun K hK=>?_|refine Cf 1 ?_;refine j0 [8] q07 ?_|apply_assumption -exfalso -symm)
    all_goals
     refine⟨(j+1,kv),by dsimp only;omega,by dsimp only;omega,?_⟩;dsimp only;rw[hts];simp only[hb,if_true,if_false,Ba,Ea,As,Aq,Ax];exact k8
   rw[kj5 s j hj2]
   (repeat' first|refine yyp ?_;try refine Ce ?_ ?_<;>intro hb|refine yy ?_|refine at_nil ?_;refine Cc Lv ?_|(apply Hy (x:=.region 1 _ _);focus ((refine Cf 1 ?_;refine j0 [8] q07 ?_);(repeat' (first|refine Ca 4 ?_;(refine j3 4 ?_)));(all_goals first|exact Wk.refl _ _|exact k8);done))|refine Cb fun K hK=>?_|refine Cf 1 ?_;refine j0 [8] q07 ?_|apply_assumption -exfalso -symm)
   (refine j1 (j4 ⟨?_,rfl⟩))
   rfl
  case check ns=>
   (refine j2 func81 ntmps81 results81 fun w M E b0=>?_)
   (repeat' first|refine Ca 4 ?_;(refine j3 4 ?_)|refine yyp ?_;try refine Ce ?_ ?_<;>intro hb|refine yy ?_|refine at_nil ?_;refine Cc Lv ?_|(apply Hy (x:=.region 1 _ _);focus ((refine Cf 1 ?_;refine j0 [1,5,8] q02 ?_);(repeat' (first|refine Ca 9 ?_;refine Cg (hc:=hf) ?_|refine Ca 5 ?_;(refine j3 5 ?_)|refine Ca 13 ?_;refine Cg (hc:=hc) ?_|refine Ca 14 ?_;refine z_p Dk ?_|refine yyp ?_|refine yy ?_|refine at_nil ?_;refine Cc Lv ?_|refine Hz ?_ ?_|refine jy8 ?_ ?_));(all_goals first|exact Wk.refl _ _|exact k8);done))|refine Cb fun K hK=>?_|refine Cf 1 ?_;refine j0 [1,5,8] q02 ?_|apply_assumption -exfalso -symm)
   all_goals try (exfalso;exact absurd hk (by assumption))
   refine jp5 5 36 2 (e:=9) (sz:=1) rfl rfl rfl ?_;refine j6 qg4 [5,36] (fun x:Nat × Nat=>[(24,.d (.int .i64 x.1))]) (fun x=>[(5,.box [.d (.str r.1),.d (.bool true),.own 36 x.2]),(36,.row 9 1 true ((kp7 s x.1).map .str) x.2)]) (fun x=>x.1<=s.proto.l.length) (fun x=>s.proto.l.length - x.1) (0,0) (Ai _) fun⟨j,kv⟩ hj=>?_;dsimp only[Ac,Af]at hj ⊢;have hlen:=kj6 s j;rcases Ah j s.proto.l.length with hj2|hj2
   ·have hts:=kb9 s j hj2
    (repeat' first|refine Ca 7 ?_;(refine j3 7 ?_)|refine Ca 35 ?_;(refine Dn 35 ?_)|refine yyp ?_;try refine Ce ?_ ?_<;>intro hb|refine yy ?_|(refine Da ?_;first|(refine Df (fun kv=>?_))|(refine z_append_suf (fun sx sp kv hsx hsp hsl=>?_)))|refine at_nil ?_;refine Cc Lv ?_|(apply Hy (x:=.region 1 _ _);focus ((refine Cf 1 ?_;refine j0 [8] q07 ?_);(repeat' (first|refine Ca 4 ?_;(refine j3 4 ?_)));(all_goals first|exact Wk.refl _ _|exact k8);done))|refine Cb fun K hK=>?_|refine Cf 1 ?_;refine j0 [8] q07 ?_|apply_assumption -exfalso -symm)
    all_goals
     refine⟨(j+1,kv),by dsimp only;omega,by dsimp only;omega,?_⟩;dsimp only;rw[hts];simp only[hb,if_true,if_false,Ba,Ea,As,Aq,Ax];exact k8
   rw[kj5 s j hj2]
   (repeat' first|refine yyp ?_;try refine Ce ?_ ?_<;>intro hb|refine yy ?_|refine at_nil ?_;refine Cc Lv ?_|(apply Hy (x:=.region 1 _ _);focus ((refine Cf 1 ?_;refine j0 [8] q07 ?_);(repeat' (first|refine Ca 4 ?_;(refine j3 4 ?_)));(all_goals first|exact Wk.refl _ _|exact k8);done))|refine Cb fun K hK=>?_|refine Cf 1 ?_;refine j0 [8] q07 ?_|apply_assumption -exfalso -symm)
   (refine j1 (j4 ⟨?_,rfl⟩))
   rfl
  case none=>
   (refine j2 func81 ntmps81 results81 fun w M E b0=>?_)
   (repeat' first|refine Ca 4 ?_;(refine j3 4 ?_)|refine yyp ?_;try refine Ce ?_ ?_<;>intro hb|refine yy ?_|refine at_nil ?_;refine Cc Lv ?_|(apply Hy (x:=.region 1 _ _);focus ((refine Cf 1 ?_;refine j0 [1,5,8] q02 ?_);(repeat' (first|refine Ca 9 ?_;refine Cg (hc:=hf) ?_|refine Ca 5 ?_;(refine j3 5 ?_)|refine Ca 13 ?_;refine Cg (hc:=hc) ?_|refine Ca 14 ?_;refine z_p Dk ?_|refine yyp ?_|refine yy ?_|refine at_nil ?_;refine Cc Lv ?_|refine Hz ?_ ?_|refine jy8 ?_ ?_));(all_goals first|exact Wk.refl _ _|exact k8);done))|refine Cb fun K hK=>?_|refine Cf 1 ?_;refine j0 [1,5,8] q02 ?_|apply_assumption -exfalso -symm)
   all_goals try (exfalso;exact absurd hk (by assumption))
   refine jp5 5 36 2 (e:=9) (sz:=1) rfl rfl rfl ?_;refine j6 qg4 [5,36] (fun x:Nat × Nat=>[(24,.d (.int .i64 x.1))]) (fun x=>[(5,.box [.d (.str r.1),.d (.bool true),.own 36 x.2]),(36,.row 9 1 true ((kp7 s x.1).map .str) x.2)]) (fun x=>x.1<=s.proto.l.length) (fun x=>s.proto.l.length - x.1) (0,0) (Ai _) fun⟨j,kv⟩ hj=>?_;dsimp only[Ac,Af]at hj ⊢;have hlen:=kj6 s j;rcases Ah j s.proto.l.length with hj2|hj2
   ·have hts:=kb9 s j hj2
    (repeat' first|refine Ca 7 ?_;(refine j3 7 ?_)|refine Ca 35 ?_;(refine Dn 35 ?_)|refine yyp ?_;try refine Ce ?_ ?_<;>intro hb|refine yy ?_|(refine Da ?_;first|(refine Df (fun kv=>?_))|(refine z_append_suf (fun sx sp kv hsx hsp hsl=>?_)))|refine at_nil ?_;refine Cc Lv ?_|(apply Hy (x:=.region 1 _ _);focus ((refine Cf 1 ?_;refine j0 [8] q07 ?_);(repeat' (first|refine Ca 4 ?_;(refine j3 4 ?_)));(all_goals first|exact Wk.refl _ _|exact k8);done))|refine Cb fun K hK=>?_|refine Cf 1 ?_;refine j0 [8] q07 ?_|apply_assumption -exfalso -symm)
    all_goals
     refine⟨(j+1,kv),by dsimp only;omega,by dsimp only;omega,?_⟩;dsimp only;rw[hts];simp only[hb,if_true,if_false,Ba,Ea,As,Aq,Ax];exact k8
   rw[kj5 s j hj2]
   (repeat' first|refine yyp ?_;try refine Ce ?_ ?_<;>intro hb|refine yy ?_|refine at_nil ?_;refine Cc Lv ?_|(apply Hy (x:=.region 1 _ _);focus ((refine Cf 1 ?_;refine j0 [8] q07 ?_);(repeat' (first|refine Ca 4 ?_;(refine j3 4 ?_)));(all_goals first|exact Wk.refl _ _|exact k8);done))|refine Cb fun K hK=>?_|refine Cf 1 ?_;refine j0 [8] q07 ?_|apply_assumption -exfalso -symm)
   (refine j1 (j4 ⟨?_,rfl⟩))
   rfl
 ·rw[ho.2 hk];clear ho;cases k
  all_goals dsimp only[HW,ja0,z6]at hf hc ⊢
  all_goals (refine j2 func81 ntmps81 results81 fun w M E b0=>?_)
  all_goals (repeat' first|refine Ca 4 ?_;(refine j3 4 ?_)|refine yyp ?_;try refine Ce ?_ ?_<;>intro hb|refine yy ?_|refine at_nil ?_;refine Cc Lv ?_|(apply Hy (x:=.region 1 _ _);focus ((refine Cf 1 ?_;refine j0 [1,5,8] q02 ?_);(repeat' (first|refine Ca 9 ?_;refine Cg (hc:=hf) ?_|refine Ca 5 ?_;(refine j3 5 ?_)|refine Ca 13 ?_;refine Cg (hc:=hc) ?_|refine Ca 14 ?_;refine z_p Dk ?_|refine yyp ?_|refine yy ?_|refine at_nil ?_;refine Cc Lv ?_|refine Hz ?_ ?_|refine jy8 ?_ ?_));(all_goals first|exact Wk.refl _ _|exact k8);done))|refine Cb fun K hK=>?_|refine Cf 1 ?_;refine j0 [1,5,8] q02 ?_|apply_assumption -exfalso -symm)
  all_goals first
   |(exfalso;exact hk (by assumption))
   |((refine j1 (j4 ⟨?_,rfl⟩))
     rfl)
theorem qw6 (k:Sc.Kind)(σ:Sc.W)(s:Sp)(i:Nat)(hi:i<s.formals.length)(ht:σ.Wx)(hn:σ.Vn 1):
 FnE prog (glS mm) 83 [.d (.int .i64 i),.ptr 1002 0,.ptr 1003 0] ((1002,.box [.ptr 900 0])::(1003,.box (sv s))::HW k σ)
  (fun v H1=>v=.d (Gd ⟨(Sc.Cu σ).1,false,Sc.Ct σ.env s.formals[i].type⟩)/\H1=(1002,.box [.ptr 900 0])::(1003,.box (sv s))::HW k (Sc.Cu σ).2):=by
 have hf:=jl0 (mm:=mm) k σ ht hn;have hc:=kq9 (glS mm) k (Sc.Cu σ).2 s.formals[i].type;rw[show(Sc.Cu σ).2.env=σ.env from rfl]at hc;generalize Sc.Cu σ=r at hf hc ⊢;generalize Sc.Ct σ.env s.formals[i].type=ct at hc ⊢;cases k
 all_goals dsimp only[HW,ja0,z6]at hf hc ⊢
 all_goals (refine j2 func83 ntmps83 results83 fun w M E b0=>?_)
 all_goals (repeat' first|refine Ca 4 ?_;(refine j3 4 ?_)|refine yy ?_|refine at_nil ?_;refine Cc [0,1,2,4,5,6,112] ?_|(apply Hy (x:=.region 1 _ _);focus ((refine Cf 1 ?_;refine j0 [1,9,11] q04 ?_);(repeat' (first|refine Ca 6 ?_;refine Cg (hc:=hf) ?_|refine Ca 14 ?_;refine Cg (hc:=hc) ?_|refine Ca 15 ?_;refine z_p Dk ?_|refine yyp ?_|refine yy ?_|refine at_nil ?_;refine Cc [0,1,2,4,5,6,112] ?_|refine Hz ?_ ?_|refine jy8 ?_ ?_));(all_goals first|exact Wk.refl _ _|exact k8);done))|refine Cb fun K hK=>?_|refine Cf 1 ?_;refine j0 [1,9,11] q04 ?_|apply_assumption -exfalso -symm)
 all_goals (refine j1 (j4 ⟨?_,rfl⟩))
 all_goals rfl
theorem qw7 (gl:List (Nat × List D))(k:Sc.Kind)(σ:Sc.W)(f:Fo)(ns:List ByteArray)(j:Nat)(hj:j<ns.length)(hl:ns.length<=1000000000)(hr:σ.room 1):
 FnE prog gl 87 [.d (dFo f),.ptr 1012 0,.ptr 1011 0,.ptr 1002 0] ((1012,.box [.d (.int .i64 ((j:Int) - 1))])::(1011,.box [.d (.list 1 (ns.map .str))])::(1002,.box [.ptr 900 0])::HW k σ)
  (fun v H1=>v=.d (dFo {(Sc.Cw σ f).1 with name:=ns[j]})/\H1=(1012,.box [.d (.int .i64 j)])::(1011,.box [.d (.list 1 (ns.map .str))])::(1002,.box [.ptr 900 0])::HW k (Sc.Cw σ f).2):=by
 have ht:=mr7 gl k σ f.type hr;unfold Sc.Cw;dsimp only;generalize Sc.Dm σ f.type=r at ht ⊢;cases k
 all_goals dsimp only[HW,ja0,z6]at ht ⊢
 case free=>
  (refine j2 func87 ntmps87 results87 fun w M E b0=>?_)
  refine Cb fun K0 h0=>?_
  (refine v8 (id:=0) ?_;(repeat' first|refine Ca 4 ?_;(refine Cq 4 ?_)|refine Ca 5 ?_;(refine j3 5 ?_)|refine at_nil ?_;refine Cc Na ?_))
  refine h0 _ ?_;refine Cb fun K1 h1=>?_
  (refine v8 (id:=1) ?_;(repeat' first|refine yyp ?_;try refine Ce ?_ ?_<;>intro hb|refine yy ?_|refine at_nil ?_;refine Cc Na ?_))
  rw[show(j:Int) - 1+1=j by omega];refine h1 _ ?_
  (repeat' first|refine yyp ?_;try refine Ce ?_ ?_<;>intro hb|refine yy ?_|refine at_nil ?_;refine Cc Na ?_|(apply Hy (x:=.region 2 _ _);focus ((refine Cf 2 ?_;refine j0 [7,9,11] q05 ?_);(repeat' (first|refine Ca 15 ?_;refine Cg (hc:=ht) ?_|refine yyp ?_|refine yy ?_|refine at_nil ?_;refine Cc Na ?_|refine Hz ?_ ?_|refine jy8 ?_ ?_));(all_goals first|exact Wk.refl _ _|exact k8);done))|refine Cb fun K hK=>?_|refine Cf 2 ?_;refine j0 [7,9,11] q05 ?_|apply_assumption -exfalso -symm)
  (refine j1 (j4 ⟨?_,rfl⟩))
  rfl
 case check ns=>
  (refine j2 func87 ntmps87 results87 fun w M E b0=>?_)
  refine Cb fun K0 h0=>?_
  (refine v8 (id:=0) ?_;(repeat' first|refine Ca 4 ?_;(refine Cq 4 ?_)|refine Ca 5 ?_;(refine j3 5 ?_)|refine at_nil ?_;refine Cc Na ?_))
  refine h0 _ ?_;refine Cb fun K1 h1=>?_
  (refine v8 (id:=1) ?_;(repeat' first|refine yyp ?_;try refine Ce ?_ ?_<;>intro hb|refine yy ?_|refine at_nil ?_;refine Cc Na ?_))
  rw[show(j:Int) - 1+1=j by omega];refine h1 _ ?_
  (repeat' first|refine yyp ?_;try refine Ce ?_ ?_<;>intro hb|refine yy ?_|refine at_nil ?_;refine Cc Na ?_|(apply Hy (x:=.region 2 _ _);focus ((refine Cf 2 ?_;refine j0 [7,9,11] q05 ?_);(repeat' (first|refine Ca 15 ?_;refine Cg (hc:=ht) ?_|refine yyp ?_|refine yy ?_|refine at_nil ?_;refine Cc Na ?_|refine Hz ?_ ?_|refine jy8 ?_ ?_));(all_goals first|exact Wk.refl _ _|exact k8);done))|refine Cb fun K hK=>?_|refine Cf 2 ?_;refine j0 [7,9,11] q05 ?_|apply_assumption -exfalso -symm)
  (refine j1 (j4 ⟨?_,rfl⟩))
  rfl
 case none=>
  (refine j2 func87 ntmps87 results87 fun w M E b0=>?_)
  refine Cb fun K0 h0=>?_
  (refine v8 (id:=0) ?_;(repeat' first|refine Ca 4 ?_;(refine Cq 4 ?_)|refine Ca 5 ?_;(refine j3 5 ?_)|refine at_nil ?_;refine Cc Na ?_))
  refine h0 _ ?_;refine Cb fun K1 h1=>?_
  (refine v8 (id:=1) ?_;(repeat' first|refine yyp ?_;try refine Ce ?_ ?_<;>intro hb|refine yy ?_|refine at_nil ?_;refine Cc Na ?_))
  rw[show(j:Int) - 1+1=j by omega];refine h1 _ ?_
  (repeat' first|refine yyp ?_;try refine Ce ?_ ?_<;>intro hb|refine yy ?_|refine at_nil ?_;refine Cc Na ?_|(apply Hy (x:=.region 2 _ _);focus ((refine Cf 2 ?_;refine j0 [7,9,11] q05 ?_);(repeat' (first|refine Ca 15 ?_;refine Cg (hc:=ht) ?_|refine yyp ?_|refine yy ?_|refine at_nil ?_;refine Cc Na ?_|refine Hz ?_ ?_|refine jy8 ?_ ?_));(all_goals first|exact Wk.refl _ _|exact k8);done))|refine Cb fun K hK=>?_|refine Cf 2 ?_;refine j0 [7,9,11] q05 ?_|apply_assumption -exfalso -symm)
  (refine j1 (j4 ⟨?_,rfl⟩))
  rfl
end
end Go.Proofs.YtklklgfpkpglgaaGreatDoor
