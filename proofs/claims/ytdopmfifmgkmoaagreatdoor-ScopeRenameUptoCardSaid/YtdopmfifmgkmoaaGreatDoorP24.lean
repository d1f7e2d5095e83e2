/- Parts: S26. -/
import Derived.Test.YtdopmfifmgkmoaaGreatDoorP22
import Derived.Test.YtdopmfifmgkmoaaGreatDoorP23
set_option linter.all false
set_option maxRecDepth 100000
set_option maxHeartbeats 16000000
namespace Go.Proofs.YtdopmfifmgkmoaaGreatDoor
open Go.RowKit Go.Proofs.Tryz
section
def Mj:List Nat:=[1,2,4,5,7,17,22,23,24,25,30,120]
def qb6:List Nat:=[7,24,25,26,27,28,29,30,31,32,33,34,35,36,37,38]
def Nh:List Nat:=[0,1,2,3,4,5,6,98]
variable {mm:Int}
def Sp.Ww (s:Sp)(b:List Pr):Sp:=.mk s.kind s.type s.names s.e s.proto s.formals b
def Pr.set2 (p:Pr)(g:List Gu)(l:List Pr):Pr:=.mk p.kind p.name p.chan p.targets p.exprs p.rep g l p.procs p.spec
attribute [local irreducible] TR TC
theorem qp6 (gl:List (Nat × List D))(k:Sc.Kind)(σ σ2:Sc.W)(s:Sp)(b:List Pr)
 (hE:FnE prog gl 68 [.d (.list 42 (s.body.map dPr)),.clo (.func 33) [.ptr 900 0] []] (HW k σ) (fun v H1=>v=.d (.list 42 (b.map dPr))/\H1=HW k σ2)):
 FnE prog gl 104 [.ptr 1003 0,.ptr 1002 0] ((1003,.box (sv s))::(1002,.box [.ptr 900 0])::HW k σ)
  (fun v H1=>v=.tup []/\H1=(1003,.box (sv (s.Ww b)))::(1002,.box [.ptr 900 0])::HW k σ2):=by
 cases k
 all_goals dsimp only[HW,ja4,n6]at hE ⊢
 all_goals (refine j4 func104 ntmps104 results104 fun w M E b0=>?_)
 all_goals (repeat' first|refine Ca 6 ?_;refine Ch (hc:=hE) ?_|refine yyp ?_;try refine Cc ?_ ?_<;>intro hb|refine yy ?_|refine at_nil ?_;refine Ce [0,1,2,3,4,5] ?_|refine Cb fun K hK=>?_|apply_assumption -exfalso -symm)
 all_goals exact je0 ⟨rfl,rfl⟩
theorem jb7 (gl:List (Nat × List D))(k:Sc.Kind)(σ σ1 σ2:Sc.W)(p:Pr)(g:List Gu)(l:List Pr)
 (hG:FnE prog gl 66 [.d (.list 23 (p.guards.map dGu)),.clo (.func 67) [.ptr 900 0] []] (HW k σ) (fun v H1=>v=.d (.list 23 (g.map dGu))/\H1=HW k σ1))
 (hE:FnE prog gl 68 [.d (.list 42 (p.l.map dPr)),.clo (.func 33) [.ptr 900 0] []] (HW k σ1) (fun v H1=>v=.d (.list 42 (l.map dPr))/\H1=HW k σ2)):
 FnE prog gl 65 [.ptr 1003 0,.ptr 1002 0] ((1003,.box (pv p))::(1002,.box [.ptr 900 0])::HW k σ)
  (fun v H1=>v=.tup []/\H1=(1003,.box (pv (p.set2 g l)))::(1002,.box [.ptr 900 0])::HW k σ2):=by
 cases k
 all_goals dsimp only[HW,ja4,n6]at hG hE ⊢
 all_goals (refine j4 func65 ntmps65 results65 fun w M E b0=>?_)
 all_goals (repeat' first|refine Ca 6 ?_;refine Ch (hc:=hG) ?_|refine Ca 12 ?_;refine Ch (hc:=hE) ?_|refine yyp ?_;try refine Cc ?_ ?_<;>intro hb|refine yy ?_|refine at_nil ?_;refine Ce [0,1,2,3,4,5] ?_|refine Cb fun K hK=>?_|apply_assumption -exfalso -symm)
 all_goals exact je0 ⟨rfl,rfl⟩
def kl2 (s:Sp)(j:Nat):List ByteArray:=(s.proto.l.take j).filterMap fun v=>if s.proto.cases then some v.tag else none
theorem jy4 (s:Sp)(j:Nat)(hj:j<s.proto.l.length):kl2 s (j+1)=kl2 s j++(if s.proto.cases then [s.proto.l[j].tag] else []):=by
 unfold kl2;rw[Ba hj,List.filterMap_append];congr 1;simp only[List.filterMap_cons,List.filterMap_nil];split<;>simp_all
theorem kg1 (s:Sp)(j:Nat)(hj:s.proto.l.length<=j):kl2 s j=Sc.Ky s:=by
 unfold kl2 Sc.Ky;rw[Ao hj];cases s.proto.cases
 ·simp
 ·simp
theorem kg2 (s:Sp)(j:Nat):(kl2 s j).length<=j:=by
 unfold kl2;have h1:=List.length_filterMap_le (fun v:Va=>if s.proto.cases then some v.tag else none) (s.proto.l.take j);rw[Aj]at h1;omega
theorem qp7 (env:ByteArray->List Sc.Ent)(s:Sp):(s.kind=4->Sc.Dy env s=(true,Sc.Ky s))/\(s.kind≠4->Sc.Dy env s=(false,Sc.Cz env s.type)):=by
 unfold Sc.Dy;exact⟨fun h=>Ae h,fun h=>Af h⟩
theorem qp8 (k:Sc.Kind)(σ:Sc.W)(s:Sp)(i:Int)(ht:σ.Xz)(hn:σ.Ud 1)(hl:s.proto.l.length<=1000000000):
 FnE prog (glS mm) 97 [.d (.int .i64 i),.ptr 1002 0,.ptr 1003 0] ((1002,.box [.ptr 900 0])::(1003,.box (sv s))::HW k σ)
  (fun v H1=>v=.d (Ga ⟨(Sc.Ct σ).1,(Sc.Dy σ.env s).1,(Sc.Dy σ.env s).2⟩)/\H1=(1002,.box [.ptr 900 0])::(1003,.box (sv s))::HW k (Sc.Ct σ).2):=by
 have hf:=jj2 (mm:=mm) k σ ht hn;have hc:=kn6 (glS mm) k (Sc.Ct σ).2 s.type;have ho:=qp7 σ.env s;rw[show(Sc.Ct σ).2.env=σ.env from rfl]at hc;generalize Sc.Ct σ=r at hf hc ⊢;generalize Sc.Cz σ.env s.type=ct at hc ho;by_cases hk:s.kind=4
 ·rw[ho.1 hk];clear ho;cases k
  all_goals dsimp only[HW,ja4,n6]at hf hc ⊢
  case free=>
   (refine j4 func97 ntmps97 results97 fun w M E b0=>?_)
   (repeat' first|refine Ca 4 ?_;(refine Cj 4 ?_)|refine yyp ?_;try refine Cc ?_ ?_<;>intro hb|refine yy ?_|refine at_nil ?_;refine Ce Mj ?_|(apply Dp (x:=.region 1 _ _);focus ((refine Ck 1 ?_;refine j1 [1,5,8] (Cm [12,1] (.or (Cm [7,9,17] (.mid 7 (lin [23,24,35]) 5 (lin [24,30,35]))) (.or (Cm [10] (.or (Cm [7,17] (.mid 7 (lin [23,24,35]) 5 (lin [24,30,35]))) (.or (Cm [18] (.mid 7 (lin [7,23,24,35]) 1 (.mid 7 (lin [23,24,35]) 5 (lin [24,30,35])))) (Cm [30] (.mid 4 (lin [7,23,24,35]) 1 (lin [17,23,24,35])))))) (.or (Cm [18] (.or (Cm [7,9] (.mid 7 (lin [23,24,35]) 5 (lin [24,30,35]))) (.or (Cm [10] (.mid 7 (lin [7,23,24,35]) 1 (.mid 7 (lin [23,24,35]) 5 (lin [24,30,35])))) (Cm [30] (.mid 2 (lin [7,23,24,35]) 1 (lin [9,23,24,35])))))) (Cm [30] (.or (lin [7,9,17,23,24,35]) (.or (Cm [10] (.mid 4 (lin [7,23,24,35]) 1 (lin [17,23,24,35]))) (Cm [18] (.mid 2 (lin [7,23,24,35]) 1 (lin [9,23,24,35])))))))))) ?_);(repeat' (first|refine Ca 9 ?_;refine Ch (hc:=hf) ?_|refine Ca 5 ?_;(refine Cj 5 ?_)|refine Ca 13 ?_;refine Ch (hc:=hc) ?_|refine Ca 14 ?_;refine z_p Cr ?_|refine yyp ?_|refine yy ?_|refine at_nil ?_;refine Ce Mj ?_|refine n9 ?_ ?_|refine jo7 ?_ ?_));(all_goals first|exact Wk.refl _ _|exact v6);done))|refine Cb fun K hK=>?_|refine Ck 1 ?_;refine j1 [1,5,8] (Cm [12,1] (.or (Cm [7,9,17] (.mid 7 (lin [23,24,35]) 5 (lin [24,30,35]))) (.or (Cm [10] (.or (Cm [7,17] (.mid 7 (lin [23,24,35]) 5 (lin [24,30,35]))) (.or (Cm [18] (.mid 7 (lin [7,23,24,35]) 1 (.mid 7 (lin [23,24,35]) 5 (lin [24,30,35])))) (Cm [30] (.mid 4 (lin [7,23,24,35]) 1 (lin [17,23,24,35])))))) (.or (Cm [18] (.or (Cm [7,9] (.mid 7 (lin [23,24,35]) 5 (lin [24,30,35]))) (.or (Cm [10] (.mid 7 (lin [7,23,24,35]) 1 (.mid 7 (lin [23,24,35]) 5 (lin [24,30,35])))) (Cm [30] (.mid 2 (lin [7,23,24,35]) 1 (lin [9,23,24,35])))))) (Cm [30] (.or (lin [7,9,17,23,24,35]) (.or (Cm [10] (.mid 4 (lin [7,23,24,35]) 1 (lin [17,23,24,35]))) (Cm [18] (.mid 2 (lin [7,23,24,35]) 1 (lin [9,23,24,35])))))))))) ?_|apply_assumption -exfalso -symm)
   all_goals try (exfalso;exact absurd hk (by assumption))
   refine ji5 5 36 2 (e:=9) (sz:=1) rfl rfl rfl ?_;refine j8 qb6 [5,36] (fun x:Nat × Nat=>[(24,.d (.int .i64 x.1))]) (fun x=>[(5,.box [.d (.str r.1),.d (.bool true),.own 36 x.2]),(36,.row 9 1 true ((kl2 s x.1).map .str) x.2)]) (fun x=>x.1<=s.proto.l.length) (fun x=>s.proto.l.length - x.1) (0,0) (Ak _) fun⟨j,kv⟩ hj=>?_;dsimp only[Ac,Ad]at hj ⊢;have hlen:=kg2 s j;rcases Ah j s.proto.l.length with hj2|hj2
   ·have hts:=jy4 s j hj2
    (repeat' first|refine Ca 7 ?_;(refine Cj 7 ?_)|refine Ca 35 ?_;(refine Dh 35 ?_)|refine yyp ?_;try refine Cc ?_ ?_<;>intro hb|refine yy ?_|(refine Cq ?_;first|(refine Cs (fun kv=>?_))|(refine z_append_suf (fun sx sp kv hsx hsp hsl=>?_)))|refine at_nil ?_;refine Ce Mj ?_|(apply Dp (x:=.region 1 _ _);focus ((refine Ck 1 ?_;refine j1 [8] (Cm [12,1,9,17] (.two 1 (.two 5 (lin [24,30,35]) 7 (lin [22,24,35])) 7 (lin [6,22,24,35]))) ?_);(repeat' (first|refine Ca 4 ?_;(refine Cj 4 ?_)));(all_goals first|exact Wk.refl _ _|exact v6);done))|refine Cb fun K hK=>?_|refine Ck 1 ?_;refine j1 [8] (Cm [12,1,9,17] (.two 1 (.two 5 (lin [24,30,35]) 7 (lin [22,24,35])) 7 (lin [6,22,24,35]))) ?_|apply_assumption -exfalso -symm)
    all_goals
     refine⟨(j+1,kv),by dsimp only;omega,by dsimp only;omega,?_⟩;dsimp only;rw[hts];simp only[hb,if_true,if_false,Ay,Bp,Ap,Am,Aw];exact v6
   rw[kg1 s j hj2]
   (repeat' first|refine yyp ?_;try refine Cc ?_ ?_<;>intro hb|refine yy ?_|refine at_nil ?_;refine Ce Mj ?_|(apply Dp (x:=.region 1 _ _);focus ((refine Ck 1 ?_;refine j1 [8] (Cm [12,1,9,17] (.two 1 (.two 5 (lin [24,30,35]) 7 (lin [22,24,35])) 7 (lin [6,22,24,35]))) ?_);(repeat' (first|refine Ca 4 ?_;(refine Cj 4 ?_)));(all_goals first|exact Wk.refl _ _|exact v6);done))|refine Cb fun K hK=>?_|refine Ck 1 ?_;refine j1 [8] (Cm [12,1,9,17] (.two 1 (.two 5 (lin [24,30,35]) 7 (lin [22,24,35])) 7 (lin [6,22,24,35]))) ?_|apply_assumption -exfalso -symm)
   (refine j0 (j7 ⟨?_,rfl⟩))
   rfl
  case check ns=>
   (refine j4 func97 ntmps97 results97 fun w M E b0=>?_)
   (repeat' first|refine Ca 4 ?_;(refine Cj 4 ?_)|refine yyp ?_;try refine Cc ?_ ?_<;>intro hb|refine yy ?_|refine at_nil ?_;refine Ce Mj ?_|(apply Dp (x:=.region 1 _ _);focus ((refine Ck 1 ?_;refine j1 [1,5,8] (Cm [12,1] (.or (Cm [7,9,17] (.mid 7 (lin [23,24,35]) 5 (lin [24,30,35]))) (.or (Cm [10] (.or (Cm [7,17] (.mid 7 (lin [23,24,35]) 5 (lin [24,30,35]))) (.or (Cm [18] (.mid 7 (lin [7,23,24,35]) 1 (.mid 7 (lin [23,24,35]) 5 (lin [24,30,35])))) (Cm [30] (.mid 4 (lin [7,23,24,35]) 1 (lin [17,23,24,35])))))) (.or (Cm [18] (.or (Cm [7,9] (.mid 7 (lin [23,24,35]) 5 (lin [24,30,35]))) (.or (Cm [10] (.mid 7 (lin [7,23,24,35]) 1 (.mid 7 (lin [23,24,35]) 5 (lin [24,30,35])))) (Cm [30] (.mid 2 (lin [7,23,24,35]) 1 (lin [9,23,24,35])))))) (Cm [30] (.or (lin [7,9,17,23,24,35]) (.or (Cm [10] (.mid 4 (lin [7,23,24,35]) 1 (lin [17,23,24,35]))) (Cm [18] (.mid 2 (lin [7,23,24,35]) 1 (lin [9,23,24,35])))))))))) ?_);(repeat' (first|refine Ca 9 ?_;refine Ch (hc:=hf) ?_|refine Ca 5 ?_;(refine Cj 5 ?_)|refine Ca 13 ?_;refine Ch (hc:=hc) ?_|refine Ca 14 ?_;refine z_p Cr ?_|refine yyp ?_|refine yy ?_|refine at_nil ?_;refine Ce Mj ?_|refine n9 ?_ ?_|refine jo7 ?_ ?_));(all_goals first|exact Wk.refl _ _|exact v6);done))|refine Cb fun K hK=>?_|refine Ck 1 ?_;refine j1 [1,5,8] (Cm [12,1] (.or (Cm [7,9,17] (.mid 7 (lin [23,24,35]) 5 (lin [24,30,35]))) (.or (Cm [10] (.or (Cm [7,17] (.mid 7 (lin [23,24,35]) 5 (lin [24,30,35]))) (.or (Cm [18] (.mid 7 (lin [7,23,24,35]) 1 (.mid 7 (lin [23,24,35]) 5 (lin [24,30,35])))) (Cm [30] (.mid 4 (lin [7,23,24,35]) 1 (lin [17,23,24,35])))))) (.or (Cm [18] (.or (Cm [7,9] (.mid 7 (lin [23,24,35]) 5 (lin [24,30,35]))) (.or (Cm [10] (.mid 7 (lin [7,23,24,35]) 1 (.mid 7 (lin [23,24,35]) 5 (lin [24,30,35])))) (Cm [30] (.mid 2 (lin [7,23,24,35]) 1 (lin [9,23,24,35])))))) (Cm [30] (.or (lin [7,9,17,23,24,35]) (.or (Cm [10] (.mid 4 (lin [7,23,24,35]) 1 (lin [17,23,24,35]))) (Cm [18] (.mid 2 (lin [7,23,24,35]) 1 (lin [9,23,24,35])))))))))) ?_|apply_assumption -exfalso -symm)
   all_goals try (exfalso;exact absurd hk (by assumption))
   refine ji5 5 36 2 (e:=9) (sz:=1) rfl rfl rfl ?_;refine j8 qb6 [5,36] (fun x:Nat × Nat=>[(24,.d (.int .i64 x.1))]) (fun x=>[(5,.box [.d (.str r.1),.d (.bool true),.own 36 x.2]),(36,.row 9 1 true ((kl2 s x.1).map .str) x.2)]) (fun x=>x.1<=s.proto.l.length) (fun x=>s.proto.l.length - x.1) (0,0) (Ak _) fun⟨j,kv⟩ hj=>?_;dsimp only[Ac,Ad]at hj ⊢;have hlen:=kg2 s j;rcases Ah j s.proto.l.length with hj2|hj2
   ·have hts:=jy4 s j hj2
    (repeat' first|refine Ca 7 ?_;(refine Cj 7 ?_)|refine Ca 35 ?_;(refine Dh 35 ?_)|refine yyp ?_;try refine Cc ?_ ?_<;>intro hb|refine yy ?_|(refine Cq ?_;first|(refine Cs (fun kv=>?_))|(refine z_append_suf (fun sx sp kv hsx hsp hsl=>?_)))|refine at_nil ?_;refine Ce Mj ?_|(apply Dp (x:=.region 1 _ _);focus ((refine Ck 1 ?_;refine j1 [8] (Cm [12,1,9,17] (.two 1 (.two 5 (lin [24,30,35]) 7 (lin [22,24,35])) 7 (lin [6,22,24,35]))) ?_);(repeat' (first|refine Ca 4 ?_;(refine Cj 4 ?_)));(all_goals first|exact Wk.refl _ _|exact v6);done))|refine Cb fun K hK=>?_|refine Ck 1 ?_;refine j1 [8] (Cm [12,1,9,17] (.two 1 (.two 5 (lin [24,30,35]) 7 (lin [22,24,35])) 7 (lin [6,22,24,35]))) ?_|apply_assumption -exfalso -symm)
    all_goals
     refine⟨(j+1,kv),by dsimp only;omega,by dsimp only;omega,?_⟩;dsimp only;rw[hts];simp only[hb,if_true,if_false,Ay,Bp,Ap,Am,Aw];exact v6
   rw[kg1 s j hj2]
   (repeat' first|refine yyp ?_;try refine Cc ?_ ?_<;>intro hb|refine yy ?_|refine at_nil ?_;refine Ce Mj ?_|(apply Dp (x:=.region 1 _ _);focus ((refine Ck 1 ?_;refine j1 [8] (Cm [12,1,9,17] (.two 1 (.two 5 (lin [24,30,35]) 7 (lin [22,24,35])) 7 (lin [6,22,24,35]))) ?_);(repeat' (first|refine Ca 4 ?_;(refine Cj 4 ?_)));(all_goals first|exact Wk.refl _ _|exact v6);done))|refine Cb fun K hK=>?_|refine Ck 1 ?_;refine j1 [8] (Cm [12,1,9,17] (.two 1 (.two 5 (lin [24,30,35]) 7 (lin [22,24,35])) 7 (lin [6,22,24,35]))) ?_|apply_assumption -exfalso -symm)
   (refine j0 (j7 ⟨?_,rfl⟩))
   rfl
  case none=>
   (refine j4 func97 ntmps97 results97 fun w M E b0=>?_)
   (repeat' first|refine Ca 4 ?_;(refine Cj 4 ?_)|refine yyp ?_;try refine Cc ?_ ?_<;>intro hb|refine yy ?_|refine at_nil ?_;refine Ce Mj ?_|(apply Dp (x:=.region 1 _ _);focus ((refine Ck 1 ?_;refine j1 [1,5,8] (Cm [12,1] (.or (Cm [7,9,17] (.mid 7 (lin [23,24,35]) 5 (lin [24,30,35]))) (.or (Cm [10] (.or (Cm [7,17] (.mid 7 (lin [23,24,35]) 5 (lin [24,30,35]))) (.or (Cm [18] (.mid 7 (lin [7,23,24,35]) 1 (.mid 7 (lin [23,24,35]) 5 (lin [24,30,35])))) (Cm [30] (.mid 4 (lin [7,23,24,35]) 1 (lin [17,23,24,35])))))) (.or (Cm [18] (.or (Cm [7,9] (.mid 7 (lin [23,24,35]) 5 (lin [24,30,35]))) (.or (Cm [10] (.mid 7 (lin [7,23,24,35]) 1 (.mid 7 (lin [23,24,35]) 5 (lin [24,30,35])))) (Cm [30] (.mid 2 (lin [7,23,24,35]) 1 (lin [9,23,24,35])))))) (Cm [30] (.or (lin [7,9,17,23,24,35]) (.or (Cm [10] (.mid 4 (lin [7,23,24,35]) 1 (lin [17,23,24,35]))) (Cm [18] (.mid 2 (lin [7,23,24,35]) 1 (lin [9,23,24,35])))))))))) ?_);(repeat' (first|refine Ca 9 ?_;refine Ch (hc:=hf) ?_|refine Ca 5 ?_;(refine Cj 5 ?_)|refine Ca 13 ?_;refine Ch (hc:=hc) ?_|refine Ca 14 ?_;refine z_p Cr ?_|refine yyp ?_|refine yy ?_|refine at_nil ?_;refine Ce Mj ?_|refine n9 ?_ ?_|refine jo7 ?_ ?_));(all_goals first|exact Wk.refl _ _|exact v6);done))|refine Cb fun K hK=>?_|refine Ck 1 ?_;refine j1 [1,5,8] (Cm [12,1] (.or (Cm [7,9,17] (.mid 7 (lin [23,24,35]) 5 (lin [24,30,35]))) (.or (Cm [10] (.or (Cm [7,17] (.mid 7 (lin [23,24,35]) 5 (lin [24,30,35]))) (.or (Cm [18] (.mid 7 (lin [7,23,24,35]) 1 (.mid 7 (lin [23,24,35]) 5 (lin [24,30,35])))) (Cm [30] (.mid 4 (lin [7,23,24,35]) 1 (lin [17,23,24,35])))))) (.or (Cm [18] (.or (Cm [7,9] (.mid 7 (lin [23,24,35]) 5 (lin [24,30,35]))) (.or (Cm [10] (.mid 7 (lin [7,23,24,35]) 1 (.mid 7 (lin [23,24,35]) 5 (lin [24,30,35])))) (Cm [30] (.mid 2 (lin [7,23,24,35]) 1 (lin [9,23,24,35])))))) (Cm [30] (.or (lin [7,9,17,23,24,35]) (.or (Cm [10] (.mid 4 (lin [7,23,24,35]) 1 (lin [17,23,24,35]))) (Cm [18] (.mid 2 (lin [7,23,24,35]) 1 (lin [9,23,24,35])))))))))) ?_|apply_assumption -exfalso -symm)
   all_goals try (exfalso;exact absurd hk (by assumption))
   refine ji5 5 36 2 (e:=9) (sz:=1) rfl rfl rfl ?_;refine j8 qb6 [5,36] (fun x:Nat × Nat=>[(24,.d (.int .i64 x.1))]) (fun x=>[(5,.box [.d (.str r.1),.d (.bool true),.own 36 x.2]),(36,.row 9 1 true ((kl2 s x.1).map .str) x.2)]) (fun x=>x.1<=s.proto.l.length) (fun x=>s.proto.l.length - x.1) (0,0) (Ak _) fun⟨j,kv⟩ hj=>?_;dsimp only[Ac,Ad]at hj ⊢;have hlen:=kg2 s j;rcases Ah j s.proto.l.length with hj2|hj2
   ·have hts:=jy4 s j hj2
    (repeat' first|refine Ca 7 ?_;(refine Cj 7 ?_)|refine Ca 35 ?_;(refine Dh 35 ?_)|refine yyp ?_;try refine Cc ?_ ?_<;>intro hb|refine yy ?_|(refine Cq ?_;first|(refine Cs (fun kv=>?_))|(refine z_append_suf (fun sx sp kv hsx hsp hsl=>?_)))|refine at_nil ?_;refine Ce Mj ?_|(apply Dp (x:=.region 1 _ _);focus ((refine Ck 1 ?_;refine j1 [8] (Cm [12,1,9,17] (.two 1 (.two 5 (lin [24,30,35]) 7 (lin [22,24,35])) 7 (lin [6,22,24,35]))) ?_);(repeat' (first|refine Ca 4 ?_;(refine Cj 4 ?_)));(all_goals first|exact Wk.refl _ _|exact v6);done))|refine Cb fun K hK=>?_|refine Ck 1 ?_;refine j1 [8] (Cm [12,1,9,17] (.two 1 (.two 5 (lin [24,30,35]) 7 (lin [22,24,35])) 7 (lin [6,22,24,35]))) ?_|apply_assumption -exfalso -symm)
    all_goals
     refine⟨(j+1,kv),by dsimp only;omega,by dsimp only;omega,?_⟩;dsimp only;rw[hts];simp only[hb,if_true,if_false,Ay,Bp,Ap,Am,Aw];exact v6
   rw[kg1 s j hj2]
   (repeat' first|refine yyp ?_;try refine Cc ?_ ?_<;>intro hb|refine yy ?_|refine at_nil ?_;refine Ce Mj ?_|(apply Dp (x:=.region 1 _ _);focus ((refine Ck 1 ?_;refine j1 [8] (Cm [12,1,9,17] (.two 1 (.two 5 (lin [24,30,35]) 7 (lin [22,24,35])) 7 (lin [6,22,24,35]))) ?_);(repeat' (first|refine Ca 4 ?_;(refine Cj 4 ?_)));(all_goals first|exact Wk.refl _ _|exact v6);done))|refine Cb fun K hK=>?_|refine Ck 1 ?_;refine j1 [8] (Cm [12,1,9,17] (.two 1 (.two 5 (lin [24,30,35]) 7 (lin [22,24,35])) 7 (lin [6,22,24,35]))) ?_|apply_assumption -exfalso -symm)
   (refine j0 (j7 ⟨?_,rfl⟩))
   rfl
 ·rw[ho.2 hk];clear ho;cases k
  all_goals dsimp only[HW,ja4,n6]at hf hc ⊢
  all_goals (refine j4 func97 ntmps97 results97 fun w M E b0=>?_)
  all_goals (repeat' first|refine Ca 4 ?_;(refine Cj 4 ?_)|refine yyp ?_;try refine Cc ?_ ?_<;>intro hb|refine yy ?_|refine at_nil ?_;refine Ce Mj ?_|(apply Dp (x:=.region 1 _ _);focus ((refine Ck 1 ?_;refine j1 [1,5,8] (Cm [12,1] (.or (Cm [7,9,17] (.mid 7 (lin [23,24,35]) 5 (lin [24,30,35]))) (.or (Cm [10] (.or (Cm [7,17] (.mid 7 (lin [23,24,35]) 5 (lin [24,30,35]))) (.or (Cm [18] (.mid 7 (lin [7,23,24,35]) 1 (.mid 7 (lin [23,24,35]) 5 (lin [24,30,35])))) (Cm [30] (.mid 4 (lin [7,23,24,35]) 1 (lin [17,23,24,35])))))) (.or (Cm [18] (.or (Cm [7,9] (.mid 7 (lin [23,24,35]) 5 (lin [24,30,35]))) (.or (Cm [10] (.mid 7 (lin [7,23,24,35]) 1 (.mid 7 (lin [23,24,35]) 5 (lin [24,30,35])))) (Cm [30] (.mid 2 (lin [7,23,24,35]) 1 (lin [9,23,24,35])))))) (Cm [30] (.or (lin [7,9,17,23,24,35]) (.or (Cm [10] (.mid 4 (lin [7,23,24,35]) 1 (lin [17,23,24,35]))) (Cm [18] (.mid 2 (lin [7,23,24,35]) 1 (lin [9,23,24,35])))))))))) ?_);(repeat' (first|refine Ca 9 ?_;refine Ch (hc:=hf) ?_|refine Ca 5 ?_;(refine Cj 5 ?_)|refine Ca 13 ?_;refine Ch (hc:=hc) ?_|refine Ca 14 ?_;refine z_p Cr ?_|refine yyp ?_|refine yy ?_|refine at_nil ?_;refine Ce Mj ?_|refine n9 ?_ ?_|refine jo7 ?_ ?_));(all_goals first|exact Wk.refl _ _|exact v6);done))|refine Cb fun K hK=>?_|refine Ck 1 ?_;refine j1 [1,5,8] (Cm [12,1] (.or (Cm [7,9,17] (.mid 7 (lin [23,24,35]) 5 (lin [24,30,35]))) (.or (Cm [10] (.or (Cm [7,17] (.mid 7 (lin [23,24,35]) 5 (lin [24,30,35]))) (.or (Cm [18] (.mid 7 (lin [7,23,24,35]) 1 (.mid 7 (lin [23,24,35]) 5 (lin [24,30,35])))) (Cm [30] (.mid 4 (lin [7,23,24,35]) 1 (lin [17,23,24,35])))))) (.or (Cm [18] (.or (Cm [7,9] (.mid 7 (lin [23,24,35]) 5 (lin [24,30,35]))) (.or (Cm [10] (.mid 7 (lin [7,23,24,35]) 1 (.mid 7 (lin [23,24,35]) 5 (lin [24,30,35])))) (Cm [30] (.mid 2 (lin [7,23,24,35]) 1 (lin [9,23,24,35])))))) (Cm [30] (.or (lin [7,9,17,23,24,35]) (.or (Cm [10] (.mid 4 (lin [7,23,24,35]) 1 (lin [17,23,24,35]))) (Cm [18] (.mid 2 (lin [7,23,24,35]) 1 (lin [9,23,24,35])))))))))) ?_|apply_assumption -exfalso -symm)
  all_goals first
   |(exfalso;exact hk (by assumption))
   |((refine j0 (j7 ⟨?_,rfl⟩))
     rfl)
theorem qp9 (k:Sc.Kind)(σ:Sc.W)(s:Sp)(i:Nat)(hi:i<s.formals.length)(ht:σ.Xz)(hn:σ.Ud 1):
 FnE prog (glS mm) 99 [.d (.int .i64 i),.ptr 1002 0,.ptr 1003 0] ((1002,.box [.ptr 900 0])::(1003,.box (sv s))::HW k σ)
  (fun v H1=>v=.d (Ga ⟨(Sc.Ct σ).1,false,Sc.Cz σ.env s.formals[i].type⟩)/\H1=(1002,.box [.ptr 900 0])::(1003,.box (sv s))::HW k (Sc.Ct σ).2):=by
 have hf:=jj2 (mm:=mm) k σ ht hn;have hc:=kn6 (glS mm) k (Sc.Ct σ).2 s.formals[i].type;rw[show(Sc.Ct σ).2.env=σ.env from rfl]at hc;generalize Sc.Ct σ=r at hf hc ⊢;generalize Sc.Cz σ.env s.formals[i].type=ct at hc ⊢;cases k
 all_goals dsimp only[HW,ja4,n6]at hf hc ⊢
 all_goals (refine j4 func99 ntmps99 results99 fun w M E b0=>?_)
 all_goals (repeat' first|refine Ca 4 ?_;(refine Cj 4 ?_)|refine yy ?_|refine at_nil ?_;refine Ce [0,1,2,4,5,6,120] ?_|(apply Dp (x:=.region 1 _ _);focus ((refine Ck 1 ?_;refine j1 [1,9,11] (Cm [12,20,1] (.or (lin [7,9,17,24,28,33,39,40,47]) (.or (Cm [10] (.mid 4 (Cm [24,28] (.mid 8 (lin [7,39,40,47]) 1 (lin [33,39,40,47]))) 1 (lin [17,24,28,33,39,40,47]))) (Cm [18,24,28] (.or (lin [7,9,33,39,40,47]) (.or (Cm [10] (.mid 8 (lin [7,39,40,47]) 1 (lin [33,39,40,47]))) (Cm [34] (.mid 2 (lin [7,39,40,47]) 1 (lin [9,39,40,47]))))))))) ?_);(repeat' (first|refine Ca 6 ?_;refine Ch (hc:=hf) ?_|refine Ca 14 ?_;refine Ch (hc:=hc) ?_|refine Ca 15 ?_;refine z_p Cr ?_|refine yyp ?_|refine yy ?_|refine at_nil ?_;refine Ce [0,1,2,4,5,6,120] ?_|refine n9 ?_ ?_|refine jo7 ?_ ?_));(all_goals first|exact Wk.refl _ _|exact v6);done))|refine Cb fun K hK=>?_|refine Ck 1 ?_;refine j1 [1,9,11] (Cm [12,20,1] (.or (lin [7,9,17,24,28,33,39,40,47]) (.or (Cm [10] (.mid 4 (Cm [24,28] (.mid 8 (lin [7,39,40,47]) 1 (lin [33,39,40,47]))) 1 (lin [17,24,28,33,39,40,47]))) (Cm [18,24,28] (.or (lin [7,9,33,39,40,47]) (.or (Cm [10] (.mid 8 (lin [7,39,40,47]) 1 (lin [33,39,40,47]))) (Cm [34] (.mid 2 (lin [7,39,40,47]) 1 (lin [9,39,40,47]))))))))) ?_|apply_assumption -exfalso -symm)
 all_goals (refine j0 (j7 ⟨?_,rfl⟩))
 all_goals rfl
theorem qq0 (gl:List (Nat × List D))(k:Sc.Kind)(σ:Sc.W)(f:Fo)(ns:List ByteArray)(j:Nat)(hj:j<ns.length)(hl:ns.length<=1000000000)(hr:σ.room 1):
 FnE prog gl 103 [.d (dFo f),.ptr 1012 0,.ptr 1011 0,.ptr 1002 0] ((1012,.box [.d (.int .i64 ((j:Int) - 1))])::(1011,.box [.d (.list 1 (ns.map .str))])::(1002,.box [.ptr 900 0])::HW k σ)
  (fun v H1=>v=.d (dFo {(Sc.Cx σ f).1 with name:=ns[j]})/\H1=(1012,.box [.d (.int .i64 j)])::(1011,.box [.d (.list 1 (ns.map .str))])::(1002,.box [.ptr 900 0])::HW k (Sc.Cx σ f).2):=by
 have ht:=mk8 gl k σ f.type hr;unfold Sc.Cx;dsimp only;generalize Sc.Gn σ f.type=r at ht ⊢;cases k
 all_goals dsimp only[HW,ja4,n6]at ht ⊢
 case free=>
  (refine j4 func103 ntmps103 results103 fun w M E b0=>?_)
  refine Cb fun K0 h0=>?_
  (refine x7 (id:=0) ?_;(repeat' first|refine Ca 4 ?_;(refine j6 4 ?_)|refine Ca 5 ?_;(refine Cj 5 ?_)|refine at_nil ?_;refine Ce Nh ?_))
  refine h0 _ ?_;refine Cb fun K1 h1=>?_
  (refine x7 (id:=1) ?_;(repeat' first|refine yyp ?_;try refine Cc ?_ ?_<;>intro hb|refine yy ?_|refine at_nil ?_;refine Ce Nh ?_))
  rw[show(j:Int) - 1+1=j by omega];refine h1 _ ?_
  (repeat' first|refine yyp ?_;try refine Cc ?_ ?_<;>intro hb|refine yy ?_|refine at_nil ?_;refine Ce Nh ?_|(apply Dp (x:=.region 2 _ _);focus ((refine Ck 2 ?_;refine j1 [7,9,11] (Cm [20,17,25] (.or (Cm [2] (.mid 1 (Cm [8] (.mid 3 (lin [32,31,39,40,47]) 7 (lin [13,32,39,40,47]))) 7 (lin [5,8,13,32,39,40,47]))) (.or (Cm [6] (.mid 0 (Cm [8] (.mid 3 (lin [32,31,39,40,47]) 7 (lin [13,32,39,40,47]))) 7 (lin [1,8,13,32,39,40,47]))) (lin [31,1,5,8,13,32,39,40,47])))) ?_);(repeat' (first|refine Ca 15 ?_;refine Ch (hc:=ht) ?_|refine yyp ?_|refine yy ?_|refine at_nil ?_;refine Ce Nh ?_|refine n9 ?_ ?_|refine jo7 ?_ ?_));(all_goals first|exact Wk.refl _ _|exact v6);done))|refine Cb fun K hK=>?_|refine Ck 2 ?_;refine j1 [7,9,11] (Cm [20,17,25] (.or (Cm [2] (.mid 1 (Cm [8] (.mid 3 (lin [32,31,39,40,47]) 7 (lin [13,32,39,40,47]))) 7 (lin [5,8,13,32,39,40,47]))) (.or (Cm [6] (.mid 0 (Cm [8] (.mid 3 (lin [32,31,39,40,47]) 7 (lin [13,32,39,40,47]))) 7 (lin [1,8,13,32,39,40,47]))) (lin [31,1,5,8,13,32,39,40,47])))) ?_|apply_assumption -exfalso -symm)
  (refine j0 (j7 ⟨?_,rfl⟩))
  rfl
 case check ns=>
  (refine j4 func103 ntmps103 results103 fun w M E b0=>?_)
  refine Cb fun K0 h0=>?_
  (refine x7 (id:=0) ?_;(repeat' first|refine Ca 4 ?_;(refine j6 4 ?_)|refine Ca 5 ?_;(refine Cj 5 ?_)|refine at_nil ?_;refine Ce Nh ?_))
  refine h0 _ ?_;refine Cb fun K1 h1=>?_
  (refine x7 (id:=1) ?_;(repeat' first|refine yyp ?_;try refine Cc ?_ ?_<;>intro hb|refine yy ?_|refine at_nil ?_;refine Ce Nh ?_))
  rw[show(j:Int) - 1+1=j by omega];refine h1 _ ?_
  (repeat' first|refine yyp ?_;try refine Cc ?_ ?_<;>intro hb|refine yy ?_|refine at_nil ?_;refine Ce Nh ?_|(apply Dp (x:=.region 2 _ _);focus ((refine Ck 2 ?_;refine j1 [7,9,11] (Cm [20,17,25] (.or (Cm [2] (.mid 1 (Cm [8] (.mid 3 (lin [32,31,39,40,47]) 7 (lin [13,32,39,40,47]))) 7 (lin [5,8,13,32,39,40,47]))) (.or (Cm [6] (.mid 0 (Cm [8] (.mid 3 (lin [32,31,39,40,47]) 7 (lin [13,32,39,40,47]))) 7 (lin [1,8,13,32,39,40,47]))) (lin [31,1,5,8,13,32,39,40,47])))) ?_);(repeat' (first|refine Ca 15 ?_;refine Ch (hc:=ht) ?_|refine yyp ?_|refine yy ?_|refine at_nil ?_;refine Ce Nh ?_|refine n9 ?_ ?_|refine jo7 ?_ ?_));(all_goals first|exact Wk.refl _ _|exact v6);done))|refine Cb fun K hK=>?_|refine Ck 2 ?_;refine j1 [7,9,11] (Cm [20,17,25] (.or (Cm [2] (.mid 1 (Cm [8] (.mid 3 (lin [32,31,39,40,47]) 7 (lin [13,32,39,40,47]))) 7 (lin [5,8,13,32,39,40,47]))) (.or (Cm [6] (.mid 0 (Cm [8] (.mid 3 (lin [32,31,39,40,47]) 7 (lin [13,32,39,40,47]))) 7 (lin [1,8,13,32,39,40,47]))) (lin [31,1,5,8,13,32,39,40,47])))) ?_|apply_assumption -exfalso -symm)
  (refine j0 (j7 ⟨?_,rfl⟩))
  rfl
 case none=>
  (refine j4 func103 ntmps103 results103 fun w M E b0=>?_)
  refine Cb fun K0 h0=>?_
  (refine x7 (id:=0) ?_;(repeat' first|refine Ca 4 ?_;(refine j6 4 ?_)|refine Ca 5 ?_;(refine Cj 5 ?_)|refine at_nil ?_;refine Ce Nh ?_))
  refine h0 _ ?_;refine Cb fun K1 h1=>?_
  (refine x7 (id:=1) ?_;(repeat' first|refine yyp ?_;try refine Cc ?_ ?_<;>intro hb|refine yy ?_|refine at_nil ?_;refine Ce Nh ?_))
  rw[show(j:Int) - 1+1=j by omega];refine h1 _ ?_
  (repeat' first|refine yyp ?_;try refine Cc ?_ ?_<;>intro hb|refine yy ?_|refine at_nil ?_;refine Ce Nh ?_|(apply Dp (x:=.region 2 _ _);focus ((refine Ck 2 ?_;refine j1 [7,9,11] (Cm [20,17,25] (.or (Cm [2] (.mid 1 (Cm [8] (.mid 3 (lin [32,31,39,40,47]) 7 (lin [13,32,39,40,47]))) 7 (lin [5,8,13,32,39,40,47]))) (.or (Cm [6] (.mid 0 (Cm [8] (.mid 3 (lin [32,31,39,40,47]) 7 (lin [13,32,39,40,47]))) 7 (lin [1,8,13,32,39,40,47]))) (lin [31,1,5,8,13,32,39,40,47])))) ?_);(repeat' (first|refine Ca 15 ?_;refine Ch (hc:=ht) ?_|refine yyp ?_|refine yy ?_|refine at_nil ?_;refine Ce Nh ?_|refine n9 ?_ ?_|refine jo7 ?_ ?_));(all_goals first|exact Wk.refl _ _|exact v6);done))|refine Cb fun K hK=>?_|refine Ck 2 ?_;refine j1 [7,9,11] (Cm [20,17,25] (.or (Cm [2] (.mid 1 (Cm [8] (.mid 3 (lin [32,31,39,40,47]) 7 (lin [13,32,39,40,47]))) 7 (lin [5,8,13,32,39,40,47]))) (.or (Cm [6] (.mid 0 (Cm [8] (.mid 3 (lin [32,31,39,40,47]) 7 (lin [13,32,39,40,47]))) 7 (lin [1,8,13,32,39,40,47]))) (lin [31,1,5,8,13,32,39,40,47])))) ?_|apply_assumption -exfalso -symm)
  (refine j0 (j7 ⟨?_,rfl⟩))
  rfl
end
end Go.Proofs.YtdopmfifmgkmoaaGreatDoor
