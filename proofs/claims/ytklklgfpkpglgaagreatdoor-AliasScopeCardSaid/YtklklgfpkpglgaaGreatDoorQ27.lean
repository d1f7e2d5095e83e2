/- Parts. -/
import Derived.Test.YtklklgfpkpglgaaGreatDoorQ25
import Derived.Test.YtklklgfpkpglgaaGreatDoorQ26
set_option linter.all false
set_option maxRecDepth 100000
set_option maxHeartbeats 0
namespace Go.Proofs.YtklklgfpkpglgaaGreatDoor
open Go.RowKit Go.Proofs.Tryz Sc
variable (gl:List (Nat × List D))
section
def Sn:List Nat:=[1,2,4,5,7,17,22,23,24,25,30,112]
def Vf:List Nat:=[0,1,2,3,4,5,6,128]
variable {mm:Int}
def Sp.Xl (s:Sp)(b:List Pr):Sp:=.mk s.kind s.type s.names s.e s.aN s.ax b
def Pr.set2 (p:Pr)(g:List Gu)(l:List Pr):Pr:=.mk p.kind p.name p.av p.aj p.au p.rep g l p.ay p.spec
attribute [local irreducible] TR TC
theorem rd9 (k:Sc.Kind)(σ σ2:W)(s:Sp)(b:List Pr)
 (hE:FnE prog gl 58 [.d (.list 42 (s.body.map dPr)),.clo (.func 31) [.ptr 900 0] []] (HW k σ) (λv H1=>v=.d (.list 42 (b.map dPr))/\H1=HW k σ2)):
 FnE prog gl 88 [.ptr 1003 0,.ptr 1002 0] ((1003,.box (sv s))::(1002,.box [.ptr 900 0])::HW k σ)
  (λv H1=>v=.tup []/\H1=(1003,.box (sv (s.Xl b)))::(1002,.box [.ptr 900 0])::HW k σ2):=by
 cases k
 all_goals dsimp only[HW,je0,jb3]at hE ⊢
 all_goals (refine j3 func88 ntmps88 results88 λw M E b0=>?_)
 all_goals (repeat' first|apply Ca 6;refine Ch (hc:=hE) ?_|refine yyp ?_;try refine Ce ?_ ?_<;>intro hb|refine yy ?_|apply ah;refine Cc [0,1,2,3,4,5] ?_|refine Cb λK hK=>?_|apply_assumption -exfalso -symm)
 all_goals exact ji3 ⟨rfl,rfl⟩
theorem ju1 (k:Sc.Kind)(σ σ1 σ2:W)(p:Pr)(g:List Gu)(l:List Pr)
 (hG:FnE prog gl 56 [.d (.list 23 (p.ak.map dGu)),.clo (.func 57) [.ptr 900 0] []] (HW k σ) (λv H1=>v=.d (.list 23 (g.map dGu))/\H1=HW k σ1))
 (hE:FnE prog gl 58 [.d (.list 42 (p.l.map dPr)),.clo (.func 31) [.ptr 900 0] []] (HW k σ1) (λv H1=>v=.d (.list 42 (l.map dPr))/\H1=HW k σ2)):
 FnE prog gl 55 [.ptr 1003 0,.ptr 1002 0] ((1003,.box (pv p))::(1002,.box [.ptr 900 0])::HW k σ)
  (λv H1=>v=.tup []/\H1=(1003,.box (pv (p.set2 g l)))::(1002,.box [.ptr 900 0])::HW k σ2):=by
 cases k
 all_goals dsimp only[HW,je0,jb3]at hG hE ⊢
 all_goals (refine j3 func55 ntmps55 results55 λw M E b0=>?_)
 all_goals (repeat' first|apply Ca 6;refine Ch (hc:=hG) ?_|apply Ca 12;refine Ch (hc:=hE) ?_|refine yyp ?_;try refine Ce ?_ ?_<;>intro hb|refine yy ?_|apply ah;refine Cc [0,1,2,3,4,5] ?_|refine Cb λK hK=>?_|apply_assumption -exfalso -symm)
 all_goals exact ji3 ⟨rfl,rfl⟩
def mg1 (s:Sp)(j:Nat):List ByteArray:=(s.aN.l.take j).filterMap λv=>if s.aN.cases then some v.tag else none
theorem mz7 (s:Sp)(j:Nat)(hj:j<s.aN.l.length):mg1 s (j+1)=mg1 s j++(if s.aN.cases then [s.aN.l[j].tag] else []):=by
 unfold mg1;rw[An hj,List.filterMap_append];congr 1;simp only[List.filterMap_cons,List.filterMap_nil];split<;>simp_all
theorem qk8 (s:Sp)(j:Nat)(hj:s.aN.l.length<=j):mg1 s j=Oo s:=by
 unfold mg1 Oo;rw[Ba hj];cases s.aN.cases
 ·simp
 ·simp
theorem qk9 (s:Sp)(j:Nat):(mg1 s j).length<=j:=by
 unfold mg1;have h1:=List.length_filterMap_le (λv:Va=>if s.aN.cases then some v.tag else none) (s.aN.l.take j);rw[Aq]at h1;omega
theorem re0 (env:ByteArray->List Sc.Ent)(s:Sp):(s.kind=4->Dx env s=(true,Oo s))/\(s.kind≠4->Dx env s=(false,Cx env s.type)):=by
 unfold Dx;exact⟨λh=>Ad h,λh=>Af h⟩
theorem re1 (k:Sc.Kind)(σ:W)(s:Sp)(i:Int)(ht:σ.Yl)(hn:σ.Xh 1)(hl:s.aN.l.length<=1000000000):
 FnE prog (glS mm) 81 [.d (.int .i64 i),.ptr 1002 0,.ptr 1003 0] ((1002,.box [.ptr 900 0])::(1003,.box (sv s))::HW k σ)
  (λv H1=>v=.d (Lj ⟨(Co σ).1,(Dx σ.env s).1,(Dx σ.env s).2⟩)/\H1=(1002,.box [.ptr 900 0])::(1003,.box (sv s))::HW k (Co σ).2):=by
 have hf:=kx3 (mm:=mm) k σ ht hn;have hc:=kr4 (glS mm) k (Co σ).2 s.type;have ho:=re0 σ.env s;rw[show(Co σ).2.env=σ.env from rfl]at hc;generalize Co σ=r at hf hc ⊢;generalize Cx σ.env s.type=ct at hc ho;by_cases hk:s.kind=4
 ·rw[ho.1 hk];clear ho;have tg:k=k:=rfl;cases k
  all_goals dsimp only[HW,je0,jb3]at hf hc ⊢
  all_goals
   (refine j3 func81 ntmps81 results81 λw M E b0=>?_)
   (repeat' first|apply Ca 4;(refine j2 4 ?_)|refine yyp ?_;try refine Ce ?_ ?_<;>intro hb|refine yy ?_|apply ah;refine Cc Sn ?_|(apply Iz (x:=.region 1 _ _);focus ((apply Cg 1;refine j0 [1,5,8] q02 ?_);(repeat' (first|apply Ca 9;refine Ch (hc:=hf) ?_|apply Ca 5;(refine j2 5 ?_)|apply Ca 13;refine Ch (hc:=hc) ?_|apply Ca 14;refine z_p Cu ?_|refine yyp ?_|refine yy ?_|apply ah;refine Cc Sn ?_|refine Jd ?_ ?_|refine kq0 ?_ ?_));(all_goals first|exact Wk.refl _ _|exact v6);done))|refine Cb λK hK=>?_|apply Cg 1;refine j0 [1,5,8] q02 ?_|apply_assumption -exfalso -symm)
   all_goals try (exfalso;exact absurd hk (by assumption))
   refine kh4 5 36 2 (e:=9) (sz:=1) rfl rfl rfl ?_;refine k9 [7,24,25,26,27,28,29,30,31,32,33,34,35,36,37,38] [5,36] (λx:Nat × Nat=>[(24,.d (.int .i64 x.1))]) (λx=>[(5,.box [.d (.str r.1),.d (.bool true),.own 36 x.2]),(36,.row 9 1 true ((mg1 s x.1).map .str) x.2)]) (λx=>x.1<=s.aN.l.length) (λx=>s.aN.l.length - x.1) (0,0) (Ak _) λ⟨j,kv⟩ hj=>?_;dsimp only[Ac,Ae]at hj ⊢;have hlen:=qk9 s j;rcases Ai j s.aN.l.length with hj2|hj2
   ·have hts:=mz7 s j hj2
    (repeat' first|apply Ca 7;(refine j2 7 ?_)|apply Ca 35;(refine Fu 35 ?_)|refine yyp ?_;try refine Ce ?_ ?_<;>intro hb|refine yy ?_|(apply Dw;first|(refine Gj (λkv=>?_))|(refine ai (λsx sp kv hsx hsp hsl=>?_)))|apply ah;refine Cc Sn ?_|(apply Iz (x:=.region 1 _ _);focus ((apply Cg 1;refine j0 [8] q07 ?_);(repeat' (first|apply Ca 4;(refine j2 4 ?_)));(all_goals first|exact Wk.refl _ _|exact v6);done))|refine Cb λK hK=>?_|apply Cg 1;refine j0 [8] q07 ?_|apply_assumption -exfalso -symm)
    all_goals
     refine⟨(j+1,kv),by dsimp only;omega,by dsimp only;omega,?_⟩;dsimp only;rw[hts];simp only[hb,if_true,if_false,Bb,Ey,Av,List.map_cons,Bj];exact v6
   rw[qk8 s j hj2]
   (repeat' first|refine yyp ?_;try refine Ce ?_ ?_<;>intro hb|refine yy ?_|apply ah;refine Cc Sn ?_|(apply Iz (x:=.region 1 _ _);focus ((apply Cg 1;refine j0 [8] q07 ?_);(repeat' (first|apply Ca 4;(refine j2 4 ?_)));(all_goals first|exact Wk.refl _ _|exact v6);done))|refine Cb λK hK=>?_|apply Cg 1;refine j0 [8] q07 ?_|apply_assumption -exfalso -symm)
   (refine j1 (j8 ⟨?_,rfl⟩))
   rfl
 ·rw[ho.2 hk];clear ho;cases k
  all_goals dsimp only[HW,je0,jb3]at hf hc ⊢
  all_goals (refine j3 func81 ntmps81 results81 λw M E b0=>?_)
  all_goals (repeat' first|apply Ca 4;(refine j2 4 ?_)|refine yyp ?_;try refine Ce ?_ ?_<;>intro hb|refine yy ?_|apply ah;refine Cc Sn ?_|(apply Iz (x:=.region 1 _ _);focus ((apply Cg 1;refine j0 [1,5,8] q02 ?_);(repeat' (first|apply Ca 9;refine Ch (hc:=hf) ?_|apply Ca 5;(refine j2 5 ?_)|apply Ca 13;refine Ch (hc:=hc) ?_|apply Ca 14;refine z_p Cu ?_|refine yyp ?_|refine yy ?_|apply ah;refine Cc Sn ?_|refine Jd ?_ ?_|refine kq0 ?_ ?_));(all_goals first|exact Wk.refl _ _|exact v6);done))|refine Cb λK hK=>?_|apply Cg 1;refine j0 [1,5,8] q02 ?_|apply_assumption -exfalso -symm)
  all_goals first
   |(exfalso;exact hk (by assumption))
   |((refine j1 (j8 ⟨?_,rfl⟩))
     rfl)
theorem re2 (k:Sc.Kind)(σ:W)(s:Sp)(i:Nat)(hi:i<s.ax.length)(ht:σ.Yl)(hn:σ.Xh 1):
 FnE prog (glS mm) 83 [.d (.int .i64 i),.ptr 1002 0,.ptr 1003 0] ((1002,.box [.ptr 900 0])::(1003,.box (sv s))::HW k σ)
  (λv H1=>v=.d (Lj ⟨(Co σ).1,false,Cx σ.env s.ax[i].type⟩)/\H1=(1002,.box [.ptr 900 0])::(1003,.box (sv s))::HW k (Co σ).2):=by
 have hf:=kx3 (mm:=mm) k σ ht hn;have hc:=kr4 (glS mm) k (Co σ).2 s.ax[i].type;rw[show(Co σ).2.env=σ.env from rfl]at hc;generalize Co σ=r at hf hc ⊢;generalize Cx σ.env s.ax[i].type=ct at hc ⊢;cases k
 all_goals dsimp only[HW,je0,jb3]at hf hc ⊢
 all_goals (refine j3 func83 ntmps83 results83 λw M E b0=>?_)
 all_goals (repeat' first|apply Ca 4;(refine j2 4 ?_)|refine yy ?_|apply ah;refine Cc [0,1,2,4,5,6,112] ?_|(apply Iz (x:=.region 1 _ _);focus ((apply Cg 1;refine j0 [1,9,11] q04 ?_);(repeat' (first|apply Ca 6;refine Ch (hc:=hf) ?_|apply Ca 14;refine Ch (hc:=hc) ?_|apply Ca 15;refine z_p Cu ?_|refine yyp ?_|refine yy ?_|apply ah;refine Cc [0,1,2,4,5,6,112] ?_|refine Jd ?_ ?_|refine kq0 ?_ ?_));(all_goals first|exact Wk.refl _ _|exact v6);done))|refine Cb λK hK=>?_|apply Cg 1;refine j0 [1,9,11] q04 ?_|apply_assumption -exfalso -symm)
 all_goals (refine j1 (j8 ⟨?_,rfl⟩))
 all_goals rfl
theorem re3 (k:Sc.Kind)(σ:W)(f:Fo)(ns:List ByteArray)(j:Nat)(hj:j<ns.length)(hl:ns.length<=1000000000)(hr:σ.room 1):
 FnE prog gl 87 [.d (dFo f),.ptr 1012 0,.ptr 1011 0,.ptr 1002 0] ((1012,.box [.d (.int .i64 ((j:Int) - 1))])::(1011,.box [.d (.list 1 (ns.map .str))])::(1002,.box [.ptr 900 0])::HW k σ)
  (λv H1=>v=.d (dFo {(Fq σ f).1 with name:=ns[j]})/\H1=(1012,.box [.d (.int .i64 j)])::(1011,.box [.d (.list 1 (ns.map .str))])::(1002,.box [.ptr 900 0])::HW k (Fq σ f).2):=by
 have ht:=mt5 gl k σ f.type hr;unfold Fq;dsimp only;generalize Gr σ f.type=r at ht ⊢;have tg:k=k:=rfl;cases k
 all_goals dsimp only[HW,je0,jb3]at ht ⊢
 all_goals
  (refine j3 func87 ntmps87 results87 λw M E b0=>?_)
  refine Cb λK0 h0=>?_
  (refine y6 (id:=0) ?_;(repeat' first|apply Ca 4;(refine Ck 4 ?_)|apply Ca 5;(refine j2 5 ?_)|apply ah;refine Cc Vf ?_))
  refine h0 _ ?_;refine Cb λK1 h1=>?_
  (refine y6 (id:=1) ?_;(repeat' first|refine yyp ?_;try refine Ce ?_ ?_<;>intro hb|refine yy ?_|apply ah;refine Cc Vf ?_))
  rw[show(j:Int) - 1+1=j by omega];refine h1 _ ?_
  (repeat' first|refine yyp ?_;try refine Ce ?_ ?_<;>intro hb|refine yy ?_|apply ah;refine Cc Vf ?_|(apply Iz (x:=.region 2 _ _);focus ((apply Cg 2;refine j0 [7,9,11] q05 ?_);(repeat' (first|apply Ca 15;refine Ch (hc:=ht) ?_|refine yyp ?_|refine yy ?_|apply ah;refine Cc Vf ?_|refine Jd ?_ ?_|refine kq0 ?_ ?_));(all_goals first|exact Wk.refl _ _|exact v6);done))|refine Cb λK hK=>?_|apply Cg 2;refine j0 [7,9,11] q05 ?_|apply_assumption -exfalso -symm)
  (refine j1 (j8 ⟨?_,rfl⟩))
  rfl
end
end Go.Proofs.YtklklgfpkpglgaaGreatDoor
