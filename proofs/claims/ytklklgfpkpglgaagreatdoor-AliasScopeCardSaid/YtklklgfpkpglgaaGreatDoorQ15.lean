/- Parts. -/
import Derived.Test.YtklklgfpkpglgaaGreatDoorQ14
set_option linter.all false
set_option maxRecDepth 100000
set_option maxHeartbeats 0
namespace Go.Proofs.YtklklgfpkpglgaaGreatDoor
open Go.RowKit Go.Proofs.Tryz Lx
variable (gl:List (Nat × List D))
section
open Sc (isB Ml)
def jf4 {α:Type}(p:α->Bool):List α->Int
 |[]=>-1
 |x::l=>if p x then 0 else if jf4 p l<0 then -1 else jf4 p l+1
theorem ja0 {α:Type}(p:α->Bool):∀ l:List α,-1<=jf4 p l
 |[]=>by simp[jf4]
 |x::l=>by
  have:=ja0 p l;simp only[jf4];split
  ·omega
  ·split<;>omega
theorem l9 {α:Type}(p:α->Bool)(l:List α)(k:Nat)(hk:k<l.length):jf4 p (l.drop k)=if p l[k] then 0 else if jf4 p (l.drop (k+1))<0 then -1 else jf4 p (l.drop (k+1))+1:=by
 rw[Bk hk];rfl
theorem jg2 {α:Type}(p:α->Bool):∀ l:List α,0<=jf4 p l↔l.any p=true
 |[]=>by simp[jf4]
 |x::l=>by
  have h1:=jg2 p l;have h2:=ja0 p l;simp only[jf4,List.any_cons,Bn,<-h1];cases p x
  ·simp only[Bb,if_false,false_or];split<;>omega
  ·simp
attribute [local irreducible] TR TC
theorem md8 (l:List ByteArray)(y:ByteArray):FnD prog gl 103 [.d (.list 1 (l.map .str)),.d (.str y)] (λv=>v=.d (.int .i64 (jf4 (isB y) l))):=by
 (refine j4 func103 ntmps103 results103 λw M=>?_)
 refine k7 0 rfl λhn=>?_;simp only[Ab]at hn
 (repeat' first|refine yyp ?_;try refine Ce ?_ ?_<;>intro hb|refine yy ?_|apply ah;refine Cc [0,1,4,5,6,7,8,9,16] ?_|refine Cb λK hK=>?_|apply_assumption -exfalso -symm)
 refine kp0 (λk:Nat=>⟨[(8,.d (.int .i64 k)),(7,.d (.int .i64 l.length)),(0,.d (.list 1 (l.map .str))),(1,.d (.str y))],[],gl⟩)
  (λk=>k<=l.length/\jf4 (isB y) l=if jf4 (isB y) (l.drop k)<0 then -1 else jf4 (isB y) (l.drop k)+k) (λk=>l.length - k) 0 ⟨Ak _,by have:=ja0 (isB y) l;simp only[Ew];split<;>omega⟩ v6 λk ⟨hk,hi⟩=>?_
 have hlo:=ja0 (isB y) (l.drop (k+1))
 (repeat' first|refine yyp ?_;try refine Ce ?_ ?_<;>intro hb|refine yy ?_|refine yy2 ?_ ?_<;>intro hcmp|apply ah;refine Cc [0,1,4,5,6,7,8,9,16] ?_|refine Cb λK hK=>?_|apply_assumption -exfalso -symm)
 ·(refine j1 (j7 ?_))
  rw[hi,l9 _ _ _ (by omega),Ad (Ml.2 hcmp.symm)];simp[aF]
 ·refine⟨k+1,⟨by omega,?_⟩,by omega,v6⟩;have hne:¬isB y l[k]=true:=λh=>hcmp (Ml.1 h).symm;rw[hi,l9 _ _ _ (by omega),Af hne];split<;>split<;>(try split)<;>omega
 ·(refine j1 (j7 ?_))
  have:k=l.length:=by omega
  rw[hi,this,Fl];simp[aF,jf4]
theorem ji4 (l:List ByteArray)(y:ByteArray):FnD prog gl 62 [.d (.list 1 (l.map .str)),.d (.str y)] (λv=>v=.d (.bool (l.any (isB y)))):=by
 (refine j4 func62 ntmps62 results62 λw M=>?_)
 (repeat' first|refine yyp ?_;try refine Ce ?_ ?_<;>intro hb|refine yy ?_|refine yy2 ?_ ?_<;>intro hcmp|apply Cf 103;refine Ci (hc:=(md8 gl l y)) ?_|apply ah;refine Cc [0,1,4,5,6,7] ?_|refine Cb λK hK=>?_|apply_assumption -exfalso -symm)
 all_goals
  (refine j1 (j7 ?_))
  simp only[aF,At,Am];have h:=jg2 (isB y) l;cases ha:l.any (isB y) with
  |true=>first|rfl|(exfalso;have:=h.2 ha;omega)
  |false=>first|rfl|(exfalso;rw[ha]at h;have:=h.1 (by omega);cases this)
theorem md9 (ns:List ByteArray)(σ:Sc.W)(s:ByteArray)(tw:Bool):FnE prog gl 61 [.d (.str s),.d (.bool tw),.ptr 905 0,.ptr 904 0,.ptr 903 0] (jb3 (.check ns) σ)
 (λv H1=>v=.tup []/\H1=jb3 (.check ns) (Sc.step σ s tw)):=by
 dsimp only[jb3,Sc.step];rw[Sc.Qa];generalize Sc.Hq ns σ.ev=r;obtain⟨rn,re⟩:=r;dsimp only
 (refine j3 func61 ntmps61 results61 λw M E b0=>?_)
 (repeat' first|refine yyp ?_;try refine Ce ?_ ?_<;>intro hb|refine yy ?_|refine yy2 ?_ ?_<;>intro hcmp|apply Cf 62;refine Ci (hc:=(ji4 gl ns s)) ?_;try refine Ce ?_ ?_<;>intro hb|apply ah;refine Cc [0,1,2,3,4,7,10,13] ?_|refine Cb λK hK=>?_|apply_assumption -exfalso -symm)
 all_goals try simp only[Eb]at hcmp
 all_goals simp only[*,if_true,if_false,Bb,Bool.true_eq_false,or_true,or_false,true_or,false_or,and_true,and_false,true_and,false_and]
 all_goals exact ji3 ⟨rfl,rfl⟩
end
section
def Mf:List Nat:=[0,1,4,5,6,7,8,9,16]
def my8:List Nat:=[4,5,8,9,10,11,12,13,14,15,16,17,18]
def Ug:List Nat:=[0,1,4,5,6,7]
def Vu:List Nat:=[0,1,2,4,5,6,7,8]
theorem jo5 {α:Type}(p:α->Bool):∀ l:List α,l.any (λx=>!p x)=!l.all p
 |[]=>rfl
 |x::l=>by rw[List.any_cons,Ei,jo5 p l,Bool.not_and]
attribute [local irreducible] TR TC
theorem rt5 (x:Ex)(b:Bool)(h:FnE prog gl 126 [.d (dEx (x))] [] (λv H1=>v=.d (.bool b)/\H1=[])):
 FnE prog gl 167 [.d (dEx (x)),.ptr 5 0] [(5,.box [.clo (.func 126) [] []])] (λv H1=>v=.d (.bool (!b))/\H1=[(5,.box [.clo (.func 126) [] []])]):=by
 simp only[r8]at h ⊢
 (refine j3 func167 ntmps167 results167 λw M E b0=>?_)
 (repeat' first|apply Ca 2;(refine Ck 2 ?_)|apply Ca 6;refine Ch (hc:=h) ?_;try refine Ce ?_ ?_<;>intro hb|refine yyp ?_;try refine Ce ?_ ?_<;>intro hb|refine yy ?_|apply ah;refine Cc [0,1,2,3,4,5,6] ?_|refine Cb λK hK=>?_|apply_assumption -exfalso -symm)
 all_goals (refine j1 (j8 ⟨?_,rfl⟩))
 all_goals simp only[aF, *,Bool.not_true,Bool.not_false]
theorem vp4 (fe:Nat)(q:Ex->Bool)(l:List Ex)(h:∀ (k:Nat) (hk:k<l.length),FnE prog gl 167 [.d (dEx (l[k])),.ptr 5 0] [(5,.box [.clo (.func fe) [] []])] (λv H1=>v=.d (.bool (q l[k]))/\H1=[(5,.box [.clo (.func fe) [] []])])):
 FnE prog gl 106 [.d (.list 6 (l.map (λx=>dEx (x)))),.clo (.func 167) [] [.ptr 5 0]] [(5,.box [.clo (.func fe) [] []])] (λv H1=>v=.d (.int .i64 (jf4 q l))/\H1=[(5,.box [.clo (.func fe) [] []])]):=by
 simp only[r8]at h ⊢
 (refine j3 func106 ntmps106 results106 λw M E b0=>?_)
 refine k7 0 rfl λhn=>?_;simp only[Ab]at hn
 (repeat' first|refine yyp ?_;try refine Ce ?_ ?_<;>intro hb|refine yy ?_|apply ah;refine Cc Mf ?_|refine Cb λK hK=>?_|apply_assumption -exfalso -symm)
 refine k9 my8 [] (λk:Nat=>[(8,.d (.int .i64 k))]) (λ_=>[]) (λk=>k<=l.length/\jf4 q l=if jf4 q (l.drop k)<0 then -1 else jf4 q (l.drop k)+k) (λk=>l.length - k) 0 ⟨Ak _,by have:=ja0 q l;simp only[Ew];split<;>omega⟩ λk ⟨hk,hi⟩=>?_;dsimp only[Ac,Ae];have hlo:=ja0 q (l.drop (k+1));rcases Ai k l.length with hk2|hk2
 ·have hone:=h k hk2
  (repeat' first|apply Ca 16;refine Ch (hc:=hone) ?_;try refine Ce ?_ ?_<;>intro hb|refine yyp ?_;try refine Ce ?_ ?_<;>intro hb|refine yy ?_|apply ah;refine Cc Mf ?_|refine Cb λK hK=>?_|apply_assumption -exfalso -symm)
  ·(refine j1 (j8 ⟨?_,rfl⟩))
   rw[hi,l9 _ _ _ hk2,Ad hb];simp[aF]
  ·refine⟨k+1,⟨by omega,?_⟩,by omega,v6⟩;rw[hi,l9 _ _ _ hk2,Af (show ¬q l[k]=true by rw[hb];exact Bool.false_ne_true)];split<;>split<;>(try split)<;>omega
 ·(repeat' first|refine yyp ?_;try refine Ce ?_ ?_<;>intro hb|refine yy ?_|apply ah;refine Cc Mf ?_|refine Cb λK hK=>?_|apply_assumption -exfalso -symm)
  (refine j1 (j8 ⟨?_,rfl⟩))
  have:k=l.length:=by omega
  rw[hi,this,Fl];simp[aF,jf4]
theorem vf0 (fe:Nat)(q:Ex->Bool)(l:List Ex)(h:∀ (k:Nat) (hk:k<l.length),FnE prog gl 167 [.d (dEx (l[k])),.ptr 5 0] [(5,.box [.clo (.func fe) [] []])] (λv H1=>v=.d (.bool (q l[k]))/\H1=[(5,.box [.clo (.func fe) [] []])])):
 FnE prog gl 166 [.d (.list 6 (l.map (λx=>dEx (x)))),.clo (.func 167) [] [.ptr 5 0]] [(5,.box [.clo (.func fe) [] []])] (λv H1=>v=.d (.bool (l.any q))/\H1=[(5,.box [.clo (.func fe) [] []])]):=by
 have hix:=vp4 gl fe q l h;have hany:=jg2 q l
 (refine j3 func166 ntmps166 results166 λw M E b0=>?_)
 (repeat' first|apply Ca 7;refine Ch (hc:=hix) ?_|refine yyp ?_;try refine Ce ?_ ?_<;>intro hb|refine yy ?_|refine yy2 ?_ ?_<;>intro hcmp|apply ah;refine Cc Ug ?_|refine Cb λK hK=>?_|apply_assumption -exfalso -symm)
 all_goals (refine j1 (j8 ⟨?_,rfl⟩))
 all_goals simp only[aF,At,Am]
 all_goals first
  |exact(hany.1 (by omega)).symm
  |(symm;cases ha:l.any q with
   |false=>rfl
   |true=>exfalso;have:=hany.2 ha;omega)
theorem me0 (p:Ex->Bool)(l:List Ex)(a b:Int)(h:∀ x∈l,FnE prog gl 126 [.d (dEx (x))] [] (λv H1=>v=.d (.bool (p x))/\H1=[])):
 FnE prog gl 128 [.d (.list 6 (l.map (λx=>dEx (x)))),.d (.agg [.int .i64 a,.int .i64 b]),.clo (.func 126) [] []] [] (λv H1=>v=.d (.bool (Cq l a b p))/\H1=[]):=by
 have hcf:=vf0 gl 126 (λx=>!p x) l λk hk=>rt5 gl l[k] (p l[k]) (h _ (Ao _));rw[jo5]at hcf
 (refine j3 func128 ntmps128 results128 λw M E b0=>?_)
 (repeat' first|apply Ca 4;(refine Ck 4 ?_)|apply Ca 5;(refine Ck 5 ?_)|apply Ca 14;refine Ch (hc:=hcf) ?_;try refine Ce ?_ ?_<;>intro hb|refine yyp ?_;try refine Ce ?_ ?_<;>intro hb|refine yy ?_|apply Cf 122;refine Ci (hc:=(kh6 gl a b l.length)) ?_;try refine Ce ?_ ?_<;>intro hb|apply ah;refine Cc Vu ?_|refine Cb λK hK=>?_|apply_assumption -exfalso -symm)
 all_goals (refine j1 (j8 ⟨?_,rfl⟩))
 all_goals simp only[aF,Cq, *,Bf,As,Bool.not_not,Bool.not_true,Bool.not_false]
 all_goals (try (simp_all;done))
theorem vf1 (x:Ex)(b:Bool)(h:FnE prog gl 129 [.d (dEx (x))] [] (λv H1=>v=.d (.bool b)/\H1=[])):
 FnE prog gl 167 [.d (dEx (x)),.ptr 5 0] [(5,.box [.clo (.func 129) [] []])] (λv H1=>v=.d (.bool (!b))/\H1=[(5,.box [.clo (.func 129) [] []])]):=by
 simp only[r8]at h ⊢
 (refine j3 func167 ntmps167 results167 λw M E b0=>?_)
 (repeat' first|apply Ca 2;(refine Ck 2 ?_)|apply Ca 6;refine Ch (hc:=h) ?_;try refine Ce ?_ ?_<;>intro hb|refine yyp ?_;try refine Ce ?_ ?_<;>intro hb|refine yy ?_|apply ah;refine Cc [0,1,2,3,4,5,6] ?_|refine Cb λK hK=>?_|apply_assumption -exfalso -symm)
 all_goals (refine j1 (j8 ⟨?_,rfl⟩))
 all_goals simp only[aF, *,Bool.not_true,Bool.not_false]
theorem mr9 (p:Ex->Bool)(l:List Ex)(a b:Int)(h:∀ x∈l,FnE prog gl 129 [.d (dEx (x))] [] (λv H1=>v=.d (.bool (p x))/\H1=[])):
 FnE prog gl 128 [.d (.list 6 (l.map (λx=>dEx (x)))),.d (.agg [.int .i64 a,.int .i64 b]),.clo (.func 129) [] []] [] (λv H1=>v=.d (.bool (Cq l a b p))/\H1=[]):=by
 have hcf:=vf0 gl 129 (λx=>!p x) l λk hk=>vf1 gl l[k] (p l[k]) (h _ (Ao _));rw[jo5]at hcf
 (refine j3 func128 ntmps128 results128 λw M E b0=>?_)
 (repeat' first|apply Ca 4;(refine Ck 4 ?_)|apply Ca 5;(refine Ck 5 ?_)|apply Ca 14;refine Ch (hc:=hcf) ?_;try refine Ce ?_ ?_<;>intro hb|refine yyp ?_;try refine Ce ?_ ?_<;>intro hb|refine yy ?_|apply Cf 122;refine Ci (hc:=(kh6 gl a b l.length)) ?_;try refine Ce ?_ ?_<;>intro hb|apply ah;refine Cc Vu ?_|refine Cb λK hK=>?_|apply_assumption -exfalso -symm)
 all_goals (refine j1 (j8 ⟨?_,rfl⟩))
 all_goals simp only[aF,Cq, *,Bf,As,Bool.not_not,Bool.not_true,Bool.not_false]
 all_goals (try (simp_all;done))
theorem vp5 (x:Fo)(b:Bool)(h:FnE prog gl 176 [.d (dFo (x))] [] (λv H1=>v=.d (.bool b)/\H1=[])):
 FnE prog gl 202 [.d (dFo (x)),.ptr 5 0] [(5,.box [.clo (.func 176) [] []])] (λv H1=>v=.d (.bool (!b))/\H1=[(5,.box [.clo (.func 176) [] []])]):=by
 (refine j3 func202 ntmps202 results202 λw M E b0=>?_)
 (repeat' first|apply Ca 2;(refine Ck 2 ?_)|apply Ca 6;refine Ch (hc:=h) ?_;try refine Ce ?_ ?_<;>intro hb|refine yyp ?_;try refine Ce ?_ ?_<;>intro hb|refine yy ?_|apply ah;refine Cc [0,1,2,3,4,5,6] ?_|refine Cb λK hK=>?_|apply_assumption -exfalso -symm)
 all_goals (refine j1 (j8 ⟨?_,rfl⟩))
 all_goals simp only[aF, *,Bool.not_true,Bool.not_false]
theorem vp6 (q:Fo->Bool)(l:List Fo)(h:∀ (k:Nat) (hk:k<l.length),FnE prog gl 202 [.d (dFo (l[k])),.ptr 5 0] [(5,.box [.clo (.func 176) [] []])] (λv H1=>v=.d (.bool (q l[k]))/\H1=[(5,.box [.clo (.func 176) [] []])])):
 FnE prog gl 223 [.d (.list 6 (l.map (λx=>dFo (x)))),.clo (.func 202) [] [.ptr 5 0]] [(5,.box [.clo (.func 176) [] []])] (λv H1=>v=.d (.int .i64 (jf4 q l))/\H1=[(5,.box [.clo (.func 176) [] []])]):=by
 (refine j3 func223 ntmps223 results223 λw M E b0=>?_)
 refine k7 0 rfl λhn=>?_;simp only[Ab]at hn
 (repeat' first|refine yyp ?_;try refine Ce ?_ ?_<;>intro hb|refine yy ?_|apply ah;refine Cc Mf ?_|refine Cb λK hK=>?_|apply_assumption -exfalso -symm)
 refine k9 my8 [] (λk:Nat=>[(8,.d (.int .i64 k))]) (λ_=>[]) (λk=>k<=l.length/\jf4 q l=if jf4 q (l.drop k)<0 then -1 else jf4 q (l.drop k)+k) (λk=>l.length - k) 0 ⟨Ak _,by have:=ja0 q l;simp only[Ew];split<;>omega⟩ λk ⟨hk,hi⟩=>?_;dsimp only[Ac,Ae];have hlo:=ja0 q (l.drop (k+1));rcases Ai k l.length with hk2|hk2
 ·have hone:=h k hk2
  (repeat' first|apply Ca 16;refine Ch (hc:=hone) ?_;try refine Ce ?_ ?_<;>intro hb|refine yyp ?_;try refine Ce ?_ ?_<;>intro hb|refine yy ?_|apply ah;refine Cc Mf ?_|refine Cb λK hK=>?_|apply_assumption -exfalso -symm)
  ·(refine j1 (j8 ⟨?_,rfl⟩))
   rw[hi,l9 _ _ _ hk2,Ad hb];simp[aF]
  ·refine⟨k+1,⟨by omega,?_⟩,by omega,v6⟩;rw[hi,l9 _ _ _ hk2,Af (show ¬q l[k]=true by rw[hb];exact Bool.false_ne_true)];split<;>split<;>(try split)<;>omega
 ·(repeat' first|refine yyp ?_;try refine Ce ?_ ?_<;>intro hb|refine yy ?_|apply ah;refine Cc Mf ?_|refine Cb λK hK=>?_|apply_assumption -exfalso -symm)
  (refine j1 (j8 ⟨?_,rfl⟩))
  have:k=l.length:=by omega
  rw[hi,this,Fl];simp[aF,jf4]
theorem vp7 (q:Fo->Bool)(l:List Fo)(h:∀ (k:Nat) (hk:k<l.length),FnE prog gl 202 [.d (dFo (l[k])),.ptr 5 0] [(5,.box [.clo (.func 176) [] []])] (λv H1=>v=.d (.bool (q l[k]))/\H1=[(5,.box [.clo (.func 176) [] []])])):
 FnE prog gl 201 [.d (.list 6 (l.map (λx=>dFo (x)))),.clo (.func 202) [] [.ptr 5 0]] [(5,.box [.clo (.func 176) [] []])] (λv H1=>v=.d (.bool (l.any q))/\H1=[(5,.box [.clo (.func 176) [] []])]):=by
 have hix:=vp6 gl q l h;have hany:=jg2 q l
 (refine j3 func201 ntmps201 results201 λw M E b0=>?_)
 (repeat' first|apply Ca 7;refine Ch (hc:=hix) ?_|refine yyp ?_;try refine Ce ?_ ?_<;>intro hb|refine yy ?_|refine yy2 ?_ ?_<;>intro hcmp|apply ah;refine Cc Ug ?_|refine Cb λK hK=>?_|apply_assumption -exfalso -symm)
 all_goals (refine j1 (j8 ⟨?_,rfl⟩))
 all_goals simp only[aF,At,Am]
 all_goals first
  |exact(hany.1 (by omega)).symm
  |(symm;cases ha:l.any q with
   |false=>rfl
   |true=>exfalso;have:=hany.2 ha;omega)
theorem rt6 (p:Fo->Bool)(l:List Fo)(a b:Int)(h:∀ x∈l,FnE prog gl 176 [.d (dFo (x))] [] (λv H1=>v=.d (.bool (p x))/\H1=[])):
 FnE prog gl 175 [.d (.list 6 (l.map (λx=>dFo (x)))),.d (.agg [.int .i64 a,.int .i64 b]),.clo (.func 176) [] []] [] (λv H1=>v=.d (.bool (Cq l a b p))/\H1=[]):=by
 have hcf:=vp7 gl (λx=>!p x) l λk hk=>vp5 gl l[k] (p l[k]) (h _ (Ao _));rw[jo5]at hcf
 (refine j3 func175 ntmps175 results175 λw M E b0=>?_)
 (repeat' first|apply Ca 4;(refine Ck 4 ?_)|apply Ca 5;(refine Ck 5 ?_)|apply Ca 14;refine Ch (hc:=hcf) ?_;try refine Ce ?_ ?_<;>intro hb|refine yyp ?_;try refine Ce ?_ ?_<;>intro hb|refine yy ?_|apply Cf 122;refine Ci (hc:=(kh6 gl a b l.length)) ?_;try refine Ce ?_ ?_<;>intro hb|apply ah;refine Cc Vu ?_|refine Cb λK hK=>?_|apply_assumption -exfalso -symm)
 all_goals (refine j1 (j8 ⟨?_,rfl⟩))
 all_goals simp only[aF,Cq, *,Bf,As,Bool.not_not,Bool.not_true,Bool.not_false]
 all_goals (try (simp_all;done))
theorem vf2 (x:ByteArray)(b:Bool)(h:FnE prog gl 125 [.d (.str (x))] [] (λv H1=>v=.d (.bool b)/\H1=[])):
 FnE prog gl 203 [.d (.str (x)),.ptr 5 0] [(5,.box [.clo (.func 125) [] []])] (λv H1=>v=.d (.bool (!b))/\H1=[(5,.box [.clo (.func 125) [] []])]):=by
 (refine j3 func203 ntmps203 results203 λw M E b0=>?_)
 (repeat' first|apply Ca 6;refine Ch (hc:=h) ?_;try refine Ce ?_ ?_<;>intro hb|refine yyp ?_;try refine Ce ?_ ?_<;>intro hb|refine yy ?_|apply ah;refine Cc [0,1,3,4,5,6] ?_|refine Cb λK hK=>?_|apply_assumption -exfalso -symm)
 all_goals (refine j1 (j8 ⟨?_,rfl⟩))
 all_goals simp only[aF, *,Bool.not_true,Bool.not_false]
theorem vf3 (q:ByteArray->Bool)(l:List ByteArray)(h:∀ (k:Nat) (hk:k<l.length),FnE prog gl 203 [.d (.str (l[k])),.ptr 5 0] [(5,.box [.clo (.func 125) [] []])] (λv H1=>v=.d (.bool (q l[k]))/\H1=[(5,.box [.clo (.func 125) [] []])])):
 FnE prog gl 44 [.d (.list 1 (l.map (λx=>.str (x)))),.clo (.func 203) [] [.ptr 5 0]] [(5,.box [.clo (.func 125) [] []])] (λv H1=>v=.d (.int .i64 (jf4 q l))/\H1=[(5,.box [.clo (.func 125) [] []])]):=by
 (refine j3 func44 ntmps44 results44 λw M E b0=>?_)
 refine k7 0 rfl λhn=>?_;simp only[Ab]at hn
 (repeat' first|refine yyp ?_;try refine Ce ?_ ?_<;>intro hb|refine yy ?_|apply ah;refine Cc Mf ?_|refine Cb λK hK=>?_|apply_assumption -exfalso -symm)
 refine k9 my8 [] (λk:Nat=>[(8,.d (.int .i64 k))]) (λ_=>[]) (λk=>k<=l.length/\jf4 q l=if jf4 q (l.drop k)<0 then -1 else jf4 q (l.drop k)+k) (λk=>l.length - k) 0 ⟨Ak _,by have:=ja0 q l;simp only[Ew];split<;>omega⟩ λk ⟨hk,hi⟩=>?_;dsimp only[Ac,Ae];have hlo:=ja0 q (l.drop (k+1));rcases Ai k l.length with hk2|hk2
 ·have hone:=h k hk2
  (repeat' first|apply Ca 16;refine Ch (hc:=hone) ?_;try refine Ce ?_ ?_<;>intro hb|refine yyp ?_;try refine Ce ?_ ?_<;>intro hb|refine yy ?_|apply ah;refine Cc Mf ?_|refine Cb λK hK=>?_|apply_assumption -exfalso -symm)
  ·(refine j1 (j8 ⟨?_,rfl⟩))
   rw[hi,l9 _ _ _ hk2,Ad hb];simp[aF]
  ·refine⟨k+1,⟨by omega,?_⟩,by omega,v6⟩;rw[hi,l9 _ _ _ hk2,Af (show ¬q l[k]=true by rw[hb];exact Bool.false_ne_true)];split<;>split<;>(try split)<;>omega
 ·(repeat' first|refine yyp ?_;try refine Ce ?_ ?_<;>intro hb|refine yy ?_|apply ah;refine Cc Mf ?_|refine Cb λK hK=>?_|apply_assumption -exfalso -symm)
  (refine j1 (j8 ⟨?_,rfl⟩))
  have:k=l.length:=by omega
  rw[hi,this,Fl];simp[aF,jf4]
theorem vf4 (q:ByteArray->Bool)(l:List ByteArray)(h:∀ (k:Nat) (hk:k<l.length),FnE prog gl 203 [.d (.str (l[k])),.ptr 5 0] [(5,.box [.clo (.func 125) [] []])] (λv H1=>v=.d (.bool (q l[k]))/\H1=[(5,.box [.clo (.func 125) [] []])])):
 FnE prog gl 141 [.d (.list 1 (l.map (λx=>.str (x)))),.clo (.func 203) [] [.ptr 5 0]] [(5,.box [.clo (.func 125) [] []])] (λv H1=>v=.d (.bool (l.any q))/\H1=[(5,.box [.clo (.func 125) [] []])]):=by
 have hix:=vf3 gl q l h;have hany:=jg2 q l
 (refine j3 func141 ntmps141 results141 λw M E b0=>?_)
 (repeat' first|apply Ca 7;refine Ch (hc:=hix) ?_|refine yyp ?_;try refine Ce ?_ ?_<;>intro hb|refine yy ?_|refine yy2 ?_ ?_<;>intro hcmp|apply ah;refine Cc Ug ?_|refine Cb λK hK=>?_|apply_assumption -exfalso -symm)
 all_goals (refine j1 (j8 ⟨?_,rfl⟩))
 all_goals simp only[aF,At,Am]
 all_goals first
  |exact(hany.1 (by omega)).symm
  |(symm;cases ha:l.any q with
   |false=>rfl
   |true=>exfalso;have:=hany.2 ha;omega)
theorem rb5 (p:ByteArray->Bool)(l:List ByteArray)(a b:Int)(h:∀ x∈l,FnE prog gl 125 [.d (.str (x))] [] (λv H1=>v=.d (.bool (p x))/\H1=[])):
 FnE prog gl 177 [.d (.list 1 (l.map (λx=>.str (x)))),.d (.agg [.int .i64 a,.int .i64 b]),.clo (.func 125) [] []] [] (λv H1=>v=.d (.bool (Cq l a b p))/\H1=[]):=by
 have hcf:=vf4 gl (λx=>!p x) l λk hk=>vf2 gl l[k] (p l[k]) (h _ (Ao _));rw[jo5]at hcf
 (refine j3 func177 ntmps177 results177 λw M E b0=>?_)
 (repeat' first|apply Ca 4;(refine Ck 4 ?_)|apply Ca 5;(refine Ck 5 ?_)|apply Ca 14;refine Ch (hc:=hcf) ?_;try refine Ce ?_ ?_<;>intro hb|refine yyp ?_;try refine Ce ?_ ?_<;>intro hb|refine yy ?_|apply Cf 122;refine Ci (hc:=(kh6 gl a b l.length)) ?_;try refine Ce ?_ ?_<;>intro hb|apply ah;refine Cc Vu ?_|refine Cb λK hK=>?_|apply_assumption -exfalso -symm)
 all_goals (refine j1 (j8 ⟨?_,rfl⟩))
 all_goals simp only[aF,Cq, *,Bf,As,Bool.not_not,Bool.not_true,Bool.not_false]
 all_goals (try (simp_all;done))
theorem vf5 (x:Int)(b:Bool)(h:FnE prog gl 131 [.d (.int .i64 (x))] [] (λv H1=>v=.d (.bool b)/\H1=[])):
 FnE prog gl 171 [.d (.int .i64 (x)),.ptr 5 0] [(5,.box [.clo (.func 131) [] []])] (λv H1=>v=.d (.bool (!b))/\H1=[(5,.box [.clo (.func 131) [] []])]):=by
 (refine j3 func171 ntmps171 results171 λw M E b0=>?_)
 (repeat' first|apply Ca 6;refine Ch (hc:=h) ?_;try refine Ce ?_ ?_<;>intro hb|refine yyp ?_;try refine Ce ?_ ?_<;>intro hb|refine yy ?_|apply ah;refine Cc [0,1,3,4,5,6] ?_|refine Cb λK hK=>?_|apply_assumption -exfalso -symm)
 all_goals (refine j1 (j8 ⟨?_,rfl⟩))
 all_goals simp only[aF, *,Bool.not_true,Bool.not_false]
theorem vf6 (q:Int->Bool)(l:List Int)(h:∀ (k:Nat) (hk:k<l.length),FnE prog gl 171 [.d (.int .i64 (l[k])),.ptr 5 0] [(5,.box [.clo (.func 131) [] []])] (λv H1=>v=.d (.bool (q l[k]))/\H1=[(5,.box [.clo (.func 131) [] []])])):
 FnE prog gl 196 [.d (.list 1 (l.map (λx=>.int .i64 (x)))),.clo (.func 171) [] [.ptr 5 0]] [(5,.box [.clo (.func 131) [] []])] (λv H1=>v=.d (.int .i64 (jf4 q l))/\H1=[(5,.box [.clo (.func 131) [] []])]):=by
 (refine j3 func196 ntmps196 results196 λw M E b0=>?_)
 refine k7 0 rfl λhn=>?_;simp only[Ab]at hn
 (repeat' first|refine yyp ?_;try refine Ce ?_ ?_<;>intro hb|refine yy ?_|apply ah;refine Cc Mf ?_|refine Cb λK hK=>?_|apply_assumption -exfalso -symm)
 refine k9 my8 [] (λk:Nat=>[(8,.d (.int .i64 k))]) (λ_=>[]) (λk=>k<=l.length/\jf4 q l=if jf4 q (l.drop k)<0 then -1 else jf4 q (l.drop k)+k) (λk=>l.length - k) 0 ⟨Ak _,by have:=ja0 q l;simp only[Ew];split<;>omega⟩ λk ⟨hk,hi⟩=>?_;dsimp only[Ac,Ae];have hlo:=ja0 q (l.drop (k+1));rcases Ai k l.length with hk2|hk2
 ·have hone:=h k hk2
  (repeat' first|apply Ca 16;refine Ch (hc:=hone) ?_;try refine Ce ?_ ?_<;>intro hb|refine yyp ?_;try refine Ce ?_ ?_<;>intro hb|refine yy ?_|apply ah;refine Cc Mf ?_|refine Cb λK hK=>?_|apply_assumption -exfalso -symm)
  ·(refine j1 (j8 ⟨?_,rfl⟩))
   rw[hi,l9 _ _ _ hk2,Ad hb];simp[aF]
  ·refine⟨k+1,⟨by omega,?_⟩,by omega,v6⟩;rw[hi,l9 _ _ _ hk2,Af (show ¬q l[k]=true by rw[hb];exact Bool.false_ne_true)];split<;>split<;>(try split)<;>omega
 ·(repeat' first|refine yyp ?_;try refine Ce ?_ ?_<;>intro hb|refine yy ?_|apply ah;refine Cc Mf ?_|refine Cb λK hK=>?_|apply_assumption -exfalso -symm)
  (refine j1 (j8 ⟨?_,rfl⟩))
  have:k=l.length:=by omega
  rw[hi,this,Fl];simp[aF,jf4]
theorem vf7 (q:Int->Bool)(l:List Int)(h:∀ (k:Nat) (hk:k<l.length),FnE prog gl 171 [.d (.int .i64 (l[k])),.ptr 5 0] [(5,.box [.clo (.func 131) [] []])] (λv H1=>v=.d (.bool (q l[k]))/\H1=[(5,.box [.clo (.func 131) [] []])])):
 FnE prog gl 170 [.d (.list 1 (l.map (λx=>.int .i64 (x)))),.clo (.func 171) [] [.ptr 5 0]] [(5,.box [.clo (.func 131) [] []])] (λv H1=>v=.d (.bool (l.any q))/\H1=[(5,.box [.clo (.func 131) [] []])]):=by
 have hix:=vf6 gl q l h;have hany:=jg2 q l
 (refine j3 func170 ntmps170 results170 λw M E b0=>?_)
 (repeat' first|apply Ca 7;refine Ch (hc:=hix) ?_|refine yyp ?_;try refine Ce ?_ ?_<;>intro hb|refine yy ?_|refine yy2 ?_ ?_<;>intro hcmp|apply ah;refine Cc Ug ?_|refine Cb λK hK=>?_|apply_assumption -exfalso -symm)
 all_goals (refine j1 (j8 ⟨?_,rfl⟩))
 all_goals simp only[aF,At,Am]
 all_goals first
  |exact(hany.1 (by omega)).symm
  |(symm;cases ha:l.any q with
   |false=>rfl
   |true=>exfalso;have:=hany.2 ha;omega)
theorem rb6 (p:Int->Bool)(l:List Int)(a b:Int)(h:∀ x∈l,FnE prog gl 131 [.d (.int .i64 (x))] [] (λv H1=>v=.d (.bool (p x))/\H1=[])):
 FnE prog gl 130 [.d (.list 1 (l.map (λx=>.int .i64 (x)))),.d (.agg [.int .i64 a,.int .i64 b]),.clo (.func 131) [] []] [] (λv H1=>v=.d (.bool (Cq l a b p))/\H1=[]):=by
 have hcf:=vf7 gl (λx=>!p x) l λk hk=>vf5 gl l[k] (p l[k]) (h _ (Ao _));rw[jo5]at hcf
 (refine j3 func130 ntmps130 results130 λw M E b0=>?_)
 (repeat' first|apply Ca 4;(refine Ck 4 ?_)|apply Ca 5;(refine Ck 5 ?_)|apply Ca 14;refine Ch (hc:=hcf) ?_;try refine Ce ?_ ?_<;>intro hb|refine yyp ?_;try refine Ce ?_ ?_<;>intro hb|refine yy ?_|apply Cf 122;refine Ci (hc:=(kh6 gl a b l.length)) ?_;try refine Ce ?_ ?_<;>intro hb|apply ah;refine Cc Vu ?_|refine Cb λK hK=>?_|apply_assumption -exfalso -symm)
 all_goals (refine j1 (j8 ⟨?_,rfl⟩))
 all_goals simp only[aF,Cq, *,Bf,As,Bool.not_not,Bool.not_true,Bool.not_false]
 all_goals (try (simp_all;done))
theorem vp8 (q:Int->Bool)(l:List Int)(h:∀ (k:Nat) (hk:k<l.length),FnE prog gl 221 [.d (.int .u8 (l[k]))] [] (λv H1=>v=.d (.bool (q l[k]))/\H1=[])):
 FnE prog gl 230 [.d (.list 1 (l.map (λx=>.int .u8 (x)))),.clo (.func 221) [] []] [] (λv H1=>v=.d (.int .i64 (jf4 q l))/\H1=[]):=by
 (refine j3 func230 ntmps230 results230 λw M E b0=>?_)
 refine k7 0 rfl λhn=>?_;simp only[Ab]at hn
 (repeat' first|refine yyp ?_;try refine Ce ?_ ?_<;>intro hb|refine yy ?_|apply ah;refine Cc Mf ?_|refine Cb λK hK=>?_|apply_assumption -exfalso -symm)
 refine k9 my8 [] (λk:Nat=>[(8,.d (.int .i64 k))]) (λ_=>[]) (λk=>k<=l.length/\jf4 q l=if jf4 q (l.drop k)<0 then -1 else jf4 q (l.drop k)+k) (λk=>l.length - k) 0 ⟨Ak _,by have:=ja0 q l;simp only[Ew];split<;>omega⟩ λk ⟨hk,hi⟩=>?_;dsimp only[Ac,Ae];have hlo:=ja0 q (l.drop (k+1));rcases Ai k l.length with hk2|hk2
 ·have hone:=h k hk2
  (repeat' first|apply Ca 16;refine Ch (hc:=hone) ?_;try refine Ce ?_ ?_<;>intro hb|refine yyp ?_;try refine Ce ?_ ?_<;>intro hb|refine yy ?_|apply ah;refine Cc Mf ?_|refine Cb λK hK=>?_|apply_assumption -exfalso -symm)
  ·(refine j1 (j8 ⟨?_,rfl⟩))
   rw[hi,l9 _ _ _ hk2,Ad hb];simp[aF]
  ·refine⟨k+1,⟨by omega,?_⟩,by omega,v6⟩;rw[hi,l9 _ _ _ hk2,Af (show ¬q l[k]=true by rw[hb];exact Bool.false_ne_true)];split<;>split<;>(try split)<;>omega
 ·(repeat' first|refine yyp ?_;try refine Ce ?_ ?_<;>intro hb|refine yy ?_|apply ah;refine Cc Mf ?_|refine Cb λK hK=>?_|apply_assumption -exfalso -symm)
  (refine j1 (j8 ⟨?_,rfl⟩))
  have:k=l.length:=by omega
  rw[hi,this,Fl];simp[aF,jf4]
theorem vp9 (q:Int->Bool)(l:List Int)(h:∀ (k:Nat) (hk:k<l.length),FnE prog gl 221 [.d (.int .u8 (l[k]))] [] (λv H1=>v=.d (.bool (q l[k]))/\H1=[])):
 FnE prog gl 220 [.d (.list 1 (l.map (λx=>.int .u8 (x)))),.clo (.func 221) [] []] [] (λv H1=>v=.d (.bool (l.any q))/\H1=[]):=by
 have hix:=vp8 gl q l h;have hany:=jg2 q l
 (refine j3 func220 ntmps220 results220 λw M E b0=>?_)
 (repeat' first|apply Ca 7;refine Ch (hc:=hix) ?_|refine yyp ?_;try refine Ce ?_ ?_<;>intro hb|refine yy ?_|refine yy2 ?_ ?_<;>intro hcmp|apply ah;refine Cc Ug ?_|refine Cb λK hK=>?_|apply_assumption -exfalso -symm)
 all_goals (refine j1 (j8 ⟨?_,rfl⟩))
 all_goals simp only[aF,At,Am]
 all_goals first
  |exact(hany.1 (by omega)).symm
  |(symm;cases ha:l.any q with
   |false=>rfl
   |true=>exfalso;have:=hany.2 ha;omega)
theorem vq0 (tag:ByteArray)(items:List D)(q:Va->Bool)(l:List Va)(h:∀ (k:Nat) (hk:k<l.length),FnE prog gl 200 [.d (dVa (l[k])),.ptr 4 0] [(4,.box [.d (.str tag),.d (.list 1 items)])] (λv H1=>v=.d (.bool (q l[k]))/\H1=[(4,.box [.d (.str tag),.d (.list 1 items)])])):
 FnE prog gl 222 [.d (.list 2 (l.map (λx=>dVa (x)))),.clo (.func 200) [] [.ptr 4 0]] [(4,.box [.d (.str tag),.d (.list 1 items)])] (λv H1=>v=.d (.int .i64 (jf4 q l))/\H1=[(4,.box [.d (.str tag),.d (.list 1 items)])]):=by
 (refine j3 func222 ntmps222 results222 λw M E b0=>?_)
 refine k7 0 rfl λhn=>?_;simp only[Ab]at hn
 (repeat' first|refine yyp ?_;try refine Ce ?_ ?_<;>intro hb|refine yy ?_|apply ah;refine Cc Mf ?_|refine Cb λK hK=>?_|apply_assumption -exfalso -symm)
 refine k9 my8 [] (λk:Nat=>[(8,.d (.int .i64 k))]) (λ_=>[]) (λk=>k<=l.length/\jf4 q l=if jf4 q (l.drop k)<0 then -1 else jf4 q (l.drop k)+k) (λk=>l.length - k) 0 ⟨Ak _,by have:=ja0 q l;simp only[Ew];split<;>omega⟩ λk ⟨hk,hi⟩=>?_;dsimp only[Ac,Ae];have hlo:=ja0 q (l.drop (k+1));rcases Ai k l.length with hk2|hk2
 ·have hone:=h k hk2
  (repeat' first|apply Ca 16;refine Ch (hc:=hone) ?_;try refine Ce ?_ ?_<;>intro hb|refine yyp ?_;try refine Ce ?_ ?_<;>intro hb|refine yy ?_|apply ah;refine Cc Mf ?_|refine Cb λK hK=>?_|apply_assumption -exfalso -symm)
  ·(refine j1 (j8 ⟨?_,rfl⟩))
   rw[hi,l9 _ _ _ hk2,Ad hb];simp[aF]
  ·refine⟨k+1,⟨by omega,?_⟩,by omega,v6⟩;rw[hi,l9 _ _ _ hk2,Af (show ¬q l[k]=true by rw[hb];exact Bool.false_ne_true)];split<;>split<;>(try split)<;>omega
 ·(repeat' first|refine yyp ?_;try refine Ce ?_ ?_<;>intro hb|refine yy ?_|apply ah;refine Cc Mf ?_|refine Cb λK hK=>?_|apply_assumption -exfalso -symm)
  (refine j1 (j8 ⟨?_,rfl⟩))
  have:k=l.length:=by omega
  rw[hi,this,Fl];simp[aF,jf4]
theorem vq1 (tag:ByteArray)(items:List D)(q:Va->Bool)(l:List Va)(h:∀ (k:Nat) (hk:k<l.length),FnE prog gl 200 [.d (dVa (l[k])),.ptr 4 0] [(4,.box [.d (.str tag),.d (.list 1 items)])] (λv H1=>v=.d (.bool (q l[k]))/\H1=[(4,.box [.d (.str tag),.d (.list 1 items)])])):
 FnE prog gl 199 [.d (.list 2 (l.map (λx=>dVa (x)))),.clo (.func 200) [] [.ptr 4 0]] [(4,.box [.d (.str tag),.d (.list 1 items)])] (λv H1=>v=.d (.bool (l.any q))/\H1=[(4,.box [.d (.str tag),.d (.list 1 items)])]):=by
 have hix:=vq0 gl tag items q l h;have hany:=jg2 q l
 (refine j3 func199 ntmps199 results199 λw M E b0=>?_)
 (repeat' first|apply Ca 7;refine Ch (hc:=hix) ?_|refine yyp ?_;try refine Ce ?_ ?_<;>intro hb|refine yy ?_|refine yy2 ?_ ?_<;>intro hcmp|apply ah;refine Cc Ug ?_|refine Cb λK hK=>?_|apply_assumption -exfalso -symm)
 all_goals (refine j1 (j8 ⟨?_,rfl⟩))
 all_goals simp only[aF,At,Am]
 all_goals first
  |exact(hany.1 (by omega)).symm
  |(symm;cases ha:l.any q with
   |false=>rfl
   |true=>exfalso;have:=hany.2 ha;omega)
end
end Go.Proofs.YtklklgfpkpglgaaGreatDoor
