/- Parts. -/
import Derived.Test.YtklklgfpkpglgaaGreatDoorW14
set_option linter.all false
set_option maxRecDepth 100000
set_option maxHeartbeats 0
namespace Go.Proofs.YtklklgfpkpglgaaGreatDoor
open Go.RowKit Go.Proofs.Tryz Sc Lx
variable (gl:List (Nat × List D))
section
open Sc (isB ka4)
def je2 {α:Type}(p:α->Bool):List α->Int
 |[]=>-1
 |x::l=>if p x then 0 else if je2 p l<0 then -1 else je2 p l+1
theorem ja2 {α:Type}(p:α->Bool):∀ l:List α,-1<=je2 p l
 |[]=>by simp[je2]
 |x::l=>by
  have:=ja2 p l;simp only[je2];split
  ·omega
  ·split<;>omega
theorem g8 {α:Type}(p:α->Bool)(l:List α)(k:Nat)(hk:k<l.length):je2 p (l.drop k)=if p l[k] then 0 else if je2 p (l.drop (k+1))<0 then -1 else je2 p (l.drop (k+1))+1:=by
 rw[Bo hk];rfl
theorem jf0 {α:Type}(p:α->Bool):∀ l:List α,0<=je2 p l↔l.any p=true
 |[]=>by simp[je2]
 |x::l=>by
  have h1:=jf0 p l;have h2:=ja2 p l;simp only[je2,List.any_cons,Bq,<-h1];cases p x
  ·simp only[Az,if_false,false_or];split<;>omega
  ·simp
attribute [local irreducible] TR TC
theorem mc7 (l:List ByteArray)(y:ByteArray):FnD prog gl 103 [.d (.list 1 (l.map .str)),.d (.str y)] (λv=>v=.d (.int .i64 (je2 (isB y) l))):=by
 (refine j5 func103 ntmps103 results103 λw M=>?_)
 refine k7 0 rfl λhn=>?_;simp only[Aa]at hn
 (repeat' first|refine yyp ?_;try refine Ce ?_ ?_<;>intro hb|refine yy ?_|apply ah;refine Cc [0,1,4,5,6,7,8,9,16] ?_|refine Cb λK hK=>?_|apply_assumption -exfalso -symm)
 refine ji0 (λk:Nat=>⟨[(8,.d (.int .i64 k)),(7,.d (.int .i64 l.length)),(0,.d (.list 1 (l.map .str))),(1,.d (.str y))],[],gl⟩)
  (λk=>k<=l.length/\je2 (isB y) l=if je2 (isB y) (l.drop k)<0 then -1 else je2 (isB y) (l.drop k)+k) (λk=>l.length - k) 0 ⟨Ai _,by have:=ja2 (isB y) l;simp only[Ew];split<;>omega⟩ r9 λk ⟨hk,hi⟩=>?_
 have hlo:=ja2 (isB y) (l.drop (k+1))
 (repeat' first|refine yyp ?_;try refine Ce ?_ ?_<;>intro hb|refine yy ?_|refine yy2 ?_ ?_<;>intro hcmp|apply ah;refine Cc [0,1,4,5,6,7,8,9,16] ?_|refine Cb λK hK=>?_|apply_assumption -exfalso -symm)
 ·(refine j1 (j8 ?_))
  rw[hi,g8 _ _ _ (by omega),Ae (ka4.2 hcmp.symm)];simp[aF]
 ·refine⟨k+1,⟨by omega,?_⟩,by omega,r9⟩;have hne:¬isB y l[k]=true:=λh=>hcmp (ka4.1 h).symm;rw[hi,g8 _ _ _ (by omega),Af hne];split<;>split<;>(try split)<;>omega
 ·(refine j1 (j8 ?_))
  have:k=l.length:=by omega
  rw[hi,this,Fi];simp[aF,je2]
theorem n0 (l:List ByteArray)(y:ByteArray):FnD prog gl 62 [.d (.list 1 (l.map .str)),.d (.str y)] (λv=>v=.d (.bool (l.any (isB y)))):=by
 (refine j5 func62 ntmps62 results62 λw M=>?_)
 (repeat' first|refine yyp ?_;try refine Ce ?_ ?_<;>intro hb|refine yy ?_|refine yy2 ?_ ?_<;>intro hcmp|apply Cg 103;refine Ci (hc:=(mc7 gl l y)) ?_|apply ah;refine Cc [0,1,4,5,6,7] ?_|refine Cb λK hK=>?_|apply_assumption -exfalso -symm)
 all_goals
  (refine j1 (j8 ?_))
  simp only[aF,Aw,Aq];have h:=jf0 (isB y) l;cases ha:l.any (isB y) with
  |true=>first|rfl|(exfalso;have:=h.2 ha;omega)
  |false=>first|rfl|(exfalso;rw[ha]at h;have:=h.1 (by omega);cases this)
theorem ki3 (ns:List ByteArray)(σ:W)(s:ByteArray)(tw:Bool):FnE prog gl 61 [.d (.str s),.d (.bool tw),.ptr 905 0,.ptr 904 0,.ptr 903 0] (n7 (.check ns) σ)
 (λv H1=>v=.tup []/\H1=n7 (.check ns) (Sc.step σ s tw)):=by
 dsimp only[n7,Sc.step];rw[Ql];generalize Hz ns σ.ev=r;obtain⟨rn,re⟩:=r;dsimp only
 (refine j2 func61 ntmps61 results61 λw M E b0=>?_)
 (repeat' first|refine yyp ?_;try refine Ce ?_ ?_<;>intro hb|refine yy ?_|refine yy2 ?_ ?_<;>intro hcmp|apply Cg 62;refine Ci (hc:=(n0 gl ns s)) ?_;try refine Ce ?_ ?_<;>intro hb|apply ah;refine Cc [0,1,2,3,4,7,10,13] ?_|refine Cb λK hK=>?_|apply_assumption -exfalso -symm)
 all_goals try simp only[Ec]at hcmp
 all_goals simp only[*,if_true,if_false,Az,Bool.true_eq_false,or_true,or_false,true_or,false_or,and_true,and_false,true_and,false_and]
 all_goals exact n9 ⟨rfl,rfl⟩
end
section
def Li:List Nat:=[0,1,4,5,6,7,8,9,16]
def mk2:List Nat:=[4,5,8,9,10,11,12,13,14,15,16,17,18]
def Tw:List Nat:=[0,1,4,5,6,7]
def Vt:List Nat:=[0,1,2,4,5,6,7,8]
theorem jp7 {α:Type}(p:α->Bool):∀ l:List α,l.any (λx=>!p x)=!l.all p
 |[]=>rfl
 |x::l=>by rw[List.any_cons,Ei,jp7 p l,Bool.not_and]
attribute [local irreducible] TR TC
theorem rl5 (x:Ex)(b:Bool)(h:FnE prog gl 126 [.d (dEx (x))] [] (λv H1=>v=.d (.bool b)/\H1=[])):
 FnE prog gl 167 [.d (dEx (x)),.ptr 5 0] [(5,.box [.clo (.func 126) [] []])] (λv H1=>v=.d (.bool (!b))/\H1=[(5,.box [.clo (.func 126) [] []])]):=by
 simp only[k9]at h ⊢
 (refine j2 func167 ntmps167 results167 λw M E b0=>?_)
 (repeat' first|apply Ca 2;(refine Cm 2 ?_)|apply Ca 6;refine Ch (hc:=h) ?_;try refine Ce ?_ ?_<;>intro hb|refine yyp ?_;try refine Ce ?_ ?_<;>intro hb|refine yy ?_|apply ah;refine Cc [0,1,2,3,4,5,6] ?_|refine Cb λK hK=>?_|apply_assumption -exfalso -symm)
 all_goals (refine j1 (j6 ⟨?_,rfl⟩))
 all_goals simp only[aF, *,Bool.not_true,Bool.not_false]
theorem rl6 (q:Ex->Bool)(l:List Ex)(h:∀ (k:Nat) (hk:k<l.length),FnE prog gl 167 [.d (dEx (l[k])),.ptr 5 0] [(5,.box [.clo (.func 126) [] []])] (λv H1=>v=.d (.bool (q l[k]))/\H1=[(5,.box [.clo (.func 126) [] []])])):
 FnE prog gl 106 [.d (.list 6 (l.map (λx=>dEx (x)))),.clo (.func 167) [] [.ptr 5 0]] [(5,.box [.clo (.func 126) [] []])] (λv H1=>v=.d (.int .i64 (je2 q l))/\H1=[(5,.box [.clo (.func 126) [] []])]):=by
 simp only[k9]at h ⊢
 (refine j2 func106 ntmps106 results106 λw M E b0=>?_)
 refine k7 0 rfl λhn=>?_;simp only[Aa]at hn
 (repeat' first|refine yyp ?_;try refine Ce ?_ ?_<;>intro hb|refine yy ?_|apply ah;refine Cc Li ?_|refine Cb λK hK=>?_|apply_assumption -exfalso -symm)
 refine j9 mk2 [] (λk:Nat=>[(8,.d (.int .i64 k))]) (λ_=>[]) (λk=>k<=l.length/\je2 q l=if je2 q (l.drop k)<0 then -1 else je2 q (l.drop k)+k) (λk=>l.length - k) 0 ⟨Ai _,by have:=ja2 q l;simp only[Ew];split<;>omega⟩ λk ⟨hk,hi⟩=>?_;dsimp only[Ac,Ad];have hlo:=ja2 q (l.drop (k+1));rcases Ah k l.length with hk2|hk2
 ·have hone:=h k hk2
  (repeat' first|apply Ca 16;refine Ch (hc:=hone) ?_;try refine Ce ?_ ?_<;>intro hb|refine yyp ?_;try refine Ce ?_ ?_<;>intro hb|refine yy ?_|apply ah;refine Cc Li ?_|refine Cb λK hK=>?_|apply_assumption -exfalso -symm)
  ·(refine j1 (j6 ⟨?_,rfl⟩))
   rw[hi,g8 _ _ _ hk2,Ae hb];simp[aF]
  ·refine⟨k+1,⟨by omega,?_⟩,by omega,r9⟩;rw[hi,g8 _ _ _ hk2,Af (show ¬q l[k]=true by rw[hb];exact Fp)];split<;>split<;>(try split)<;>omega
 ·(repeat' first|refine yyp ?_;try refine Ce ?_ ?_<;>intro hb|refine yy ?_|apply ah;refine Cc Li ?_|refine Cb λK hK=>?_|apply_assumption -exfalso -symm)
  (refine j1 (j6 ⟨?_,rfl⟩))
  have:k=l.length:=by omega
  rw[hi,this,Fi];simp[aF,je2]
theorem rl7 (q:Ex->Bool)(l:List Ex)(h:∀ (k:Nat) (hk:k<l.length),FnE prog gl 167 [.d (dEx (l[k])),.ptr 5 0] [(5,.box [.clo (.func 126) [] []])] (λv H1=>v=.d (.bool (q l[k]))/\H1=[(5,.box [.clo (.func 126) [] []])])):
 FnE prog gl 166 [.d (.list 6 (l.map (λx=>dEx (x)))),.clo (.func 167) [] [.ptr 5 0]] [(5,.box [.clo (.func 126) [] []])] (λv H1=>v=.d (.bool (l.any q))/\H1=[(5,.box [.clo (.func 126) [] []])]):=by
 have hix:=rl6 gl q l h;have hany:=jf0 q l
 (refine j2 func166 ntmps166 results166 λw M E b0=>?_)
 (repeat' first|apply Ca 7;refine Ch (hc:=hix) ?_|refine yyp ?_;try refine Ce ?_ ?_<;>intro hb|refine yy ?_|refine yy2 ?_ ?_<;>intro hcmp|apply ah;refine Cc Tw ?_|refine Cb λK hK=>?_|apply_assumption -exfalso -symm)
 all_goals (refine j1 (j6 ⟨?_,rfl⟩))
 all_goals simp only[aF,Aw,Aq]
 all_goals first
  |exact(hany.1 (by omega)).symm
  |(symm;cases ha:l.any q with
   |false=>rfl
   |true=>exfalso;have:=hany.2 ha;omega)
theorem mc8 (p:Ex->Bool)(l:List Ex)(a b:Int)(h:∀ x∈l,FnE prog gl 126 [.d (dEx (x))] [] (λv H1=>v=.d (.bool (p x))/\H1=[])):
 FnE prog gl 128 [.d (.list 6 (l.map (λx=>dEx (x)))),.d (.agg [.int .i64 a,.int .i64 b]),.clo (.func 126) [] []] [] (λv H1=>v=.d (.bool (Co l a b p))/\H1=[]):=by
 have hcf:=rl7 gl (λx=>!p x) l λk hk=>rl5 gl l[k] (p l[k]) (h _ (At _));rw[jp7]at hcf
 (refine j2 func128 ntmps128 results128 λw M E b0=>?_)
 (repeat' first|apply Ca 4;(refine Cm 4 ?_)|apply Ca 5;(refine Cm 5 ?_)|apply Ca 14;refine Ch (hc:=hcf) ?_;try refine Ce ?_ ?_<;>intro hb|refine yyp ?_;try refine Ce ?_ ?_<;>intro hb|refine yy ?_|apply Cg 122;refine Ci (hc:=(kh4 gl a b l.length)) ?_;try refine Ce ?_ ?_<;>intro hb|apply ah;refine Cc Vt ?_|refine Cb λK hK=>?_|apply_assumption -exfalso -symm)
 all_goals (refine j1 (j6 ⟨?_,rfl⟩))
 all_goals simp only[aF,Co, *,Bf,Ay,Bool.not_not,Bool.not_true,Bool.not_false]
 all_goals (try (simp_all;done))
theorem rw7 (x:Ex)(b:Bool)(h:FnE prog gl 129 [.d (dEx (x))] [] (λv H1=>v=.d (.bool b)/\H1=[])):
 FnE prog gl 167 [.d (dEx (x)),.ptr 5 0] [(5,.box [.clo (.func 129) [] []])] (λv H1=>v=.d (.bool (!b))/\H1=[(5,.box [.clo (.func 129) [] []])]):=by
 simp only[k9]at h ⊢
 (refine j2 func167 ntmps167 results167 λw M E b0=>?_)
 (repeat' first|apply Ca 2;(refine Cm 2 ?_)|apply Ca 6;refine Ch (hc:=h) ?_;try refine Ce ?_ ?_<;>intro hb|refine yyp ?_;try refine Ce ?_ ?_<;>intro hb|refine yy ?_|apply ah;refine Cc [0,1,2,3,4,5,6] ?_|refine Cb λK hK=>?_|apply_assumption -exfalso -symm)
 all_goals (refine j1 (j6 ⟨?_,rfl⟩))
 all_goals simp only[aF, *,Bool.not_true,Bool.not_false]
theorem rw8 (q:Ex->Bool)(l:List Ex)(h:∀ (k:Nat) (hk:k<l.length),FnE prog gl 167 [.d (dEx (l[k])),.ptr 5 0] [(5,.box [.clo (.func 129) [] []])] (λv H1=>v=.d (.bool (q l[k]))/\H1=[(5,.box [.clo (.func 129) [] []])])):
 FnE prog gl 106 [.d (.list 6 (l.map (λx=>dEx (x)))),.clo (.func 167) [] [.ptr 5 0]] [(5,.box [.clo (.func 129) [] []])] (λv H1=>v=.d (.int .i64 (je2 q l))/\H1=[(5,.box [.clo (.func 129) [] []])]):=by
 simp only[k9]at h ⊢
 (refine j2 func106 ntmps106 results106 λw M E b0=>?_)
 refine k7 0 rfl λhn=>?_;simp only[Aa]at hn
 (repeat' first|refine yyp ?_;try refine Ce ?_ ?_<;>intro hb|refine yy ?_|apply ah;refine Cc Li ?_|refine Cb λK hK=>?_|apply_assumption -exfalso -symm)
 refine j9 mk2 [] (λk:Nat=>[(8,.d (.int .i64 k))]) (λ_=>[]) (λk=>k<=l.length/\je2 q l=if je2 q (l.drop k)<0 then -1 else je2 q (l.drop k)+k) (λk=>l.length - k) 0 ⟨Ai _,by have:=ja2 q l;simp only[Ew];split<;>omega⟩ λk ⟨hk,hi⟩=>?_;dsimp only[Ac,Ad];have hlo:=ja2 q (l.drop (k+1));rcases Ah k l.length with hk2|hk2
 ·have hone:=h k hk2
  (repeat' first|apply Ca 16;refine Ch (hc:=hone) ?_;try refine Ce ?_ ?_<;>intro hb|refine yyp ?_;try refine Ce ?_ ?_<;>intro hb|refine yy ?_|apply ah;refine Cc Li ?_|refine Cb λK hK=>?_|apply_assumption -exfalso -symm)
  ·(refine j1 (j6 ⟨?_,rfl⟩))
   rw[hi,g8 _ _ _ hk2,Ae hb];simp[aF]
  ·refine⟨k+1,⟨by omega,?_⟩,by omega,r9⟩;rw[hi,g8 _ _ _ hk2,Af (show ¬q l[k]=true by rw[hb];exact Fp)];split<;>split<;>(try split)<;>omega
 ·(repeat' first|refine yyp ?_;try refine Ce ?_ ?_<;>intro hb|refine yy ?_|apply ah;refine Cc Li ?_|refine Cb λK hK=>?_|apply_assumption -exfalso -symm)
  (refine j1 (j6 ⟨?_,rfl⟩))
  have:k=l.length:=by omega
  rw[hi,this,Fi];simp[aF,je2]
theorem rw9 (q:Ex->Bool)(l:List Ex)(h:∀ (k:Nat) (hk:k<l.length),FnE prog gl 167 [.d (dEx (l[k])),.ptr 5 0] [(5,.box [.clo (.func 129) [] []])] (λv H1=>v=.d (.bool (q l[k]))/\H1=[(5,.box [.clo (.func 129) [] []])])):
 FnE prog gl 166 [.d (.list 6 (l.map (λx=>dEx (x)))),.clo (.func 167) [] [.ptr 5 0]] [(5,.box [.clo (.func 129) [] []])] (λv H1=>v=.d (.bool (l.any q))/\H1=[(5,.box [.clo (.func 129) [] []])]):=by
 have hix:=rw8 gl q l h;have hany:=jf0 q l
 (refine j2 func166 ntmps166 results166 λw M E b0=>?_)
 (repeat' first|apply Ca 7;refine Ch (hc:=hix) ?_|refine yyp ?_;try refine Ce ?_ ?_<;>intro hb|refine yy ?_|refine yy2 ?_ ?_<;>intro hcmp|apply ah;refine Cc Tw ?_|refine Cb λK hK=>?_|apply_assumption -exfalso -symm)
 all_goals (refine j1 (j6 ⟨?_,rfl⟩))
 all_goals simp only[aF,Aw,Aq]
 all_goals first
  |exact(hany.1 (by omega)).symm
  |(symm;cases ha:l.any q with
   |false=>rfl
   |true=>exfalso;have:=hany.2 ha;omega)
theorem mp5 (p:Ex->Bool)(l:List Ex)(a b:Int)(h:∀ x∈l,FnE prog gl 129 [.d (dEx (x))] [] (λv H1=>v=.d (.bool (p x))/\H1=[])):
 FnE prog gl 128 [.d (.list 6 (l.map (λx=>dEx (x)))),.d (.agg [.int .i64 a,.int .i64 b]),.clo (.func 129) [] []] [] (λv H1=>v=.d (.bool (Co l a b p))/\H1=[]):=by
 have hcf:=rw9 gl (λx=>!p x) l λk hk=>rw7 gl l[k] (p l[k]) (h _ (At _));rw[jp7]at hcf
 (refine j2 func128 ntmps128 results128 λw M E b0=>?_)
 (repeat' first|apply Ca 4;(refine Cm 4 ?_)|apply Ca 5;(refine Cm 5 ?_)|apply Ca 14;refine Ch (hc:=hcf) ?_;try refine Ce ?_ ?_<;>intro hb|refine yyp ?_;try refine Ce ?_ ?_<;>intro hb|refine yy ?_|apply Cg 122;refine Ci (hc:=(kh4 gl a b l.length)) ?_;try refine Ce ?_ ?_<;>intro hb|apply ah;refine Cc Vt ?_|refine Cb λK hK=>?_|apply_assumption -exfalso -symm)
 all_goals (refine j1 (j6 ⟨?_,rfl⟩))
 all_goals simp only[aF,Co, *,Bf,Ay,Bool.not_not,Bool.not_true,Bool.not_false]
 all_goals (try (simp_all;done))
theorem vd8 (x:Fo)(b:Bool)(h:FnE prog gl 176 [.d (dFo (x))] [] (λv H1=>v=.d (.bool b)/\H1=[])):
 FnE prog gl 202 [.d (dFo (x)),.ptr 5 0] [(5,.box [.clo (.func 176) [] []])] (λv H1=>v=.d (.bool (!b))/\H1=[(5,.box [.clo (.func 176) [] []])]):=by
 (refine j2 func202 ntmps202 results202 λw M E b0=>?_)
 (repeat' first|apply Ca 2;(refine Cm 2 ?_)|apply Ca 6;refine Ch (hc:=h) ?_;try refine Ce ?_ ?_<;>intro hb|refine yyp ?_;try refine Ce ?_ ?_<;>intro hb|refine yy ?_|apply ah;refine Cc [0,1,2,3,4,5,6] ?_|refine Cb λK hK=>?_|apply_assumption -exfalso -symm)
 all_goals (refine j1 (j6 ⟨?_,rfl⟩))
 all_goals simp only[aF, *,Bool.not_true,Bool.not_false]
theorem vd9 (q:Fo->Bool)(l:List Fo)(h:∀ (k:Nat) (hk:k<l.length),FnE prog gl 202 [.d (dFo (l[k])),.ptr 5 0] [(5,.box [.clo (.func 176) [] []])] (λv H1=>v=.d (.bool (q l[k]))/\H1=[(5,.box [.clo (.func 176) [] []])])):
 FnE prog gl 223 [.d (.list 6 (l.map (λx=>dFo (x)))),.clo (.func 202) [] [.ptr 5 0]] [(5,.box [.clo (.func 176) [] []])] (λv H1=>v=.d (.int .i64 (je2 q l))/\H1=[(5,.box [.clo (.func 176) [] []])]):=by
 (refine j2 func223 ntmps223 results223 λw M E b0=>?_)
 refine k7 0 rfl λhn=>?_;simp only[Aa]at hn
 (repeat' first|refine yyp ?_;try refine Ce ?_ ?_<;>intro hb|refine yy ?_|apply ah;refine Cc Li ?_|refine Cb λK hK=>?_|apply_assumption -exfalso -symm)
 refine j9 mk2 [] (λk:Nat=>[(8,.d (.int .i64 k))]) (λ_=>[]) (λk=>k<=l.length/\je2 q l=if je2 q (l.drop k)<0 then -1 else je2 q (l.drop k)+k) (λk=>l.length - k) 0 ⟨Ai _,by have:=ja2 q l;simp only[Ew];split<;>omega⟩ λk ⟨hk,hi⟩=>?_;dsimp only[Ac,Ad];have hlo:=ja2 q (l.drop (k+1));rcases Ah k l.length with hk2|hk2
 ·have hone:=h k hk2
  (repeat' first|apply Ca 16;refine Ch (hc:=hone) ?_;try refine Ce ?_ ?_<;>intro hb|refine yyp ?_;try refine Ce ?_ ?_<;>intro hb|refine yy ?_|apply ah;refine Cc Li ?_|refine Cb λK hK=>?_|apply_assumption -exfalso -symm)
  ·(refine j1 (j6 ⟨?_,rfl⟩))
   rw[hi,g8 _ _ _ hk2,Ae hb];simp[aF]
  ·refine⟨k+1,⟨by omega,?_⟩,by omega,r9⟩;rw[hi,g8 _ _ _ hk2,Af (show ¬q l[k]=true by rw[hb];exact Fp)];split<;>split<;>(try split)<;>omega
 ·(repeat' first|refine yyp ?_;try refine Ce ?_ ?_<;>intro hb|refine yy ?_|apply ah;refine Cc Li ?_|refine Cb λK hK=>?_|apply_assumption -exfalso -symm)
  (refine j1 (j6 ⟨?_,rfl⟩))
  have:k=l.length:=by omega
  rw[hi,this,Fi];simp[aF,je2]
theorem ve0 (q:Fo->Bool)(l:List Fo)(h:∀ (k:Nat) (hk:k<l.length),FnE prog gl 202 [.d (dFo (l[k])),.ptr 5 0] [(5,.box [.clo (.func 176) [] []])] (λv H1=>v=.d (.bool (q l[k]))/\H1=[(5,.box [.clo (.func 176) [] []])])):
 FnE prog gl 201 [.d (.list 6 (l.map (λx=>dFo (x)))),.clo (.func 202) [] [.ptr 5 0]] [(5,.box [.clo (.func 176) [] []])] (λv H1=>v=.d (.bool (l.any q))/\H1=[(5,.box [.clo (.func 176) [] []])]):=by
 have hix:=vd9 gl q l h;have hany:=jf0 q l
 (refine j2 func201 ntmps201 results201 λw M E b0=>?_)
 (repeat' first|apply Ca 7;refine Ch (hc:=hix) ?_|refine yyp ?_;try refine Ce ?_ ?_<;>intro hb|refine yy ?_|refine yy2 ?_ ?_<;>intro hcmp|apply ah;refine Cc Tw ?_|refine Cb λK hK=>?_|apply_assumption -exfalso -symm)
 all_goals (refine j1 (j6 ⟨?_,rfl⟩))
 all_goals simp only[aF,Aw,Aq]
 all_goals first
  |exact(hany.1 (by omega)).symm
  |(symm;cases ha:l.any q with
   |false=>rfl
   |true=>exfalso;have:=hany.2 ha;omega)
theorem rl8 (p:Fo->Bool)(l:List Fo)(a b:Int)(h:∀ x∈l,FnE prog gl 176 [.d (dFo (x))] [] (λv H1=>v=.d (.bool (p x))/\H1=[])):
 FnE prog gl 175 [.d (.list 6 (l.map (λx=>dFo (x)))),.d (.agg [.int .i64 a,.int .i64 b]),.clo (.func 176) [] []] [] (λv H1=>v=.d (.bool (Co l a b p))/\H1=[]):=by
 have hcf:=ve0 gl (λx=>!p x) l λk hk=>vd8 gl l[k] (p l[k]) (h _ (At _));rw[jp7]at hcf
 (refine j2 func175 ntmps175 results175 λw M E b0=>?_)
 (repeat' first|apply Ca 4;(refine Cm 4 ?_)|apply Ca 5;(refine Cm 5 ?_)|apply Ca 14;refine Ch (hc:=hcf) ?_;try refine Ce ?_ ?_<;>intro hb|refine yyp ?_;try refine Ce ?_ ?_<;>intro hb|refine yy ?_|apply Cg 122;refine Ci (hc:=(kh4 gl a b l.length)) ?_;try refine Ce ?_ ?_<;>intro hb|apply ah;refine Cc Vt ?_|refine Cb λK hK=>?_|apply_assumption -exfalso -symm)
 all_goals (refine j1 (j6 ⟨?_,rfl⟩))
 all_goals simp only[aF,Co, *,Bf,Ay,Bool.not_not,Bool.not_true,Bool.not_false]
 all_goals (try (simp_all;done))
theorem rx0 (x:ByteArray)(b:Bool)(h:FnE prog gl 125 [.d (.str (x))] [] (λv H1=>v=.d (.bool b)/\H1=[])):
 FnE prog gl 203 [.d (.str (x)),.ptr 5 0] [(5,.box [.clo (.func 125) [] []])] (λv H1=>v=.d (.bool (!b))/\H1=[(5,.box [.clo (.func 125) [] []])]):=by
 (refine j2 func203 ntmps203 results203 λw M E b0=>?_)
 (repeat' first|apply Ca 6;refine Ch (hc:=h) ?_;try refine Ce ?_ ?_<;>intro hb|refine yyp ?_;try refine Ce ?_ ?_<;>intro hb|refine yy ?_|apply ah;refine Cc [0,1,3,4,5,6] ?_|refine Cb λK hK=>?_|apply_assumption -exfalso -symm)
 all_goals (refine j1 (j6 ⟨?_,rfl⟩))
 all_goals simp only[aF, *,Bool.not_true,Bool.not_false]
theorem rx1 (q:ByteArray->Bool)(l:List ByteArray)(h:∀ (k:Nat) (hk:k<l.length),FnE prog gl 203 [.d (.str (l[k])),.ptr 5 0] [(5,.box [.clo (.func 125) [] []])] (λv H1=>v=.d (.bool (q l[k]))/\H1=[(5,.box [.clo (.func 125) [] []])])):
 FnE prog gl 44 [.d (.list 1 (l.map (λx=>.str (x)))),.clo (.func 203) [] [.ptr 5 0]] [(5,.box [.clo (.func 125) [] []])] (λv H1=>v=.d (.int .i64 (je2 q l))/\H1=[(5,.box [.clo (.func 125) [] []])]):=by
 (refine j2 func44 ntmps44 results44 λw M E b0=>?_)
 refine k7 0 rfl λhn=>?_;simp only[Aa]at hn
 (repeat' first|refine yyp ?_;try refine Ce ?_ ?_<;>intro hb|refine yy ?_|apply ah;refine Cc Li ?_|refine Cb λK hK=>?_|apply_assumption -exfalso -symm)
 refine j9 mk2 [] (λk:Nat=>[(8,.d (.int .i64 k))]) (λ_=>[]) (λk=>k<=l.length/\je2 q l=if je2 q (l.drop k)<0 then -1 else je2 q (l.drop k)+k) (λk=>l.length - k) 0 ⟨Ai _,by have:=ja2 q l;simp only[Ew];split<;>omega⟩ λk ⟨hk,hi⟩=>?_;dsimp only[Ac,Ad];have hlo:=ja2 q (l.drop (k+1));rcases Ah k l.length with hk2|hk2
 ·have hone:=h k hk2
  (repeat' first|apply Ca 16;refine Ch (hc:=hone) ?_;try refine Ce ?_ ?_<;>intro hb|refine yyp ?_;try refine Ce ?_ ?_<;>intro hb|refine yy ?_|apply ah;refine Cc Li ?_|refine Cb λK hK=>?_|apply_assumption -exfalso -symm)
  ·(refine j1 (j6 ⟨?_,rfl⟩))
   rw[hi,g8 _ _ _ hk2,Ae hb];simp[aF]
  ·refine⟨k+1,⟨by omega,?_⟩,by omega,r9⟩;rw[hi,g8 _ _ _ hk2,Af (show ¬q l[k]=true by rw[hb];exact Fp)];split<;>split<;>(try split)<;>omega
 ·(repeat' first|refine yyp ?_;try refine Ce ?_ ?_<;>intro hb|refine yy ?_|apply ah;refine Cc Li ?_|refine Cb λK hK=>?_|apply_assumption -exfalso -symm)
  (refine j1 (j6 ⟨?_,rfl⟩))
  have:k=l.length:=by omega
  rw[hi,this,Fi];simp[aF,je2]
theorem rx2 (q:ByteArray->Bool)(l:List ByteArray)(h:∀ (k:Nat) (hk:k<l.length),FnE prog gl 203 [.d (.str (l[k])),.ptr 5 0] [(5,.box [.clo (.func 125) [] []])] (λv H1=>v=.d (.bool (q l[k]))/\H1=[(5,.box [.clo (.func 125) [] []])])):
 FnE prog gl 141 [.d (.list 1 (l.map (λx=>.str (x)))),.clo (.func 203) [] [.ptr 5 0]] [(5,.box [.clo (.func 125) [] []])] (λv H1=>v=.d (.bool (l.any q))/\H1=[(5,.box [.clo (.func 125) [] []])]):=by
 have hix:=rx1 gl q l h;have hany:=jf0 q l
 (refine j2 func141 ntmps141 results141 λw M E b0=>?_)
 (repeat' first|apply Ca 7;refine Ch (hc:=hix) ?_|refine yyp ?_;try refine Ce ?_ ?_<;>intro hb|refine yy ?_|refine yy2 ?_ ?_<;>intro hcmp|apply ah;refine Cc Tw ?_|refine Cb λK hK=>?_|apply_assumption -exfalso -symm)
 all_goals (refine j1 (j6 ⟨?_,rfl⟩))
 all_goals simp only[aF,Aw,Aq]
 all_goals first
  |exact(hany.1 (by omega)).symm
  |(symm;cases ha:l.any q with
   |false=>rfl
   |true=>exfalso;have:=hany.2 ha;omega)
theorem qw1 (p:ByteArray->Bool)(l:List ByteArray)(a b:Int)(h:∀ x∈l,FnE prog gl 125 [.d (.str (x))] [] (λv H1=>v=.d (.bool (p x))/\H1=[])):
 FnE prog gl 177 [.d (.list 1 (l.map (λx=>.str (x)))),.d (.agg [.int .i64 a,.int .i64 b]),.clo (.func 125) [] []] [] (λv H1=>v=.d (.bool (Co l a b p))/\H1=[]):=by
 have hcf:=rx2 gl (λx=>!p x) l λk hk=>rx0 gl l[k] (p l[k]) (h _ (At _));rw[jp7]at hcf
 (refine j2 func177 ntmps177 results177 λw M E b0=>?_)
 (repeat' first|apply Ca 4;(refine Cm 4 ?_)|apply Ca 5;(refine Cm 5 ?_)|apply Ca 14;refine Ch (hc:=hcf) ?_;try refine Ce ?_ ?_<;>intro hb|refine yyp ?_;try refine Ce ?_ ?_<;>intro hb|refine yy ?_|apply Cg 122;refine Ci (hc:=(kh4 gl a b l.length)) ?_;try refine Ce ?_ ?_<;>intro hb|apply ah;refine Cc Vt ?_|refine Cb λK hK=>?_|apply_assumption -exfalso -symm)
 all_goals (refine j1 (j6 ⟨?_,rfl⟩))
 all_goals simp only[aF,Co, *,Bf,Ay,Bool.not_not,Bool.not_true,Bool.not_false]
 all_goals (try (simp_all;done))
theorem rx3 (x:Int)(b:Bool)(h:FnE prog gl 131 [.d (.int .i64 (x))] [] (λv H1=>v=.d (.bool b)/\H1=[])):
 FnE prog gl 171 [.d (.int .i64 (x)),.ptr 5 0] [(5,.box [.clo (.func 131) [] []])] (λv H1=>v=.d (.bool (!b))/\H1=[(5,.box [.clo (.func 131) [] []])]):=by
 (refine j2 func171 ntmps171 results171 λw M E b0=>?_)
 (repeat' first|apply Ca 6;refine Ch (hc:=h) ?_;try refine Ce ?_ ?_<;>intro hb|refine yyp ?_;try refine Ce ?_ ?_<;>intro hb|refine yy ?_|apply ah;refine Cc [0,1,3,4,5,6] ?_|refine Cb λK hK=>?_|apply_assumption -exfalso -symm)
 all_goals (refine j1 (j6 ⟨?_,rfl⟩))
 all_goals simp only[aF, *,Bool.not_true,Bool.not_false]
theorem rx4 (q:Int->Bool)(l:List Int)(h:∀ (k:Nat) (hk:k<l.length),FnE prog gl 171 [.d (.int .i64 (l[k])),.ptr 5 0] [(5,.box [.clo (.func 131) [] []])] (λv H1=>v=.d (.bool (q l[k]))/\H1=[(5,.box [.clo (.func 131) [] []])])):
 FnE prog gl 196 [.d (.list 1 (l.map (λx=>.int .i64 (x)))),.clo (.func 171) [] [.ptr 5 0]] [(5,.box [.clo (.func 131) [] []])] (λv H1=>v=.d (.int .i64 (je2 q l))/\H1=[(5,.box [.clo (.func 131) [] []])]):=by
 (refine j2 func196 ntmps196 results196 λw M E b0=>?_)
 refine k7 0 rfl λhn=>?_;simp only[Aa]at hn
 (repeat' first|refine yyp ?_;try refine Ce ?_ ?_<;>intro hb|refine yy ?_|apply ah;refine Cc Li ?_|refine Cb λK hK=>?_|apply_assumption -exfalso -symm)
 refine j9 mk2 [] (λk:Nat=>[(8,.d (.int .i64 k))]) (λ_=>[]) (λk=>k<=l.length/\je2 q l=if je2 q (l.drop k)<0 then -1 else je2 q (l.drop k)+k) (λk=>l.length - k) 0 ⟨Ai _,by have:=ja2 q l;simp only[Ew];split<;>omega⟩ λk ⟨hk,hi⟩=>?_;dsimp only[Ac,Ad];have hlo:=ja2 q (l.drop (k+1));rcases Ah k l.length with hk2|hk2
 ·have hone:=h k hk2
  (repeat' first|apply Ca 16;refine Ch (hc:=hone) ?_;try refine Ce ?_ ?_<;>intro hb|refine yyp ?_;try refine Ce ?_ ?_<;>intro hb|refine yy ?_|apply ah;refine Cc Li ?_|refine Cb λK hK=>?_|apply_assumption -exfalso -symm)
  ·(refine j1 (j6 ⟨?_,rfl⟩))
   rw[hi,g8 _ _ _ hk2,Ae hb];simp[aF]
  ·refine⟨k+1,⟨by omega,?_⟩,by omega,r9⟩;rw[hi,g8 _ _ _ hk2,Af (show ¬q l[k]=true by rw[hb];exact Fp)];split<;>split<;>(try split)<;>omega
 ·(repeat' first|refine yyp ?_;try refine Ce ?_ ?_<;>intro hb|refine yy ?_|apply ah;refine Cc Li ?_|refine Cb λK hK=>?_|apply_assumption -exfalso -symm)
  (refine j1 (j6 ⟨?_,rfl⟩))
  have:k=l.length:=by omega
  rw[hi,this,Fi];simp[aF,je2]
theorem rx5 (q:Int->Bool)(l:List Int)(h:∀ (k:Nat) (hk:k<l.length),FnE prog gl 171 [.d (.int .i64 (l[k])),.ptr 5 0] [(5,.box [.clo (.func 131) [] []])] (λv H1=>v=.d (.bool (q l[k]))/\H1=[(5,.box [.clo (.func 131) [] []])])):
 FnE prog gl 170 [.d (.list 1 (l.map (λx=>.int .i64 (x)))),.clo (.func 171) [] [.ptr 5 0]] [(5,.box [.clo (.func 131) [] []])] (λv H1=>v=.d (.bool (l.any q))/\H1=[(5,.box [.clo (.func 131) [] []])]):=by
 have hix:=rx4 gl q l h;have hany:=jf0 q l
 (refine j2 func170 ntmps170 results170 λw M E b0=>?_)
 (repeat' first|apply Ca 7;refine Ch (hc:=hix) ?_|refine yyp ?_;try refine Ce ?_ ?_<;>intro hb|refine yy ?_|refine yy2 ?_ ?_<;>intro hcmp|apply ah;refine Cc Tw ?_|refine Cb λK hK=>?_|apply_assumption -exfalso -symm)
 all_goals (refine j1 (j6 ⟨?_,rfl⟩))
 all_goals simp only[aF,Aw,Aq]
 all_goals first
  |exact(hany.1 (by omega)).symm
  |(symm;cases ha:l.any q with
   |false=>rfl
   |true=>exfalso;have:=hany.2 ha;omega)
theorem qw2 (p:Int->Bool)(l:List Int)(a b:Int)(h:∀ x∈l,FnE prog gl 131 [.d (.int .i64 (x))] [] (λv H1=>v=.d (.bool (p x))/\H1=[])):
 FnE prog gl 130 [.d (.list 1 (l.map (λx=>.int .i64 (x)))),.d (.agg [.int .i64 a,.int .i64 b]),.clo (.func 131) [] []] [] (λv H1=>v=.d (.bool (Co l a b p))/\H1=[]):=by
 have hcf:=rx5 gl (λx=>!p x) l λk hk=>rx3 gl l[k] (p l[k]) (h _ (At _));rw[jp7]at hcf
 (refine j2 func130 ntmps130 results130 λw M E b0=>?_)
 (repeat' first|apply Ca 4;(refine Cm 4 ?_)|apply Ca 5;(refine Cm 5 ?_)|apply Ca 14;refine Ch (hc:=hcf) ?_;try refine Ce ?_ ?_<;>intro hb|refine yyp ?_;try refine Ce ?_ ?_<;>intro hb|refine yy ?_|apply Cg 122;refine Ci (hc:=(kh4 gl a b l.length)) ?_;try refine Ce ?_ ?_<;>intro hb|apply ah;refine Cc Vt ?_|refine Cb λK hK=>?_|apply_assumption -exfalso -symm)
 all_goals (refine j1 (j6 ⟨?_,rfl⟩))
 all_goals simp only[aF,Co, *,Bf,Ay,Bool.not_not,Bool.not_true,Bool.not_false]
 all_goals (try (simp_all;done))
theorem ve1 (q:Int->Bool)(l:List Int)(h:∀ (k:Nat) (hk:k<l.length),FnE prog gl 221 [.d (.int .u8 (l[k]))] [] (λv H1=>v=.d (.bool (q l[k]))/\H1=[])):
 FnE prog gl 230 [.d (.list 1 (l.map (λx=>.int .u8 (x)))),.clo (.func 221) [] []] [] (λv H1=>v=.d (.int .i64 (je2 q l))/\H1=[]):=by
 (refine j2 func230 ntmps230 results230 λw M E b0=>?_)
 refine k7 0 rfl λhn=>?_;simp only[Aa]at hn
 (repeat' first|refine yyp ?_;try refine Ce ?_ ?_<;>intro hb|refine yy ?_|apply ah;refine Cc Li ?_|refine Cb λK hK=>?_|apply_assumption -exfalso -symm)
 refine j9 mk2 [] (λk:Nat=>[(8,.d (.int .i64 k))]) (λ_=>[]) (λk=>k<=l.length/\je2 q l=if je2 q (l.drop k)<0 then -1 else je2 q (l.drop k)+k) (λk=>l.length - k) 0 ⟨Ai _,by have:=ja2 q l;simp only[Ew];split<;>omega⟩ λk ⟨hk,hi⟩=>?_;dsimp only[Ac,Ad];have hlo:=ja2 q (l.drop (k+1));rcases Ah k l.length with hk2|hk2
 ·have hone:=h k hk2
  (repeat' first|apply Ca 16;refine Ch (hc:=hone) ?_;try refine Ce ?_ ?_<;>intro hb|refine yyp ?_;try refine Ce ?_ ?_<;>intro hb|refine yy ?_|apply ah;refine Cc Li ?_|refine Cb λK hK=>?_|apply_assumption -exfalso -symm)
  ·(refine j1 (j6 ⟨?_,rfl⟩))
   rw[hi,g8 _ _ _ hk2,Ae hb];simp[aF]
  ·refine⟨k+1,⟨by omega,?_⟩,by omega,r9⟩;rw[hi,g8 _ _ _ hk2,Af (show ¬q l[k]=true by rw[hb];exact Fp)];split<;>split<;>(try split)<;>omega
 ·(repeat' first|refine yyp ?_;try refine Ce ?_ ?_<;>intro hb|refine yy ?_|apply ah;refine Cc Li ?_|refine Cb λK hK=>?_|apply_assumption -exfalso -symm)
  (refine j1 (j6 ⟨?_,rfl⟩))
  have:k=l.length:=by omega
  rw[hi,this,Fi];simp[aF,je2]
theorem ve2 (q:Int->Bool)(l:List Int)(h:∀ (k:Nat) (hk:k<l.length),FnE prog gl 221 [.d (.int .u8 (l[k]))] [] (λv H1=>v=.d (.bool (q l[k]))/\H1=[])):
 FnE prog gl 220 [.d (.list 1 (l.map (λx=>.int .u8 (x)))),.clo (.func 221) [] []] [] (λv H1=>v=.d (.bool (l.any q))/\H1=[]):=by
 have hix:=ve1 gl q l h;have hany:=jf0 q l
 (refine j2 func220 ntmps220 results220 λw M E b0=>?_)
 (repeat' first|apply Ca 7;refine Ch (hc:=hix) ?_|refine yyp ?_;try refine Ce ?_ ?_<;>intro hb|refine yy ?_|refine yy2 ?_ ?_<;>intro hcmp|apply ah;refine Cc Tw ?_|refine Cb λK hK=>?_|apply_assumption -exfalso -symm)
 all_goals (refine j1 (j6 ⟨?_,rfl⟩))
 all_goals simp only[aF,Aw,Aq]
 all_goals first
  |exact(hany.1 (by omega)).symm
  |(symm;cases ha:l.any q with
   |false=>rfl
   |true=>exfalso;have:=hany.2 ha;omega)
theorem ve3 (tag:ByteArray)(items:List D)(q:Va->Bool)(l:List Va)(h:∀ (k:Nat) (hk:k<l.length),FnE prog gl 200 [.d (dVa (l[k])),.ptr 4 0] [(4,.box [.d (.str tag),.d (.list 1 items)])] (λv H1=>v=.d (.bool (q l[k]))/\H1=[(4,.box [.d (.str tag),.d (.list 1 items)])])):
 FnE prog gl 222 [.d (.list 2 (l.map (λx=>dVa (x)))),.clo (.func 200) [] [.ptr 4 0]] [(4,.box [.d (.str tag),.d (.list 1 items)])] (λv H1=>v=.d (.int .i64 (je2 q l))/\H1=[(4,.box [.d (.str tag),.d (.list 1 items)])]):=by
 (refine j2 func222 ntmps222 results222 λw M E b0=>?_)
 refine k7 0 rfl λhn=>?_;simp only[Aa]at hn
 (repeat' first|refine yyp ?_;try refine Ce ?_ ?_<;>intro hb|refine yy ?_|apply ah;refine Cc Li ?_|refine Cb λK hK=>?_|apply_assumption -exfalso -symm)
 refine j9 mk2 [] (λk:Nat=>[(8,.d (.int .i64 k))]) (λ_=>[]) (λk=>k<=l.length/\je2 q l=if je2 q (l.drop k)<0 then -1 else je2 q (l.drop k)+k) (λk=>l.length - k) 0 ⟨Ai _,by have:=ja2 q l;simp only[Ew];split<;>omega⟩ λk ⟨hk,hi⟩=>?_;dsimp only[Ac,Ad];have hlo:=ja2 q (l.drop (k+1));rcases Ah k l.length with hk2|hk2
 ·have hone:=h k hk2
  (repeat' first|apply Ca 16;refine Ch (hc:=hone) ?_;try refine Ce ?_ ?_<;>intro hb|refine yyp ?_;try refine Ce ?_ ?_<;>intro hb|refine yy ?_|apply ah;refine Cc Li ?_|refine Cb λK hK=>?_|apply_assumption -exfalso -symm)
  ·(refine j1 (j6 ⟨?_,rfl⟩))
   rw[hi,g8 _ _ _ hk2,Ae hb];simp[aF]
  ·refine⟨k+1,⟨by omega,?_⟩,by omega,r9⟩;rw[hi,g8 _ _ _ hk2,Af (show ¬q l[k]=true by rw[hb];exact Fp)];split<;>split<;>(try split)<;>omega
 ·(repeat' first|refine yyp ?_;try refine Ce ?_ ?_<;>intro hb|refine yy ?_|apply ah;refine Cc Li ?_|refine Cb λK hK=>?_|apply_assumption -exfalso -symm)
  (refine j1 (j6 ⟨?_,rfl⟩))
  have:k=l.length:=by omega
  rw[hi,this,Fi];simp[aF,je2]
theorem ve4 (tag:ByteArray)(items:List D)(q:Va->Bool)(l:List Va)(h:∀ (k:Nat) (hk:k<l.length),FnE prog gl 200 [.d (dVa (l[k])),.ptr 4 0] [(4,.box [.d (.str tag),.d (.list 1 items)])] (λv H1=>v=.d (.bool (q l[k]))/\H1=[(4,.box [.d (.str tag),.d (.list 1 items)])])):
 FnE prog gl 199 [.d (.list 2 (l.map (λx=>dVa (x)))),.clo (.func 200) [] [.ptr 4 0]] [(4,.box [.d (.str tag),.d (.list 1 items)])] (λv H1=>v=.d (.bool (l.any q))/\H1=[(4,.box [.d (.str tag),.d (.list 1 items)])]):=by
 have hix:=ve3 gl tag items q l h;have hany:=jf0 q l
 (refine j2 func199 ntmps199 results199 λw M E b0=>?_)
 (repeat' first|apply Ca 7;refine Ch (hc:=hix) ?_|refine yyp ?_;try refine Ce ?_ ?_<;>intro hb|refine yy ?_|refine yy2 ?_ ?_<;>intro hcmp|apply ah;refine Cc Tw ?_|refine Cb λK hK=>?_|apply_assumption -exfalso -symm)
 all_goals (refine j1 (j6 ⟨?_,rfl⟩))
 all_goals simp only[aF,Aw,Aq]
 all_goals first
  |exact(hany.1 (by omega)).symm
  |(symm;cases ha:l.any q with
   |false=>rfl
   |true=>exfalso;have:=hany.2 ha;omega)
end
section
def Xg:List Nat:=[0,1,4,5,6,7,13]
def Sc.W.room (σ:W)(m:Nat):Prop:=σ.ev.length+m<=1000000000
def Sc.aA (σ:W)(s:ByteArray):ByteArray × W:=match (σ.env s).getLast? with
 |some x=>(x.aD,σ)
 |none=>(s,Sc.step σ s false)
attribute [local irreducible] TR TC
theorem jm3 (k:Sc.Kind)(σ:W)(s:ByteArray)(hr:σ.room 1):FnE prog gl 46 [.ptr 900 0,.d (.str s)] (HW k σ)
 (λv H1=>v=.d (.str (aA σ s).1)/\H1=HW k (aA σ s).2):=by
 unfold W.room at hr;have hf:=mj2 gl k σ s;unfold aA;cases hg:(σ.env s).getLast? with
 |some x=>
  have he:(σ.env s).isEmpty=false:=by
   cases hl:σ.env s with
   |nil=>rw[hl]at hg;cases hg
   |cons=>rfl
  rw[hg,he]at hf;cases k
  all_goals dsimp only[HW,ja9,n7,Option.getD_some,Bool.not_false]at hf ⊢
  all_goals (refine j2 func46 ntmps46 results46 λw M E b0=>?_)
  all_goals (repeat' first|apply Ca 10;refine Ch (hc:=hf) ?_|apply Ca 5;(refine j3 5 ?_)|refine yyp ?_;try refine Ce ?_ ?_<;>intro hb|refine yy ?_|apply ah;refine Cc Xg ?_|refine Cb λK hK=>?_|apply_assumption -exfalso -symm)
  all_goals (refine j1 (j6 ⟨?_,rfl⟩))
  all_goals rfl
 |none=>
  have he:σ.env s=[]:=List.getLast?_eq_none_iff.1 hg;rw[he]at hf;cases k with
  |free=>
   have hm:=kt8 gl σ s false (by omega);dsimp only[HW,ja9,n7,Sc.step,List.getLast?_nil,Option.getD_none,List.isEmpty_nil,Bool.not_true]at hf hm ⊢;generalize Hr (σ.ev++[(s,false)])=r at hm ⊢
   (refine j2 func46 ntmps46 results46 λw M E b0=>?_)
   (repeat' first|apply Ca 10;refine Ch (hc:=hf) ?_|apply Ca 5;(refine j3 5 ?_)|apply Ca 21;refine Ch (hc:=hm) ?_|refine yyp ?_;try refine Ce ?_ ?_<;>intro hb|refine yy ?_|apply ah;refine Cc Xg ?_|refine Cb λK hK=>?_|apply_assumption -exfalso -symm)
   (refine j1 (j6 ⟨?_,rfl⟩))
   rfl
  |none=>
   have hm:=ka5 gl s false;dsimp only[HW,ja9,n7,Sc.step,List.getLast?_nil,Option.getD_none,List.isEmpty_nil,Bool.not_true]at hf hm ⊢
   (refine j2 func46 ntmps46 results46 λw M E b0=>?_)
   (repeat' first|apply Ca 10;refine Ch (hc:=hf) ?_|apply Ca 5;(refine j3 5 ?_)|apply Ca 21;refine Ch (hc:=hm) ?_|refine yyp ?_;try refine Ce ?_ ?_<;>intro hb|refine yy ?_|apply ah;refine Cc Xg ?_|refine Cb λK hK=>?_|apply_assumption -exfalso -symm)
   (refine j1 (j6 ⟨?_,rfl⟩))
   rfl
  |check ns=>
   have hm:=ki3 gl ns σ s false;dsimp only[HW,ja9,n7,Sc.step,List.getLast?_nil,Option.getD_none,List.isEmpty_nil,Bool.not_true]at hf hm ⊢;generalize Hz ns (σ.ev++[(s,false)])=r at hm ⊢
   (refine j2 func46 ntmps46 results46 λw M E b0=>?_)
   (repeat' first|apply Ca 10;refine Ch (hc:=hf) ?_|apply Ca 5;(refine j3 5 ?_)|apply Ca 21;refine Ch (hc:=hm) ?_|refine yyp ?_;try refine Ce ?_ ?_<;>intro hb|refine yy ?_|apply ah;refine Cc Xg ?_|refine Cb λK hK=>?_|apply_assumption -exfalso -symm)
   (refine j1 (j6 ⟨?_,rfl⟩))
   rfl
end
section
def Rz:List Nat:=[0,1,4,5,7,10,14,15,16,17]
def Dm (kind:Int):Bool:=kind == 4 || kind == 5 || kind == 9
mutual
def j4 (σ:W):Ex->Ex × W
 |.mk kind op ty n s l=>
  let r:=if Dm kind then aA σ s else (s,σ)
  let q:=z1 r.2 l
  (.mk kind op ty n r.1 q.1,q.2)
def z1 (σ:W):List Ex->List Ex × W
 |[]=>([],σ)
 |e::l=>((j4 σ e).1::(z1 (j4 σ e).2 l).1,(z1 (j4 σ e).2 l).2)
end
def y9 {α:Type}(f:W->α->α × W)(σ:W):List α->List α × W
 |[]=>([],σ)
 |e::l=>((f σ e).1::(y9 f (f σ e).2 l).1,(y9 f (f σ e).2 l).2)
theorem p8 {α:Type}(f:W->α->α × W):∀ (l:List α) (σ:W) (j:Nat) (hj:j<l.length),
 (y9 f σ (l.take (j+1)))=((y9 f σ (l.take j)).1++[(f (y9 f σ (l.take j)).2 l[j]).1],(f (y9 f σ (l.take j)).2 l[j]).2)
 |[],_,_,h=>by simp at h
 |x::l,σ,0,_=>by simp[y9]
 |x::l,σ,j+1,h=>by
  have:=p8 f l (f σ x).2 j (by simpa using h);simp only[Fb,y9,this,Fd,Ac]
theorem ja8 {α:Type}(f:W->α->α × W):∀ (l:List α) (σ:W),(y9 f σ l).1.length=l.length
 |[],_=>rfl
 |x::l,σ=>by simp[y9,ja8 f l]
theorem jj2:∀ (l:List Ex) (σ:W),z1 σ l=y9 j4 σ l
 |[],σ=>by simp[z1,y9]
 |e::l,σ=>by simp only[z1,y9,jj2 l]
attribute [local irreducible] TR TC
theorem kd2 (k:Sc.Kind)(l:List Ex)(σ:W)(hl:l.length<=1000000000)
 (h1:∀ (j:Nat) (hj:j<l.length),FnE prog gl 48 [.ptr 900 0,.d (dEx l[j])] (HW k (y9 j4 σ (l.take j)).2)
   (λv H1=>v=.d (dEx (j4 (y9 j4 σ (l.take j)).2 l[j]).1)/\H1=HW k (j4 (y9 j4 σ (l.take j)).2 l[j]).2)):
 FnE prog gl 49 [.d (.list 6 (l.map dEx)),.clo (.func 48) [.ptr 900 0] []] (HW k σ)
  (λv H1=>v=.d (.list 6 ((y9 j4 σ l).1.map dEx))/\H1=HW k (y9 j4 σ l).2):=by
 simp only[k9]at h1 ⊢;cases k
 all_goals dsimp only[HW,ja9,n7]at h1 ⊢
 case free=>
  (refine j2 func49 ntmps49 results49 λw M E b0=>?_)
  (repeat' first|apply Ca 13;(refine jc9 13 ?_)|refine yyp ?_;try refine Ce ?_ ?_<;>intro hb|refine yy ?_|refine yy2 ?_ ?_<;>intro hcmp|apply ah;refine Cc Rz ?_|refine Cb λK hK=>?_|apply_assumption -exfalso -symm)
  ·have h0:l=[]:=As (by omega);subst h0
   (refine j1 (j6 ⟨?_,rfl⟩))
   rfl
  refine ji0 (λx:Nat × Nat=>⟨[(16,.d (.int .i64 x.1)),(15,.d (.int .i64 l.length)),(14,.d (.list 6 (l.map dE))),(5,.own 13 x.2),(1,.clo (.func 48) [.ptr 900 0] [])],(13,.row 28 6 true ((y9 j4 σ (l.take x.1)).1.map dE) x.2)::HW .free (y9 j4 σ (l.take x.1)).2,gl⟩)
   (λx=>x.1<=l.length) (λx=>l.length - x.1) (0,0) (Ai _) r9 λ⟨j,kv⟩ hj=>?_
  dsimp only[HW,ja9,n7]at hj ⊢;have hlen:=ja8 j4 (l.take j) σ;simp only[Ak]at hlen;rcases Ah j l.length with hj2|hj2
  ·have hone:=h1 j hj2
   (repeat' first|apply Ca 7;(refine j3 7 ?_)|apply Ca 23;refine Ch (hc:=hone) ?_|apply Ca 24;(refine Df 24 ?_)|refine yyp ?_;try refine Ce ?_ ?_<;>intro hb|refine yy ?_|(apply Cw;first|(refine Da (λkv=>?_))|(refine ai (λsx sp kv hsx hsp hsl=>?_)))|apply ah;refine Cc Rz ?_|refine Cb λK hK=>?_|apply_assumption -exfalso -symm)
   refine⟨(j+1,kv),by dsimp only;omega,by dsimp only;omega,?_⟩;dsimp only;rw[p8 j4 l σ j hj2];simp only[Ar,Ap,Ba];exact r9
  (repeat' first|refine yyp ?_;try refine Ce ?_ ?_<;>intro hb|refine yy ?_|apply ah;refine Cc Rz ?_|refine Cb λK hK=>?_|apply_assumption -exfalso -symm)
  have hjl:j=l.length:=by omega
  subst hjl;rw[Bk]
  (refine j1 (j6 ⟨?_,rfl⟩))
  rfl
 case check ns=>
  (refine j2 func49 ntmps49 results49 λw M E b0=>?_)
  (repeat' first|apply Ca 13;(refine jc9 13 ?_)|refine yyp ?_;try refine Ce ?_ ?_<;>intro hb|refine yy ?_|refine yy2 ?_ ?_<;>intro hcmp|apply ah;refine Cc Rz ?_|refine Cb λK hK=>?_|apply_assumption -exfalso -symm)
  ·have h0:l=[]:=As (by omega);subst h0
   (refine j1 (j6 ⟨?_,rfl⟩))
   rfl
  refine ji0 (λx:Nat × Nat=>⟨[(16,.d (.int .i64 x.1)),(15,.d (.int .i64 l.length)),(14,.d (.list 6 (l.map dE))),(5,.own 13 x.2),(1,.clo (.func 48) [.ptr 900 0] [])],(13,.row 28 6 true ((y9 j4 σ (l.take x.1)).1.map dE) x.2)::HW (.check ns) (y9 j4 σ (l.take x.1)).2,gl⟩)
   (λx=>x.1<=l.length) (λx=>l.length - x.1) (0,0) (Ai _) r9 λ⟨j,kv⟩ hj=>?_
  dsimp only[HW,ja9,n7]at hj ⊢;have hlen:=ja8 j4 (l.take j) σ;simp only[Ak]at hlen;rcases Ah j l.length with hj2|hj2
  ·have hone:=h1 j hj2
   (repeat' first|apply Ca 7;(refine j3 7 ?_)|apply Ca 23;refine Ch (hc:=hone) ?_|apply Ca 24;(refine Df 24 ?_)|refine yyp ?_;try refine Ce ?_ ?_<;>intro hb|refine yy ?_|(apply Cw;first|(refine Da (λkv=>?_))|(refine ai (λsx sp kv hsx hsp hsl=>?_)))|apply ah;refine Cc Rz ?_|refine Cb λK hK=>?_|apply_assumption -exfalso -symm)
   refine⟨(j+1,kv),by dsimp only;omega,by dsimp only;omega,?_⟩;dsimp only;rw[p8 j4 l σ j hj2];simp only[Ar,Ap,Ba];exact r9
  (repeat' first|refine yyp ?_;try refine Ce ?_ ?_<;>intro hb|refine yy ?_|apply ah;refine Cc Rz ?_|refine Cb λK hK=>?_|apply_assumption -exfalso -symm)
  have hjl:j=l.length:=by omega
  subst hjl;rw[Bk]
  (refine j1 (j6 ⟨?_,rfl⟩))
  rfl
 case none=>
  (refine j2 func49 ntmps49 results49 λw M E b0=>?_)
  (repeat' first|apply Ca 13;(refine jc9 13 ?_)|refine yyp ?_;try refine Ce ?_ ?_<;>intro hb|refine yy ?_|refine yy2 ?_ ?_<;>intro hcmp|apply ah;refine Cc Rz ?_|refine Cb λK hK=>?_|apply_assumption -exfalso -symm)
  ·have h0:l=[]:=As (by omega);subst h0
   (refine j1 (j6 ⟨?_,rfl⟩))
   rfl
  refine ji0 (λx:Nat × Nat=>⟨[(16,.d (.int .i64 x.1)),(15,.d (.int .i64 l.length)),(14,.d (.list 6 (l.map dE))),(5,.own 13 x.2),(1,.clo (.func 48) [.ptr 900 0] [])],(13,.row 28 6 true ((y9 j4 σ (l.take x.1)).1.map dE) x.2)::HW .none (y9 j4 σ (l.take x.1)).2,gl⟩)
   (λx=>x.1<=l.length) (λx=>l.length - x.1) (0,0) (Ai _) r9 λ⟨j,kv⟩ hj=>?_
  dsimp only[HW,ja9,n7]at hj ⊢;have hlen:=ja8 j4 (l.take j) σ;simp only[Ak]at hlen;rcases Ah j l.length with hj2|hj2
  ·have hone:=h1 j hj2
   (repeat' first|apply Ca 7;(refine j3 7 ?_)|apply Ca 23;refine Ch (hc:=hone) ?_|apply Ca 24;(refine Df 24 ?_)|refine yyp ?_;try refine Ce ?_ ?_<;>intro hb|refine yy ?_|(apply Cw;first|(refine Da (λkv=>?_))|(refine ai (λsx sp kv hsx hsp hsl=>?_)))|apply ah;refine Cc Rz ?_|refine Cb λK hK=>?_|apply_assumption -exfalso -symm)
   refine⟨(j+1,kv),by dsimp only;omega,by dsimp only;omega,?_⟩;dsimp only;rw[p8 j4 l σ j hj2];simp only[Ar,Ap,Ba];exact r9
  (repeat' first|refine yyp ?_;try refine Ce ?_ ?_<;>intro hb|refine yy ?_|apply ah;refine Cc Rz ?_|refine Cb λK hK=>?_|apply_assumption -exfalso -symm)
  have hjl:j=l.length:=by omega
  subst hjl;rw[Bk]
  (refine j1 (j6 ⟨?_,rfl⟩))
  rfl
end
section
theorem mp6 (σ:W)(s:ByteArray):(aA σ s).2.ev.length<=σ.ev.length+1:=by
 unfold aA;split
 ·exact Nat.le_succ _
 ·simp[Sc.step]
mutual
theorem qw3:∀ (e:Ex) (σ:W),(j4 σ e).2.ev.length<=σ.ev.length+exN e
 |.mk kind op ty n s l,σ=>by
  simp only[j4,exN];have h:=ki4 l (if Dm kind then aA σ s else (s,σ)).2;have h2:=mp6 σ s;split at h
  ·rename_i h1;simp only[h1,if_true];omega
  ·rename_i h1;simp only[h1,if_false,Az];dsimp only at h ⊢;omega
theorem ki4:∀ (l:List Ex) (σ:W),(z1 σ l).2.ev.length<=σ.ev.length+Gb l
 |[],σ=>by simp[z1,Gb]
 |e::l,σ=>by
  simp only[z1,Gb];have h1:=qw3 e σ;have h2:=ki4 l (j4 σ e).2;omega
end
attribute [local irreducible] TR TC
theorem qf1 (k:Sc.Kind):∀ (m:Nat) (e:Ex) (σ:W),exN e<=m->σ.room (exN e)->FnE prog gl 48 [.ptr 900 0,.d (dEx e)] (HW k σ)
 (λv H1=>v=.d (dEx (j4 σ e).1)/\H1=HW k (j4 σ e).2):=by
 intro m
 induction m with
 |zero=>intro e σ h;have:=jn7 e;omega
 |succ m ih=>
  rintro⟨kind,op,ty,n,s,l⟩ σ hm hr;unfold W.room at hr;simp only[exN]at hm hr;have hlen:=ja0 l;have hn:=jm3 gl k σ s (by unfold W.room;omega);have hnl:=mp6 σ s;have he:∀ σ1:W,σ1.ev.length+Gb l<=1000000000->_:=λσ1 h1=>kd2 gl k l σ1 (by omega) λj hj=>ih l[j] _ (by have:=l8 l j hj;omega) (by
   have h2:=ki4 (l.take j) σ1;rw[jj2]at h2;have:=l8 l j hj;unfold W.room;omega)
  have h1:=he σ (by omega);have h2:=he (aA σ s).2 (by omega);clear he ih;simp only[j4,jj2];cases hk:Dm kind with
  |true=>
   simp only[if_true];generalize aA σ s=r at hn h2 ⊢;generalize y9 j4 r.2 l=q at h2 ⊢;rw[congrFun k9 (Ex.mk kind op ty n s l),congrFun k9 (Ex.mk kind op ty n r.1 q.1)];cases k
   all_goals dsimp only[HW,ja9,n7]at hn h2 ⊢
   all_goals (refine j2 func48 ntmps48 results48 λw M E b0=>?_)
   all_goals (repeat' first|apply Ca 3;(refine Cm 3 ?_)|apply Ca 4;(refine j3 4 ?_)|apply Ca 14;refine Ch (hc:=hn) ?_|apply Ca 20;refine Ch (hc:=h2) ?_|refine yyp ?_;try refine Ce ?_ ?_<;>intro hb|refine yy ?_|refine yy2 ?_ ?_<;>intro hcmp|apply ah;refine Cc [0,1,3,4,5,6,7,28] ?_|refine Cb λK hK=>?_|apply_assumption -exfalso -symm)
   all_goals first
    |(exfalso;simp only[Dm,Ex.kind,Bq,Ee]at *;omega)
    |((refine j1 (j6 ⟨?_,rfl⟩))
      rfl)
  |false=>
   simp only[if_false,Az];generalize y9 j4 σ l=q at h1 ⊢;rw[congrFun k9 (Ex.mk kind op ty n s l),congrFun k9 (Ex.mk kind op ty n s q.1)];clear hn h2;cases k
   all_goals dsimp only[HW,ja9,n7]at h1 ⊢
   all_goals (refine j2 func48 ntmps48 results48 λw M E b0=>?_)
   all_goals (repeat' first|apply Ca 3;(refine Cm 3 ?_)|apply Ca 4;(refine j3 4 ?_)|apply Ca 20;refine Ch (hc:=h1) ?_|refine yyp ?_;try refine Ce ?_ ?_<;>intro hb|refine yy ?_|refine yy2 ?_ ?_<;>intro hcmp|apply ah;refine Cc [0,1,3,4,5,6,7,28] ?_|refine Cb λK hK=>?_|apply_assumption -exfalso -symm)
   all_goals first
    |(exfalso;simp only[Dm,Ex.kind,Bool.or_eq_false_iff,beq_eq_false_iff_ne,ne_eq]at *;omega)
    |((refine j1 (j6 ⟨?_,rfl⟩))
      rfl)
end
end Go.Proofs.YtklklgfpkpglgaaGreatDoor
