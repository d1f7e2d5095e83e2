/- Parts: S3, O7. -/
import Derived.Test.YtklklgfpkpglgaaGreatDoorP14
set_option linter.all false
set_option maxRecDepth 100000
set_option maxHeartbeats 16000000
namespace Go.Proofs.YtklklgfpkpglgaaGreatDoor
open Go.RowKit Go.Proofs.Tryz
section
open Sc (isB Mi)
def jd8 {α:Type}(p:α->Bool):List α->Int
 |[]=>-1
 |x::l=>if p x then 0 else if jd8 p l<0 then -1 else jd8 p l+1
theorem l9 {α:Type}(p:α->Bool):∀ l:List α,-1<=jd8 p l
 |[]=>by simp[jd8]
 |x::l=>by
  have:=l9 p l;simp only[jd8];split
  ·omega
  ·split<;>omega
theorem x8 {α:Type}(p:α->Bool)(l:List α)(k:Nat)(hk:k<l.length):jd8 p (l.drop k)=if p l[k] then 0 else if jd8 p (l.drop (k+1))<0 then -1 else jd8 p (l.drop (k+1))+1:=by
 rw[By hk];rfl
theorem je6 {α:Type}(p:α->Bool):∀ l:List α,0<=jd8 p l↔l.any p=true
 |[]=>by simp[jd8]
 |x::l=>by
  have h1:=je6 p l;have h2:=l9 p l;simp only[jd8,List.any_cons,Bm,<-h1];cases p x
  ·simp only[Ba,if_false,false_or];split<;>omega
  ·simp
attribute [local irreducible] TR TC
theorem mc8 (gl:List (Nat × List D))(l:List ByteArray)(y:ByteArray):FnD prog gl 103 [.d (.list 1 (l.map .str)),.d (.str y)] (fun v=>v=.d (.int .i64 (jd8 (isB y) l))):=by
 (refine j7 func103 ntmps103 results103 fun w M=>?_)
 refine j8 0 rfl fun hn=>?_;simp only[Ab]at hn
 (repeat' first|refine yyp ?_;try refine Ce ?_ ?_<;>intro hb|refine yy ?_|refine at_nil ?_;refine Cc [0,1,4,5,6,7,8,9,16] ?_|refine Cb fun K hK=>?_|apply_assumption -exfalso -symm)
 refine ji2 (fun k:Nat=>⟨[(8,.d (.int .i64 k)),(7,.d (.int .i64 l.length)),(0,.d (.list 1 (l.map .str))),(1,.d (.str y))],[],gl⟩)
  (fun k=>k<=l.length/\jd8 (isB y) l=if jd8 (isB y) (l.drop k)<0 then -1 else jd8 (isB y) (l.drop k)+k) (fun k=>l.length - k) 0 ⟨Ai _,by have:=l9 (isB y) l;simp only[Ev];split<;>omega⟩ k8 fun k ⟨hk,hi⟩=>?_
 have hlo:=l9 (isB y) (l.drop (k+1))
 (repeat' first|refine yyp ?_;try refine Ce ?_ ?_<;>intro hb|refine yy ?_|refine yy2 ?_ ?_<;>intro hcmp|refine at_nil ?_;refine Cc [0,1,4,5,6,7,8,9,16] ?_|refine Cb fun K hK=>?_|apply_assumption -exfalso -symm)
 ·(refine j1 (k7 ?_))
  rw[hi,x8 _ _ _ (by omega),Ad (Mi.2 hcmp.symm)];simp[oneOf]
 ·refine⟨k+1,⟨by omega,?_⟩,by omega,k8⟩;have hne:¬isB y l[k]=true:=fun h=>hcmp (Mi.1 h).symm;rw[hi,x8 _ _ _ (by omega),Ae hne];split<;>split<;>(try split)<;>omega
 ·(refine j1 (k7 ?_))
  have:k=l.length:=by omega
  rw[hi,this,Fk];simp[oneOf,jd8]
theorem y7 (gl:List (Nat × List D))(l:List ByteArray)(y:ByteArray):FnD prog gl 62 [.d (.list 1 (l.map .str)),.d (.str y)] (fun v=>v=.d (.bool (l.any (isB y)))):=by
 (refine j7 func62 ntmps62 results62 fun w M=>?_)
 (repeat' first|refine yyp ?_;try refine Ce ?_ ?_<;>intro hb|refine yy ?_|refine yy2 ?_ ?_<;>intro hcmp|refine Ch 103 ?_;refine Ck (hc:=(mc8 gl l y)) ?_|refine at_nil ?_;refine Cc [0,1,4,5,6,7] ?_|refine Cb fun K hK=>?_|apply_assumption -exfalso -symm)
 all_goals
  (refine j1 (k7 ?_))
  simp only[oneOf,Bk,Be];have h:=je6 (isB y) l;cases ha:l.any (isB y) with
  |true=>first|rfl|(exfalso;have:=h.2 ha;omega)
  |false=>first|rfl|(exfalso;rw[ha]at h;have:=h.1 (by omega);cases this)
theorem ki8 (gl:List (Nat × List D))(ns:List ByteArray)(σ:Sc.W)(s:ByteArray)(tw:Bool):FnE prog gl 61 [.d (.str s),.d (.bool tw),.ptr 905 0,.ptr 904 0,.ptr 903 0] (z6 (.check ns) σ)
 (fun v H1=>v=.tup []/\H1=z6 (.check ns) (Sc.step σ s tw)):=by
 dsimp only[z6,Sc.step];rw[Sc.Pw];generalize Sc.Ih ns σ.ev=r;obtain⟨rn,re⟩:=r;dsimp only
 (refine j2 func61 ntmps61 results61 fun w M E b0=>?_)
 (repeat' first|refine yyp ?_;try refine Ce ?_ ?_<;>intro hb|refine yy ?_|refine yy2 ?_ ?_<;>intro hcmp|refine Ch 62 ?_;refine Ck (hc:=(y7 gl ns s)) ?_;try refine Ce ?_ ?_<;>intro hb|refine at_nil ?_;refine Cc [0,1,2,3,4,7,10,13] ?_|refine Cb fun K hK=>?_|apply_assumption -exfalso -symm)
 all_goals try simp only[Ei]at hcmp
 all_goals simp only[*,if_true,if_false,Ba,Bool.true_eq_false,or_true,or_false,true_or,false_or,and_true,and_false,true_and,false_and]
 all_goals exact g8 ⟨rfl,rfl⟩
end
section
def Kv:List Nat:=[0,1,4,5,6,7,8,9,16]
def mk9:List Nat:=[4,5,8,9,10,11,12,13,14,15,16,17,18]
def Sw:List Nat:=[0,1,4,5,6,7]
def Um:List Nat:=[0,1,2,4,5,6,7,8]
theorem jp8 {α:Type}(p:α->Bool):∀ l:List α,l.any (fun x=>!p x)=!l.all p
 |[]=>rfl
 |x::l=>by rw[List.any_cons,Fe,jp8 p l,Bool.not_and]
attribute [local irreducible] TR TC
theorem rk1 (gl:List (Nat × List D))(x:Ex)(b:Bool)(h:FnE prog gl 126 [.d (dEx (x))] [] (fun v H1=>v=.d (.bool b)/\H1=[])):
 FnE prog gl 167 [.d (dEx (x)),.ptr 5 0] [(5,.box [.clo (.func 126) [] []])] (fun v H1=>v=.d (.bool (!b))/\H1=[(5,.box [.clo (.func 126) [] []])]):=by
 simp only[k9]at h ⊢
 (refine j2 func167 ntmps167 results167 fun w M E b0=>?_)
 (repeat' first|refine Ca 2 ?_;(refine Cq 2 ?_)|refine Ca 6 ?_;refine Cg (hc:=h) ?_;try refine Ce ?_ ?_<;>intro hb|refine yyp ?_;try refine Ce ?_ ?_<;>intro hb|refine yy ?_|refine at_nil ?_;refine Cc [0,1,2,3,4,5,6] ?_|refine Cb fun K hK=>?_|apply_assumption -exfalso -symm)
 all_goals (refine j1 (j4 ⟨?_,rfl⟩))
 all_goals simp only[oneOf, *,Bool.not_true,Bool.not_false]
theorem rk2 (gl:List (Nat × List D))(q:Ex->Bool)(l:List Ex)(h:∀ (k:Nat) (hk:k<l.length),FnE prog gl 167 [.d (dEx (l[k])),.ptr 5 0] [(5,.box [.clo (.func 126) [] []])] (fun v H1=>v=.d (.bool (q l[k]))/\H1=[(5,.box [.clo (.func 126) [] []])])):
 FnE prog gl 106 [.d (.list 6 (l.map (fun x=>dEx (x)))),.clo (.func 167) [] [.ptr 5 0]] [(5,.box [.clo (.func 126) [] []])] (fun v H1=>v=.d (.int .i64 (jd8 q l))/\H1=[(5,.box [.clo (.func 126) [] []])]):=by
 simp only[k9]at h ⊢
 (refine j2 func106 ntmps106 results106 fun w M E b0=>?_)
 refine j8 0 rfl fun hn=>?_;simp only[Ab]at hn
 (repeat' first|refine yyp ?_;try refine Ce ?_ ?_<;>intro hb|refine yy ?_|refine at_nil ?_;refine Cc Kv ?_|refine Cb fun K hK=>?_|apply_assumption -exfalso -symm)
 refine j6 mk9 [] (fun k:Nat=>[(8,.d (.int .i64 k))]) (fun _=>[]) (fun k=>k<=l.length/\jd8 q l=if jd8 q (l.drop k)<0 then -1 else jd8 q (l.drop k)+k) (fun k=>l.length - k) 0 ⟨Ai _,by have:=l9 q l;simp only[Ev];split<;>omega⟩ fun k ⟨hk,hi⟩=>?_;dsimp only[Ac,Af];have hlo:=l9 q (l.drop (k+1));rcases Ah k l.length with hk2|hk2
 ·have hone:=h k hk2
  (repeat' first|refine Ca 16 ?_;refine Cg (hc:=hone) ?_;try refine Ce ?_ ?_<;>intro hb|refine yyp ?_;try refine Ce ?_ ?_<;>intro hb|refine yy ?_|refine at_nil ?_;refine Cc Kv ?_|refine Cb fun K hK=>?_|apply_assumption -exfalso -symm)
  ·(refine j1 (j4 ⟨?_,rfl⟩))
   rw[hi,x8 _ _ _ hk2,Ad hb];simp[oneOf]
  ·refine⟨k+1,⟨by omega,?_⟩,by omega,k8⟩;rw[hi,x8 _ _ _ hk2,Ae (show ¬q l[k]=true by rw[hb];exact Ft)];split<;>split<;>(try split)<;>omega
 ·(repeat' first|refine yyp ?_;try refine Ce ?_ ?_<;>intro hb|refine yy ?_|refine at_nil ?_;refine Cc Kv ?_|refine Cb fun K hK=>?_|apply_assumption -exfalso -symm)
  (refine j1 (j4 ⟨?_,rfl⟩))
  have:k=l.length:=by omega
  rw[hi,this,Fk];simp[oneOf,jd8]
theorem rk3 (gl:List (Nat × List D))(q:Ex->Bool)(l:List Ex)(h:∀ (k:Nat) (hk:k<l.length),FnE prog gl 167 [.d (dEx (l[k])),.ptr 5 0] [(5,.box [.clo (.func 126) [] []])] (fun v H1=>v=.d (.bool (q l[k]))/\H1=[(5,.box [.clo (.func 126) [] []])])):
 FnE prog gl 166 [.d (.list 6 (l.map (fun x=>dEx (x)))),.clo (.func 167) [] [.ptr 5 0]] [(5,.box [.clo (.func 126) [] []])] (fun v H1=>v=.d (.bool (l.any q))/\H1=[(5,.box [.clo (.func 126) [] []])]):=by
 have hix:=rk2 gl q l h;have hany:=je6 q l
 (refine j2 func166 ntmps166 results166 fun w M E b0=>?_)
 (repeat' first|refine Ca 7 ?_;refine Cg (hc:=hix) ?_|refine yyp ?_;try refine Ce ?_ ?_<;>intro hb|refine yy ?_|refine yy2 ?_ ?_<;>intro hcmp|refine at_nil ?_;refine Cc Sw ?_|refine Cb fun K hK=>?_|apply_assumption -exfalso -symm)
 all_goals (refine j1 (j4 ⟨?_,rfl⟩))
 all_goals simp only[oneOf,Bk,Be]
 all_goals first
  |exact(hany.1 (by omega)).symm
  |(symm;cases ha:l.any q with
   |false=>rfl
   |true=>exfalso;have:=hany.2 ha;omega)
theorem mc9 (gl:List (Nat × List D))(p:Ex->Bool)(l:List Ex)(a b:Int)(h:∀ x∈l,FnE prog gl 126 [.d (dEx (x))] [] (fun v H1=>v=.d (.bool (p x))/\H1=[])):
 FnE prog gl 128 [.d (.list 6 (l.map (fun x=>dEx (x)))),.d (.agg [.int .i64 a,.int .i64 b]),.clo (.func 126) [] []] [] (fun v H1=>v=.d (.bool (Lx.Dj l a b p))/\H1=[]):=by
 have hcf:=rk3 gl (fun x=>!p x) l fun k hk=>rk1 gl l[k] (p l[k]) (h _ (Aw _));rw[jp8]at hcf
 (refine j2 func128 ntmps128 results128 fun w M E b0=>?_)
 (repeat' first|refine Ca 4 ?_;(refine Cq 4 ?_)|refine Ca 5 ?_;(refine Cq 5 ?_)|refine Ca 14 ?_;refine Cg (hc:=hcf) ?_;try refine Ce ?_ ?_<;>intro hb|refine yyp ?_;try refine Ce ?_ ?_<;>intro hb|refine yy ?_|refine Ch 122 ?_;refine Ck (hc:=(ki6 gl a b l.length)) ?_;try refine Ce ?_ ?_<;>intro hb|refine at_nil ?_;refine Cc Um ?_|refine Cb fun K hK=>?_|apply_assumption -exfalso -symm)
 all_goals (refine j1 (j4 ⟨?_,rfl⟩))
 all_goals simp only[oneOf,Lx.Dj, *,Bi,Bj,Bool.not_not,Bool.not_true,Bool.not_false]
 all_goals (try (simp_all;done))
theorem ru3 (gl:List (Nat × List D))(x:Ex)(b:Bool)(h:FnE prog gl 129 [.d (dEx (x))] [] (fun v H1=>v=.d (.bool b)/\H1=[])):
 FnE prog gl 167 [.d (dEx (x)),.ptr 5 0] [(5,.box [.clo (.func 129) [] []])] (fun v H1=>v=.d (.bool (!b))/\H1=[(5,.box [.clo (.func 129) [] []])]):=by
 simp only[k9]at h ⊢
 (refine j2 func167 ntmps167 results167 fun w M E b0=>?_)
 (repeat' first|refine Ca 2 ?_;(refine Cq 2 ?_)|refine Ca 6 ?_;refine Cg (hc:=h) ?_;try refine Ce ?_ ?_<;>intro hb|refine yyp ?_;try refine Ce ?_ ?_<;>intro hb|refine yy ?_|refine at_nil ?_;refine Cc [0,1,2,3,4,5,6] ?_|refine Cb fun K hK=>?_|apply_assumption -exfalso -symm)
 all_goals (refine j1 (j4 ⟨?_,rfl⟩))
 all_goals simp only[oneOf, *,Bool.not_true,Bool.not_false]
theorem ru4 (gl:List (Nat × List D))(q:Ex->Bool)(l:List Ex)(h:∀ (k:Nat) (hk:k<l.length),FnE prog gl 167 [.d (dEx (l[k])),.ptr 5 0] [(5,.box [.clo (.func 129) [] []])] (fun v H1=>v=.d (.bool (q l[k]))/\H1=[(5,.box [.clo (.func 129) [] []])])):
 FnE prog gl 106 [.d (.list 6 (l.map (fun x=>dEx (x)))),.clo (.func 167) [] [.ptr 5 0]] [(5,.box [.clo (.func 129) [] []])] (fun v H1=>v=.d (.int .i64 (jd8 q l))/\H1=[(5,.box [.clo (.func 129) [] []])]):=by
 simp only[k9]at h ⊢
 (refine j2 func106 ntmps106 results106 fun w M E b0=>?_)
 refine j8 0 rfl fun hn=>?_;simp only[Ab]at hn
 (repeat' first|refine yyp ?_;try refine Ce ?_ ?_<;>intro hb|refine yy ?_|refine at_nil ?_;refine Cc Kv ?_|refine Cb fun K hK=>?_|apply_assumption -exfalso -symm)
 refine j6 mk9 [] (fun k:Nat=>[(8,.d (.int .i64 k))]) (fun _=>[]) (fun k=>k<=l.length/\jd8 q l=if jd8 q (l.drop k)<0 then -1 else jd8 q (l.drop k)+k) (fun k=>l.length - k) 0 ⟨Ai _,by have:=l9 q l;simp only[Ev];split<;>omega⟩ fun k ⟨hk,hi⟩=>?_;dsimp only[Ac,Af];have hlo:=l9 q (l.drop (k+1));rcases Ah k l.length with hk2|hk2
 ·have hone:=h k hk2
  (repeat' first|refine Ca 16 ?_;refine Cg (hc:=hone) ?_;try refine Ce ?_ ?_<;>intro hb|refine yyp ?_;try refine Ce ?_ ?_<;>intro hb|refine yy ?_|refine at_nil ?_;refine Cc Kv ?_|refine Cb fun K hK=>?_|apply_assumption -exfalso -symm)
  ·(refine j1 (j4 ⟨?_,rfl⟩))
   rw[hi,x8 _ _ _ hk2,Ad hb];simp[oneOf]
  ·refine⟨k+1,⟨by omega,?_⟩,by omega,k8⟩;rw[hi,x8 _ _ _ hk2,Ae (show ¬q l[k]=true by rw[hb];exact Ft)];split<;>split<;>(try split)<;>omega
 ·(repeat' first|refine yyp ?_;try refine Ce ?_ ?_<;>intro hb|refine yy ?_|refine at_nil ?_;refine Cc Kv ?_|refine Cb fun K hK=>?_|apply_assumption -exfalso -symm)
  (refine j1 (j4 ⟨?_,rfl⟩))
  have:k=l.length:=by omega
  rw[hi,this,Fk];simp[oneOf,jd8]
theorem ru5 (gl:List (Nat × List D))(q:Ex->Bool)(l:List Ex)(h:∀ (k:Nat) (hk:k<l.length),FnE prog gl 167 [.d (dEx (l[k])),.ptr 5 0] [(5,.box [.clo (.func 129) [] []])] (fun v H1=>v=.d (.bool (q l[k]))/\H1=[(5,.box [.clo (.func 129) [] []])])):
 FnE prog gl 166 [.d (.list 6 (l.map (fun x=>dEx (x)))),.clo (.func 167) [] [.ptr 5 0]] [(5,.box [.clo (.func 129) [] []])] (fun v H1=>v=.d (.bool (l.any q))/\H1=[(5,.box [.clo (.func 129) [] []])]):=by
 have hix:=ru4 gl q l h;have hany:=je6 q l
 (refine j2 func166 ntmps166 results166 fun w M E b0=>?_)
 (repeat' first|refine Ca 7 ?_;refine Cg (hc:=hix) ?_|refine yyp ?_;try refine Ce ?_ ?_<;>intro hb|refine yy ?_|refine yy2 ?_ ?_<;>intro hcmp|refine at_nil ?_;refine Cc Sw ?_|refine Cb fun K hK=>?_|apply_assumption -exfalso -symm)
 all_goals (refine j1 (j4 ⟨?_,rfl⟩))
 all_goals simp only[oneOf,Bk,Be]
 all_goals first
  |exact(hany.1 (by omega)).symm
  |(symm;cases ha:l.any q with
   |false=>rfl
   |true=>exfalso;have:=hany.2 ha;omega)
theorem mq4 (gl:List (Nat × List D))(p:Ex->Bool)(l:List Ex)(a b:Int)(h:∀ x∈l,FnE prog gl 129 [.d (dEx (x))] [] (fun v H1=>v=.d (.bool (p x))/\H1=[])):
 FnE prog gl 128 [.d (.list 6 (l.map (fun x=>dEx (x)))),.d (.agg [.int .i64 a,.int .i64 b]),.clo (.func 129) [] []] [] (fun v H1=>v=.d (.bool (Lx.Dj l a b p))/\H1=[]):=by
 have hcf:=ru5 gl (fun x=>!p x) l fun k hk=>ru3 gl l[k] (p l[k]) (h _ (Aw _));rw[jp8]at hcf
 (refine j2 func128 ntmps128 results128 fun w M E b0=>?_)
 (repeat' first|refine Ca 4 ?_;(refine Cq 4 ?_)|refine Ca 5 ?_;(refine Cq 5 ?_)|refine Ca 14 ?_;refine Cg (hc:=hcf) ?_;try refine Ce ?_ ?_<;>intro hb|refine yyp ?_;try refine Ce ?_ ?_<;>intro hb|refine yy ?_|refine Ch 122 ?_;refine Ck (hc:=(ki6 gl a b l.length)) ?_;try refine Ce ?_ ?_<;>intro hb|refine at_nil ?_;refine Cc Um ?_|refine Cb fun K hK=>?_|apply_assumption -exfalso -symm)
 all_goals (refine j1 (j4 ⟨?_,rfl⟩))
 all_goals simp only[oneOf,Lx.Dj, *,Bi,Bj,Bool.not_not,Bool.not_true,Bool.not_false]
 all_goals (try (simp_all;done))
theorem vc1 (gl:List (Nat × List D))(x:Fo)(b:Bool)(h:FnE prog gl 176 [.d (dFo (x))] [] (fun v H1=>v=.d (.bool b)/\H1=[])):
 FnE prog gl 202 [.d (dFo (x)),.ptr 5 0] [(5,.box [.clo (.func 176) [] []])] (fun v H1=>v=.d (.bool (!b))/\H1=[(5,.box [.clo (.func 176) [] []])]):=by
 (refine j2 func202 ntmps202 results202 fun w M E b0=>?_)
 (repeat' first|refine Ca 2 ?_;(refine Cq 2 ?_)|refine Ca 6 ?_;refine Cg (hc:=h) ?_;try refine Ce ?_ ?_<;>intro hb|refine yyp ?_;try refine Ce ?_ ?_<;>intro hb|refine yy ?_|refine at_nil ?_;refine Cc [0,1,2,3,4,5,6] ?_|refine Cb fun K hK=>?_|apply_assumption -exfalso -symm)
 all_goals (refine j1 (j4 ⟨?_,rfl⟩))
 all_goals simp only[oneOf, *,Bool.not_true,Bool.not_false]
theorem vc2 (gl:List (Nat × List D))(q:Fo->Bool)(l:List Fo)(h:∀ (k:Nat) (hk:k<l.length),FnE prog gl 202 [.d (dFo (l[k])),.ptr 5 0] [(5,.box [.clo (.func 176) [] []])] (fun v H1=>v=.d (.bool (q l[k]))/\H1=[(5,.box [.clo (.func 176) [] []])])):
 FnE prog gl 223 [.d (.list 6 (l.map (fun x=>dFo (x)))),.clo (.func 202) [] [.ptr 5 0]] [(5,.box [.clo (.func 176) [] []])] (fun v H1=>v=.d (.int .i64 (jd8 q l))/\H1=[(5,.box [.clo (.func 176) [] []])]):=by
 (refine j2 func223 ntmps223 results223 fun w M E b0=>?_)
 refine j8 0 rfl fun hn=>?_;simp only[Ab]at hn
 (repeat' first|refine yyp ?_;try refine Ce ?_ ?_<;>intro hb|refine yy ?_|refine at_nil ?_;refine Cc Kv ?_|refine Cb fun K hK=>?_|apply_assumption -exfalso -symm)
 refine j6 mk9 [] (fun k:Nat=>[(8,.d (.int .i64 k))]) (fun _=>[]) (fun k=>k<=l.length/\jd8 q l=if jd8 q (l.drop k)<0 then -1 else jd8 q (l.drop k)+k) (fun k=>l.length - k) 0 ⟨Ai _,by have:=l9 q l;simp only[Ev];split<;>omega⟩ fun k ⟨hk,hi⟩=>?_;dsimp only[Ac,Af];have hlo:=l9 q (l.drop (k+1));rcases Ah k l.length with hk2|hk2
 ·have hone:=h k hk2
  (repeat' first|refine Ca 16 ?_;refine Cg (hc:=hone) ?_;try refine Ce ?_ ?_<;>intro hb|refine yyp ?_;try refine Ce ?_ ?_<;>intro hb|refine yy ?_|refine at_nil ?_;refine Cc Kv ?_|refine Cb fun K hK=>?_|apply_assumption -exfalso -symm)
  ·(refine j1 (j4 ⟨?_,rfl⟩))
   rw[hi,x8 _ _ _ hk2,Ad hb];simp[oneOf]
  ·refine⟨k+1,⟨by omega,?_⟩,by omega,k8⟩;rw[hi,x8 _ _ _ hk2,Ae (show ¬q l[k]=true by rw[hb];exact Ft)];split<;>split<;>(try split)<;>omega
 ·(repeat' first|refine yyp ?_;try refine Ce ?_ ?_<;>intro hb|refine yy ?_|refine at_nil ?_;refine Cc Kv ?_|refine Cb fun K hK=>?_|apply_assumption -exfalso -symm)
  (refine j1 (j4 ⟨?_,rfl⟩))
  have:k=l.length:=by omega
  rw[hi,this,Fk];simp[oneOf,jd8]
theorem vc3 (gl:List (Nat × List D))(q:Fo->Bool)(l:List Fo)(h:∀ (k:Nat) (hk:k<l.length),FnE prog gl 202 [.d (dFo (l[k])),.ptr 5 0] [(5,.box [.clo (.func 176) [] []])] (fun v H1=>v=.d (.bool (q l[k]))/\H1=[(5,.box [.clo (.func 176) [] []])])):
 FnE prog gl 201 [.d (.list 6 (l.map (fun x=>dFo (x)))),.clo (.func 202) [] [.ptr 5 0]] [(5,.box [.clo (.func 176) [] []])] (fun v H1=>v=.d (.bool (l.any q))/\H1=[(5,.box [.clo (.func 176) [] []])]):=by
 have hix:=vc2 gl q l h;have hany:=je6 q l
 (refine j2 func201 ntmps201 results201 fun w M E b0=>?_)
 (repeat' first|refine Ca 7 ?_;refine Cg (hc:=hix) ?_|refine yyp ?_;try refine Ce ?_ ?_<;>intro hb|refine yy ?_|refine yy2 ?_ ?_<;>intro hcmp|refine at_nil ?_;refine Cc Sw ?_|refine Cb fun K hK=>?_|apply_assumption -exfalso -symm)
 all_goals (refine j1 (j4 ⟨?_,rfl⟩))
 all_goals simp only[oneOf,Bk,Be]
 all_goals first
  |exact(hany.1 (by omega)).symm
  |(symm;cases ha:l.any q with
   |false=>rfl
   |true=>exfalso;have:=hany.2 ha;omega)
theorem rk4 (gl:List (Nat × List D))(p:Fo->Bool)(l:List Fo)(a b:Int)(h:∀ x∈l,FnE prog gl 176 [.d (dFo (x))] [] (fun v H1=>v=.d (.bool (p x))/\H1=[])):
 FnE prog gl 175 [.d (.list 6 (l.map (fun x=>dFo (x)))),.d (.agg [.int .i64 a,.int .i64 b]),.clo (.func 176) [] []] [] (fun v H1=>v=.d (.bool (Lx.Dj l a b p))/\H1=[]):=by
 have hcf:=vc3 gl (fun x=>!p x) l fun k hk=>vc1 gl l[k] (p l[k]) (h _ (Aw _));rw[jp8]at hcf
 (refine j2 func175 ntmps175 results175 fun w M E b0=>?_)
 (repeat' first|refine Ca 4 ?_;(refine Cq 4 ?_)|refine Ca 5 ?_;(refine Cq 5 ?_)|refine Ca 14 ?_;refine Cg (hc:=hcf) ?_;try refine Ce ?_ ?_<;>intro hb|refine yyp ?_;try refine Ce ?_ ?_<;>intro hb|refine yy ?_|refine Ch 122 ?_;refine Ck (hc:=(ki6 gl a b l.length)) ?_;try refine Ce ?_ ?_<;>intro hb|refine at_nil ?_;refine Cc Um ?_|refine Cb fun K hK=>?_|apply_assumption -exfalso -symm)
 all_goals (refine j1 (j4 ⟨?_,rfl⟩))
 all_goals simp only[oneOf,Lx.Dj, *,Bi,Bj,Bool.not_not,Bool.not_true,Bool.not_false]
 all_goals (try (simp_all;done))
theorem ru6 (gl:List (Nat × List D))(x:ByteArray)(b:Bool)(h:FnE prog gl 125 [.d (.str (x))] [] (fun v H1=>v=.d (.bool b)/\H1=[])):
 FnE prog gl 203 [.d (.str (x)),.ptr 5 0] [(5,.box [.clo (.func 125) [] []])] (fun v H1=>v=.d (.bool (!b))/\H1=[(5,.box [.clo (.func 125) [] []])]):=by
 (refine j2 func203 ntmps203 results203 fun w M E b0=>?_)
 (repeat' first|refine Ca 6 ?_;refine Cg (hc:=h) ?_;try refine Ce ?_ ?_<;>intro hb|refine yyp ?_;try refine Ce ?_ ?_<;>intro hb|refine yy ?_|refine at_nil ?_;refine Cc [0,1,3,4,5,6] ?_|refine Cb fun K hK=>?_|apply_assumption -exfalso -symm)
 all_goals (refine j1 (j4 ⟨?_,rfl⟩))
 all_goals simp only[oneOf, *,Bool.not_true,Bool.not_false]
theorem ru7 (gl:List (Nat × List D))(q:ByteArray->Bool)(l:List ByteArray)(h:∀ (k:Nat) (hk:k<l.length),FnE prog gl 203 [.d (.str (l[k])),.ptr 5 0] [(5,.box [.clo (.func 125) [] []])] (fun v H1=>v=.d (.bool (q l[k]))/\H1=[(5,.box [.clo (.func 125) [] []])])):
 FnE prog gl 44 [.d (.list 1 (l.map (fun x=>.str (x)))),.clo (.func 203) [] [.ptr 5 0]] [(5,.box [.clo (.func 125) [] []])] (fun v H1=>v=.d (.int .i64 (jd8 q l))/\H1=[(5,.box [.clo (.func 125) [] []])]):=by
 (refine j2 func44 ntmps44 results44 fun w M E b0=>?_)
 refine j8 0 rfl fun hn=>?_;simp only[Ab]at hn
 (repeat' first|refine yyp ?_;try refine Ce ?_ ?_<;>intro hb|refine yy ?_|refine at_nil ?_;refine Cc Kv ?_|refine Cb fun K hK=>?_|apply_assumption -exfalso -symm)
 refine j6 mk9 [] (fun k:Nat=>[(8,.d (.int .i64 k))]) (fun _=>[]) (fun k=>k<=l.length/\jd8 q l=if jd8 q (l.drop k)<0 then -1 else jd8 q (l.drop k)+k) (fun k=>l.length - k) 0 ⟨Ai _,by have:=l9 q l;simp only[Ev];split<;>omega⟩ fun k ⟨hk,hi⟩=>?_;dsimp only[Ac,Af];have hlo:=l9 q (l.drop (k+1));rcases Ah k l.length with hk2|hk2
 ·have hone:=h k hk2
  (repeat' first|refine Ca 16 ?_;refine Cg (hc:=hone) ?_;try refine Ce ?_ ?_<;>intro hb|refine yyp ?_;try refine Ce ?_ ?_<;>intro hb|refine yy ?_|refine at_nil ?_;refine Cc Kv ?_|refine Cb fun K hK=>?_|apply_assumption -exfalso -symm)
  ·(refine j1 (j4 ⟨?_,rfl⟩))
   rw[hi,x8 _ _ _ hk2,Ad hb];simp[oneOf]
  ·refine⟨k+1,⟨by omega,?_⟩,by omega,k8⟩;rw[hi,x8 _ _ _ hk2,Ae (show ¬q l[k]=true by rw[hb];exact Ft)];split<;>split<;>(try split)<;>omega
 ·(repeat' first|refine yyp ?_;try refine Ce ?_ ?_<;>intro hb|refine yy ?_|refine at_nil ?_;refine Cc Kv ?_|refine Cb fun K hK=>?_|apply_assumption -exfalso -symm)
  (refine j1 (j4 ⟨?_,rfl⟩))
  have:k=l.length:=by omega
  rw[hi,this,Fk];simp[oneOf,jd8]
theorem ru8 (gl:List (Nat × List D))(q:ByteArray->Bool)(l:List ByteArray)(h:∀ (k:Nat) (hk:k<l.length),FnE prog gl 203 [.d (.str (l[k])),.ptr 5 0] [(5,.box [.clo (.func 125) [] []])] (fun v H1=>v=.d (.bool (q l[k]))/\H1=[(5,.box [.clo (.func 125) [] []])])):
 FnE prog gl 141 [.d (.list 1 (l.map (fun x=>.str (x)))),.clo (.func 203) [] [.ptr 5 0]] [(5,.box [.clo (.func 125) [] []])] (fun v H1=>v=.d (.bool (l.any q))/\H1=[(5,.box [.clo (.func 125) [] []])]):=by
 have hix:=ru7 gl q l h;have hany:=je6 q l
 (refine j2 func141 ntmps141 results141 fun w M E b0=>?_)
 (repeat' first|refine Ca 7 ?_;refine Cg (hc:=hix) ?_|refine yyp ?_;try refine Ce ?_ ?_<;>intro hb|refine yy ?_|refine yy2 ?_ ?_<;>intro hcmp|refine at_nil ?_;refine Cc Sw ?_|refine Cb fun K hK=>?_|apply_assumption -exfalso -symm)
 all_goals (refine j1 (j4 ⟨?_,rfl⟩))
 all_goals simp only[oneOf,Bk,Be]
 all_goals first
  |exact(hany.1 (by omega)).symm
  |(symm;cases ha:l.any q with
   |false=>rfl
   |true=>exfalso;have:=hany.2 ha;omega)
theorem qu5 (gl:List (Nat × List D))(p:ByteArray->Bool)(l:List ByteArray)(a b:Int)(h:∀ x∈l,FnE prog gl 125 [.d (.str (x))] [] (fun v H1=>v=.d (.bool (p x))/\H1=[])):
 FnE prog gl 177 [.d (.list 1 (l.map (fun x=>.str (x)))),.d (.agg [.int .i64 a,.int .i64 b]),.clo (.func 125) [] []] [] (fun v H1=>v=.d (.bool (Lx.Dj l a b p))/\H1=[]):=by
 have hcf:=ru8 gl (fun x=>!p x) l fun k hk=>ru6 gl l[k] (p l[k]) (h _ (Aw _));rw[jp8]at hcf
 (refine j2 func177 ntmps177 results177 fun w M E b0=>?_)
 (repeat' first|refine Ca 4 ?_;(refine Cq 4 ?_)|refine Ca 5 ?_;(refine Cq 5 ?_)|refine Ca 14 ?_;refine Cg (hc:=hcf) ?_;try refine Ce ?_ ?_<;>intro hb|refine yyp ?_;try refine Ce ?_ ?_<;>intro hb|refine yy ?_|refine Ch 122 ?_;refine Ck (hc:=(ki6 gl a b l.length)) ?_;try refine Ce ?_ ?_<;>intro hb|refine at_nil ?_;refine Cc Um ?_|refine Cb fun K hK=>?_|apply_assumption -exfalso -symm)
 all_goals (refine j1 (j4 ⟨?_,rfl⟩))
 all_goals simp only[oneOf,Lx.Dj, *,Bi,Bj,Bool.not_not,Bool.not_true,Bool.not_false]
 all_goals (try (simp_all;done))
theorem ru9 (gl:List (Nat × List D))(x:Int)(b:Bool)(h:FnE prog gl 131 [.d (.int .i64 (x))] [] (fun v H1=>v=.d (.bool b)/\H1=[])):
 FnE prog gl 171 [.d (.int .i64 (x)),.ptr 5 0] [(5,.box [.clo (.func 131) [] []])] (fun v H1=>v=.d (.bool (!b))/\H1=[(5,.box [.clo (.func 131) [] []])]):=by
 (refine j2 func171 ntmps171 results171 fun w M E b0=>?_)
 (repeat' first|refine Ca 6 ?_;refine Cg (hc:=h) ?_;try refine Ce ?_ ?_<;>intro hb|refine yyp ?_;try refine Ce ?_ ?_<;>intro hb|refine yy ?_|refine at_nil ?_;refine Cc [0,1,3,4,5,6] ?_|refine Cb fun K hK=>?_|apply_assumption -exfalso -symm)
 all_goals (refine j1 (j4 ⟨?_,rfl⟩))
 all_goals simp only[oneOf, *,Bool.not_true,Bool.not_false]
theorem rv0 (gl:List (Nat × List D))(q:Int->Bool)(l:List Int)(h:∀ (k:Nat) (hk:k<l.length),FnE prog gl 171 [.d (.int .i64 (l[k])),.ptr 5 0] [(5,.box [.clo (.func 131) [] []])] (fun v H1=>v=.d (.bool (q l[k]))/\H1=[(5,.box [.clo (.func 131) [] []])])):
 FnE prog gl 196 [.d (.list 1 (l.map (fun x=>.int .i64 (x)))),.clo (.func 171) [] [.ptr 5 0]] [(5,.box [.clo (.func 131) [] []])] (fun v H1=>v=.d (.int .i64 (jd8 q l))/\H1=[(5,.box [.clo (.func 131) [] []])]):=by
 (refine j2 func196 ntmps196 results196 fun w M E b0=>?_)
 refine j8 0 rfl fun hn=>?_;simp only[Ab]at hn
 (repeat' first|refine yyp ?_;try refine Ce ?_ ?_<;>intro hb|refine yy ?_|refine at_nil ?_;refine Cc Kv ?_|refine Cb fun K hK=>?_|apply_assumption -exfalso -symm)
 refine j6 mk9 [] (fun k:Nat=>[(8,.d (.int .i64 k))]) (fun _=>[]) (fun k=>k<=l.length/\jd8 q l=if jd8 q (l.drop k)<0 then -1 else jd8 q (l.drop k)+k) (fun k=>l.length - k) 0 ⟨Ai _,by have:=l9 q l;simp only[Ev];split<;>omega⟩ fun k ⟨hk,hi⟩=>?_;dsimp only[Ac,Af];have hlo:=l9 q (l.drop (k+1));rcases Ah k l.length with hk2|hk2
 ·have hone:=h k hk2
  (repeat' first|refine Ca 16 ?_;refine Cg (hc:=hone) ?_;try refine Ce ?_ ?_<;>intro hb|refine yyp ?_;try refine Ce ?_ ?_<;>intro hb|refine yy ?_|refine at_nil ?_;refine Cc Kv ?_|refine Cb fun K hK=>?_|apply_assumption -exfalso -symm)
  ·(refine j1 (j4 ⟨?_,rfl⟩))
   rw[hi,x8 _ _ _ hk2,Ad hb];simp[oneOf]
  ·refine⟨k+1,⟨by omega,?_⟩,by omega,k8⟩;rw[hi,x8 _ _ _ hk2,Ae (show ¬q l[k]=true by rw[hb];exact Ft)];split<;>split<;>(try split)<;>omega
 ·(repeat' first|refine yyp ?_;try refine Ce ?_ ?_<;>intro hb|refine yy ?_|refine at_nil ?_;refine Cc Kv ?_|refine Cb fun K hK=>?_|apply_assumption -exfalso -symm)
  (refine j1 (j4 ⟨?_,rfl⟩))
  have:k=l.length:=by omega
  rw[hi,this,Fk];simp[oneOf,jd8]
theorem rv1 (gl:List (Nat × List D))(q:Int->Bool)(l:List Int)(h:∀ (k:Nat) (hk:k<l.length),FnE prog gl 171 [.d (.int .i64 (l[k])),.ptr 5 0] [(5,.box [.clo (.func 131) [] []])] (fun v H1=>v=.d (.bool (q l[k]))/\H1=[(5,.box [.clo (.func 131) [] []])])):
 FnE prog gl 170 [.d (.list 1 (l.map (fun x=>.int .i64 (x)))),.clo (.func 171) [] [.ptr 5 0]] [(5,.box [.clo (.func 131) [] []])] (fun v H1=>v=.d (.bool (l.any q))/\H1=[(5,.box [.clo (.func 131) [] []])]):=by
 have hix:=rv0 gl q l h;have hany:=je6 q l
 (refine j2 func170 ntmps170 results170 fun w M E b0=>?_)
 (repeat' first|refine Ca 7 ?_;refine Cg (hc:=hix) ?_|refine yyp ?_;try refine Ce ?_ ?_<;>intro hb|refine yy ?_|refine yy2 ?_ ?_<;>intro hcmp|refine at_nil ?_;refine Cc Sw ?_|refine Cb fun K hK=>?_|apply_assumption -exfalso -symm)
 all_goals (refine j1 (j4 ⟨?_,rfl⟩))
 all_goals simp only[oneOf,Bk,Be]
 all_goals first
  |exact(hany.1 (by omega)).symm
  |(symm;cases ha:l.any q with
   |false=>rfl
   |true=>exfalso;have:=hany.2 ha;omega)
theorem qu6 (gl:List (Nat × List D))(p:Int->Bool)(l:List Int)(a b:Int)(h:∀ x∈l,FnE prog gl 131 [.d (.int .i64 (x))] [] (fun v H1=>v=.d (.bool (p x))/\H1=[])):
 FnE prog gl 130 [.d (.list 1 (l.map (fun x=>.int .i64 (x)))),.d (.agg [.int .i64 a,.int .i64 b]),.clo (.func 131) [] []] [] (fun v H1=>v=.d (.bool (Lx.Dj l a b p))/\H1=[]):=by
 have hcf:=rv1 gl (fun x=>!p x) l fun k hk=>ru9 gl l[k] (p l[k]) (h _ (Aw _));rw[jp8]at hcf
 (refine j2 func130 ntmps130 results130 fun w M E b0=>?_)
 (repeat' first|refine Ca 4 ?_;(refine Cq 4 ?_)|refine Ca 5 ?_;(refine Cq 5 ?_)|refine Ca 14 ?_;refine Cg (hc:=hcf) ?_;try refine Ce ?_ ?_<;>intro hb|refine yyp ?_;try refine Ce ?_ ?_<;>intro hb|refine yy ?_|refine Ch 122 ?_;refine Ck (hc:=(ki6 gl a b l.length)) ?_;try refine Ce ?_ ?_<;>intro hb|refine at_nil ?_;refine Cc Um ?_|refine Cb fun K hK=>?_|apply_assumption -exfalso -symm)
 all_goals (refine j1 (j4 ⟨?_,rfl⟩))
 all_goals simp only[oneOf,Lx.Dj, *,Bi,Bj,Bool.not_not,Bool.not_true,Bool.not_false]
 all_goals (try (simp_all;done))
theorem vc4 (gl:List (Nat × List D))(q:Int->Bool)(l:List Int)(h:∀ (k:Nat) (hk:k<l.length),FnE prog gl 221 [.d (.int .u8 (l[k]))] [] (fun v H1=>v=.d (.bool (q l[k]))/\H1=[])):
 FnE prog gl 230 [.d (.list 1 (l.map (fun x=>.int .u8 (x)))),.clo (.func 221) [] []] [] (fun v H1=>v=.d (.int .i64 (jd8 q l))/\H1=[]):=by
 (refine j2 func230 ntmps230 results230 fun w M E b0=>?_)
 refine j8 0 rfl fun hn=>?_;simp only[Ab]at hn
 (repeat' first|refine yyp ?_;try refine Ce ?_ ?_<;>intro hb|refine yy ?_|refine at_nil ?_;refine Cc Kv ?_|refine Cb fun K hK=>?_|apply_assumption -exfalso -symm)
 refine j6 mk9 [] (fun k:Nat=>[(8,.d (.int .i64 k))]) (fun _=>[]) (fun k=>k<=l.length/\jd8 q l=if jd8 q (l.drop k)<0 then -1 else jd8 q (l.drop k)+k) (fun k=>l.length - k) 0 ⟨Ai _,by have:=l9 q l;simp only[Ev];split<;>omega⟩ fun k ⟨hk,hi⟩=>?_;dsimp only[Ac,Af];have hlo:=l9 q (l.drop (k+1));rcases Ah k l.length with hk2|hk2
 ·have hone:=h k hk2
  (repeat' first|refine Ca 16 ?_;refine Cg (hc:=hone) ?_;try refine Ce ?_ ?_<;>intro hb|refine yyp ?_;try refine Ce ?_ ?_<;>intro hb|refine yy ?_|refine at_nil ?_;refine Cc Kv ?_|refine Cb fun K hK=>?_|apply_assumption -exfalso -symm)
  ·(refine j1 (j4 ⟨?_,rfl⟩))
   rw[hi,x8 _ _ _ hk2,Ad hb];simp[oneOf]
  ·refine⟨k+1,⟨by omega,?_⟩,by omega,k8⟩;rw[hi,x8 _ _ _ hk2,Ae (show ¬q l[k]=true by rw[hb];exact Ft)];split<;>split<;>(try split)<;>omega
 ·(repeat' first|refine yyp ?_;try refine Ce ?_ ?_<;>intro hb|refine yy ?_|refine at_nil ?_;refine Cc Kv ?_|refine Cb fun K hK=>?_|apply_assumption -exfalso -symm)
  (refine j1 (j4 ⟨?_,rfl⟩))
  have:k=l.length:=by omega
  rw[hi,this,Fk];simp[oneOf,jd8]
theorem vc5 (gl:List (Nat × List D))(q:Int->Bool)(l:List Int)(h:∀ (k:Nat) (hk:k<l.length),FnE prog gl 221 [.d (.int .u8 (l[k]))] [] (fun v H1=>v=.d (.bool (q l[k]))/\H1=[])):
 FnE prog gl 220 [.d (.list 1 (l.map (fun x=>.int .u8 (x)))),.clo (.func 221) [] []] [] (fun v H1=>v=.d (.bool (l.any q))/\H1=[]):=by
 have hix:=vc4 gl q l h;have hany:=je6 q l
 (refine j2 func220 ntmps220 results220 fun w M E b0=>?_)
 (repeat' first|refine Ca 7 ?_;refine Cg (hc:=hix) ?_|refine yyp ?_;try refine Ce ?_ ?_<;>intro hb|refine yy ?_|refine yy2 ?_ ?_<;>intro hcmp|refine at_nil ?_;refine Cc Sw ?_|refine Cb fun K hK=>?_|apply_assumption -exfalso -symm)
 all_goals (refine j1 (j4 ⟨?_,rfl⟩))
 all_goals simp only[oneOf,Bk,Be]
 all_goals first
  |exact(hany.1 (by omega)).symm
  |(symm;cases ha:l.any q with
   |false=>rfl
   |true=>exfalso;have:=hany.2 ha;omega)
theorem vc6 (gl:List (Nat × List D))(tag:ByteArray)(items:List D)(q:Va->Bool)(l:List Va)(h:∀ (k:Nat) (hk:k<l.length),FnE prog gl 200 [.d (dVa (l[k])),.ptr 4 0] [(4,.box [.d (.str tag),.d (.list 1 items)])] (fun v H1=>v=.d (.bool (q l[k]))/\H1=[(4,.box [.d (.str tag),.d (.list 1 items)])])):
 FnE prog gl 222 [.d (.list 2 (l.map (fun x=>dVa (x)))),.clo (.func 200) [] [.ptr 4 0]] [(4,.box [.d (.str tag),.d (.list 1 items)])] (fun v H1=>v=.d (.int .i64 (jd8 q l))/\H1=[(4,.box [.d (.str tag),.d (.list 1 items)])]):=by
 (refine j2 func222 ntmps222 results222 fun w M E b0=>?_)
 refine j8 0 rfl fun hn=>?_;simp only[Ab]at hn
 (repeat' first|refine yyp ?_;try refine Ce ?_ ?_<;>intro hb|refine yy ?_|refine at_nil ?_;refine Cc Kv ?_|refine Cb fun K hK=>?_|apply_assumption -exfalso -symm)
 refine j6 mk9 [] (fun k:Nat=>[(8,.d (.int .i64 k))]) (fun _=>[]) (fun k=>k<=l.length/\jd8 q l=if jd8 q (l.drop k)<0 then -1 else jd8 q (l.drop k)+k) (fun k=>l.length - k) 0 ⟨Ai _,by have:=l9 q l;simp only[Ev];split<;>omega⟩ fun k ⟨hk,hi⟩=>?_;dsimp only[Ac,Af];have hlo:=l9 q (l.drop (k+1));rcases Ah k l.length with hk2|hk2
 ·have hone:=h k hk2
  (repeat' first|refine Ca 16 ?_;refine Cg (hc:=hone) ?_;try refine Ce ?_ ?_<;>intro hb|refine yyp ?_;try refine Ce ?_ ?_<;>intro hb|refine yy ?_|refine at_nil ?_;refine Cc Kv ?_|refine Cb fun K hK=>?_|apply_assumption -exfalso -symm)
  ·(refine j1 (j4 ⟨?_,rfl⟩))
   rw[hi,x8 _ _ _ hk2,Ad hb];simp[oneOf]
  ·refine⟨k+1,⟨by omega,?_⟩,by omega,k8⟩;rw[hi,x8 _ _ _ hk2,Ae (show ¬q l[k]=true by rw[hb];exact Ft)];split<;>split<;>(try split)<;>omega
 ·(repeat' first|refine yyp ?_;try refine Ce ?_ ?_<;>intro hb|refine yy ?_|refine at_nil ?_;refine Cc Kv ?_|refine Cb fun K hK=>?_|apply_assumption -exfalso -symm)
  (refine j1 (j4 ⟨?_,rfl⟩))
  have:k=l.length:=by omega
  rw[hi,this,Fk];simp[oneOf,jd8]
theorem vc7 (gl:List (Nat × List D))(tag:ByteArray)(items:List D)(q:Va->Bool)(l:List Va)(h:∀ (k:Nat) (hk:k<l.length),FnE prog gl 200 [.d (dVa (l[k])),.ptr 4 0] [(4,.box [.d (.str tag),.d (.list 1 items)])] (fun v H1=>v=.d (.bool (q l[k]))/\H1=[(4,.box [.d (.str tag),.d (.list 1 items)])])):
 FnE prog gl 199 [.d (.list 2 (l.map (fun x=>dVa (x)))),.clo (.func 200) [] [.ptr 4 0]] [(4,.box [.d (.str tag),.d (.list 1 items)])] (fun v H1=>v=.d (.bool (l.any q))/\H1=[(4,.box [.d (.str tag),.d (.list 1 items)])]):=by
 have hix:=vc6 gl tag items q l h;have hany:=je6 q l
 (refine j2 func199 ntmps199 results199 fun w M E b0=>?_)
 (repeat' first|refine Ca 7 ?_;refine Cg (hc:=hix) ?_|refine yyp ?_;try refine Ce ?_ ?_<;>intro hb|refine yy ?_|refine yy2 ?_ ?_<;>intro hcmp|refine at_nil ?_;refine Cc Sw ?_|refine Cb fun K hK=>?_|apply_assumption -exfalso -symm)
 all_goals (refine j1 (j4 ⟨?_,rfl⟩))
 all_goals simp only[oneOf,Bk,Be]
 all_goals first
  |exact(hany.1 (by omega)).symm
  |(symm;cases ha:l.any q with
   |false=>rfl
   |true=>exfalso;have:=hany.2 ha;omega)
end
end Go.Proofs.YtklklgfpkpglgaaGreatDoor
