/- Parts: S4, S5, S6. -/
import Derived.Test.YtdopmfifmgkmoaaGreatDoorP13
set_option linter.all false
set_option maxRecDepth 100000
set_option maxHeartbeats 16000000
namespace Go.Proofs.YtdopmfifmgkmoaaGreatDoor
open Go.RowKit Go.Proofs.Tryz
section
def Wq:List Nat:=[0,1,4,5,6,7,13]
def Sc.W.room (σ:Sc.W)(m:Nat):Prop:=σ.ev.length+m<=1000000000
def Sc.nameOf (σ:Sc.W)(s:ByteArray):ByteArray × Sc.W:=match (σ.env s).getLast? with
 |some x=>(x.fresh,σ)
 |none=>(s,Sc.step σ s false)
attribute [local irreducible] TR TC
theorem jk4 (gl:List (Nat × List D))(k:Sc.Kind)(σ:Sc.W)(s:ByteArray)(hr:σ.room 1):FnE prog gl 56 [.ptr 900 0,.d (.str s)] (HW k σ)
 (fun v H1=>v=.d (.str (Sc.nameOf σ s).1)/\H1=HW k (Sc.nameOf σ s).2):=by
 unfold Sc.W.room at hr;have hf:=me0 gl k σ s;unfold Sc.nameOf;cases hg:(σ.env s).getLast? with
 |some x=>
  have he:(σ.env s).isEmpty=false:=by
   cases hl:σ.env s with
   |nil=>rw[hl]at hg;cases hg
   |cons=>rfl
  rw[hg,he]at hf;cases k
  all_goals dsimp only[HW,ja4,n6,Option.getD_some,Bool.not_false]at hf ⊢
  all_goals (refine j4 func56 ntmps56 results56 fun w M E b0=>?_)
  all_goals (repeat' first|refine Ca 10 ?_;refine Ch (hc:=hf) ?_|refine Ca 5 ?_;(refine Cj 5 ?_)|refine yyp ?_;try refine Cc ?_ ?_<;>intro hb|refine yy ?_|refine at_nil ?_;refine Ce Wq ?_|refine Cb fun K hK=>?_|apply_assumption -exfalso -symm)
  all_goals (refine j0 (j7 ⟨?_,rfl⟩))
  all_goals rfl
 |none=>
  have he:σ.env s=[]:=List.getLast?_eq_none_iff.1 hg;rw[he]at hf;cases k with
  |free=>
   have hm:=kq7 gl σ s false (by omega);dsimp only[HW,ja4,n6,Sc.step,List.getLast?_nil,Option.getD_none,List.isEmpty_nil,Bool.not_true]at hf hm ⊢;generalize Sc.Ih (σ.ev++[(s,false)])=r at hm ⊢
   (refine j4 func56 ntmps56 results56 fun w M E b0=>?_)
   (repeat' first|refine Ca 10 ?_;refine Ch (hc:=hf) ?_|refine Ca 5 ?_;(refine Cj 5 ?_)|refine Ca 21 ?_;refine Ch (hc:=hm) ?_|refine yyp ?_;try refine Cc ?_ ?_<;>intro hb|refine yy ?_|refine at_nil ?_;refine Ce Wq ?_|refine Cb fun K hK=>?_|apply_assumption -exfalso -symm)
   (refine j0 (j7 ⟨?_,rfl⟩))
   rfl
  |none=>
   have hm:=jx7 gl s false;dsimp only[HW,ja4,n6,Sc.step,List.getLast?_nil,Option.getD_none,List.isEmpty_nil,Bool.not_true]at hf hm ⊢
   (refine j4 func56 ntmps56 results56 fun w M E b0=>?_)
   (repeat' first|refine Ca 10 ?_;refine Ch (hc:=hf) ?_|refine Ca 5 ?_;(refine Cj 5 ?_)|refine Ca 21 ?_;refine Ch (hc:=hm) ?_|refine yyp ?_;try refine Cc ?_ ?_<;>intro hb|refine yy ?_|refine at_nil ?_;refine Ce Wq ?_|refine Cb fun K hK=>?_|apply_assumption -exfalso -symm)
   (refine j0 (j7 ⟨?_,rfl⟩))
   rfl
  |check ns=>
   have hm:=ke6 gl ns σ s false;dsimp only[HW,ja4,n6,Sc.step,List.getLast?_nil,Option.getD_none,List.isEmpty_nil,Bool.not_true]at hf hm ⊢;generalize Sc.Hu ns (σ.ev++[(s,false)])=r at hm ⊢
   (refine j4 func56 ntmps56 results56 fun w M E b0=>?_)
   (repeat' first|refine Ca 10 ?_;refine Ch (hc:=hf) ?_|refine Ca 5 ?_;(refine Cj 5 ?_)|refine Ca 21 ?_;refine Ch (hc:=hm) ?_|refine yyp ?_;try refine Cc ?_ ?_<;>intro hb|refine yy ?_|refine at_nil ?_;refine Ce Wq ?_|refine Cb fun K hK=>?_|apply_assumption -exfalso -symm)
   (refine j0 (j7 ⟨?_,rfl⟩))
   rfl
end
section
def Rv:List Nat:=[0,1,4,5,7,10,14,15,16,17]
def Dt (kind:Int):Bool:=kind == 4 || kind == 5 || kind == 9
mutual
def j2 (σ:Sc.W):Ex->Ex × Sc.W
 |.mk kind op ty n s l=>
  let r:=if Dt kind then Sc.nameOf σ s else (s,σ)
  let q:=l3 r.2 l
  (.mk kind op ty n r.1 q.1,q.2)
def l3 (σ:Sc.W):List Ex->List Ex × Sc.W
 |[]=>([],σ)
 |e::l=>((j2 σ e).1::(l3 (j2 σ e).2 l).1,(l3 (j2 σ e).2 l).2)
end
def Cv {α:Type}(f:Sc.W->α->α × Sc.W)(σ:Sc.W):List α->List α × Sc.W
 |[]=>([],σ)
 |e::l=>((f σ e).1::(Cv f (f σ e).2 l).1,(Cv f (f σ e).2 l).2)
theorem z7 {α:Type}(f:Sc.W->α->α × Sc.W):∀ (l:List α) (σ:Sc.W) (j:Nat) (hj:j<l.length),
 (Cv f σ (l.take (j+1)))=((Cv f σ (l.take j)).1++[(f (Cv f σ (l.take j)).2 l[j]).1],(f (Cv f σ (l.take j)).2 l[j]).2)
 |[],_,_,h=>by simp at h
 |x::l,σ,0,_=>by simp[Cv]
 |x::l,σ,j+1,h=>by
  have:=z7 f l (f σ x).2 j (by simpa using h);simp only[Eg,Cv,this,Bz,Ac]
theorem z8 {α:Type}(f:Sc.W->α->α × Sc.W):∀ (l:List α) (σ:Sc.W),(Cv f σ l).1.length=l.length
 |[],_=>rfl
 |x::l,σ=>by simp[Cv,z8 f l]
theorem ja5:∀ (l:List Ex) (σ:Sc.W),l3 σ l=Cv j2 σ l
 |[],σ=>by simp[l3,Cv]
 |e::l,σ=>by simp only[l3,Cv,ja5 l]
attribute [local irreducible] TR TC
theorem ka8 (gl:List (Nat × List D))(k:Sc.Kind)(l:List Ex)(σ:Sc.W)(hl:l.length<=1000000000)
 (h1:∀ (j:Nat) (hj:j<l.length),FnE prog gl 58 [.ptr 900 0,.d (dEx l[j])] (HW k (Cv j2 σ (l.take j)).2)
   (fun v H1=>v=.d (dEx (j2 (Cv j2 σ (l.take j)).2 l[j]).1)/\H1=HW k (j2 (Cv j2 σ (l.take j)).2 l[j]).2)):
 FnE prog gl 59 [.d (.list 6 (l.map dEx)),.clo (.func 58) [.ptr 900 0] []] (HW k σ)
  (fun v H1=>v=.d (.list 6 ((Cv j2 σ l).1.map dEx))/\H1=HW k (Cv j2 σ l).2):=by
 simp only[r9]at h1 ⊢;cases k
 all_goals dsimp only[HW,ja4,n6]at h1 ⊢
 case free=>
  (refine j4 func59 ntmps59 results59 fun w M E b0=>?_)
  (repeat' first|refine Ca 13 ?_;(refine jc3 13 ?_)|refine yyp ?_;try refine Cc ?_ ?_<;>intro hb|refine yy ?_|refine yy2 ?_ ?_<;>intro hcmp|refine at_nil ?_;refine Ce Rv ?_|refine Cb fun K hK=>?_|apply_assumption -exfalso -symm)
  ·have h0:l=[]:=At (by omega);subst h0
   (refine j0 (j7 ⟨?_,rfl⟩))
   rfl
  refine jg6 (fun x:Nat × Nat=>⟨[(16,.d (.int .i64 x.1)),(15,.d (.int .i64 l.length)),(14,.d (.list 6 (l.map dE))),(5,.own 13 x.2),(1,.clo (.func 58) [.ptr 900 0] [])],(13,.row 28 6 true ((Cv j2 σ (l.take x.1)).1.map dE) x.2)::HW .free (Cv j2 σ (l.take x.1)).2,gl⟩)
   (fun x=>x.1<=l.length) (fun x=>l.length - x.1) (0,0) (Ak _) v6 fun⟨j,kv⟩ hj=>?_
  dsimp only[HW,ja4,n6]at hj ⊢;have hlen:=z8 j2 (l.take j) σ;simp only[Aj]at hlen;rcases Ah j l.length with hj2|hj2
  ·have hone:=h1 j hj2
   (repeat' first|refine Ca 7 ?_;(refine Cj 7 ?_)|refine Ca 23 ?_;refine Ch (hc:=hone) ?_|refine Ca 24 ?_;(refine Dh 24 ?_)|refine yyp ?_;try refine Cc ?_ ?_<;>intro hb|refine yy ?_|(refine Cq ?_;first|(refine Cs (fun kv=>?_))|(refine z_append_suf (fun sx sp kv hsx hsp hsl=>?_)))|refine at_nil ?_;refine Ce Rv ?_|refine Cb fun K hK=>?_|apply_assumption -exfalso -symm)
   refine⟨(j+1,kv),by dsimp only;omega,by dsimp only;omega,?_⟩;dsimp only;rw[z7 j2 l σ j hj2];simp only[Ap,Am,Aw];exact v6
  (repeat' first|refine yyp ?_;try refine Cc ?_ ?_<;>intro hb|refine yy ?_|refine at_nil ?_;refine Ce Rv ?_|refine Cb fun K hK=>?_|apply_assumption -exfalso -symm)
  have hjl:j=l.length:=by omega
  subst hjl;rw[Au]
  (refine j0 (j7 ⟨?_,rfl⟩))
  rfl
 case check ns=>
  (refine j4 func59 ntmps59 results59 fun w M E b0=>?_)
  (repeat' first|refine Ca 13 ?_;(refine jc3 13 ?_)|refine yyp ?_;try refine Cc ?_ ?_<;>intro hb|refine yy ?_|refine yy2 ?_ ?_<;>intro hcmp|refine at_nil ?_;refine Ce Rv ?_|refine Cb fun K hK=>?_|apply_assumption -exfalso -symm)
  ·have h0:l=[]:=At (by omega);subst h0
   (refine j0 (j7 ⟨?_,rfl⟩))
   rfl
  refine jg6 (fun x:Nat × Nat=>⟨[(16,.d (.int .i64 x.1)),(15,.d (.int .i64 l.length)),(14,.d (.list 6 (l.map dE))),(5,.own 13 x.2),(1,.clo (.func 58) [.ptr 900 0] [])],(13,.row 28 6 true ((Cv j2 σ (l.take x.1)).1.map dE) x.2)::HW (.check ns) (Cv j2 σ (l.take x.1)).2,gl⟩)
   (fun x=>x.1<=l.length) (fun x=>l.length - x.1) (0,0) (Ak _) v6 fun⟨j,kv⟩ hj=>?_
  dsimp only[HW,ja4,n6]at hj ⊢;have hlen:=z8 j2 (l.take j) σ;simp only[Aj]at hlen;rcases Ah j l.length with hj2|hj2
  ·have hone:=h1 j hj2
   (repeat' first|refine Ca 7 ?_;(refine Cj 7 ?_)|refine Ca 23 ?_;refine Ch (hc:=hone) ?_|refine Ca 24 ?_;(refine Dh 24 ?_)|refine yyp ?_;try refine Cc ?_ ?_<;>intro hb|refine yy ?_|(refine Cq ?_;first|(refine Cs (fun kv=>?_))|(refine z_append_suf (fun sx sp kv hsx hsp hsl=>?_)))|refine at_nil ?_;refine Ce Rv ?_|refine Cb fun K hK=>?_|apply_assumption -exfalso -symm)
   refine⟨(j+1,kv),by dsimp only;omega,by dsimp only;omega,?_⟩;dsimp only;rw[z7 j2 l σ j hj2];simp only[Ap,Am,Aw];exact v6
  (repeat' first|refine yyp ?_;try refine Cc ?_ ?_<;>intro hb|refine yy ?_|refine at_nil ?_;refine Ce Rv ?_|refine Cb fun K hK=>?_|apply_assumption -exfalso -symm)
  have hjl:j=l.length:=by omega
  subst hjl;rw[Au]
  (refine j0 (j7 ⟨?_,rfl⟩))
  rfl
 case none=>
  (refine j4 func59 ntmps59 results59 fun w M E b0=>?_)
  (repeat' first|refine Ca 13 ?_;(refine jc3 13 ?_)|refine yyp ?_;try refine Cc ?_ ?_<;>intro hb|refine yy ?_|refine yy2 ?_ ?_<;>intro hcmp|refine at_nil ?_;refine Ce Rv ?_|refine Cb fun K hK=>?_|apply_assumption -exfalso -symm)
  ·have h0:l=[]:=At (by omega);subst h0
   (refine j0 (j7 ⟨?_,rfl⟩))
   rfl
  refine jg6 (fun x:Nat × Nat=>⟨[(16,.d (.int .i64 x.1)),(15,.d (.int .i64 l.length)),(14,.d (.list 6 (l.map dE))),(5,.own 13 x.2),(1,.clo (.func 58) [.ptr 900 0] [])],(13,.row 28 6 true ((Cv j2 σ (l.take x.1)).1.map dE) x.2)::HW .none (Cv j2 σ (l.take x.1)).2,gl⟩)
   (fun x=>x.1<=l.length) (fun x=>l.length - x.1) (0,0) (Ak _) v6 fun⟨j,kv⟩ hj=>?_
  dsimp only[HW,ja4,n6]at hj ⊢;have hlen:=z8 j2 (l.take j) σ;simp only[Aj]at hlen;rcases Ah j l.length with hj2|hj2
  ·have hone:=h1 j hj2
   (repeat' first|refine Ca 7 ?_;(refine Cj 7 ?_)|refine Ca 23 ?_;refine Ch (hc:=hone) ?_|refine Ca 24 ?_;(refine Dh 24 ?_)|refine yyp ?_;try refine Cc ?_ ?_<;>intro hb|refine yy ?_|(refine Cq ?_;first|(refine Cs (fun kv=>?_))|(refine z_append_suf (fun sx sp kv hsx hsp hsl=>?_)))|refine at_nil ?_;refine Ce Rv ?_|refine Cb fun K hK=>?_|apply_assumption -exfalso -symm)
   refine⟨(j+1,kv),by dsimp only;omega,by dsimp only;omega,?_⟩;dsimp only;rw[z7 j2 l σ j hj2];simp only[Ap,Am,Aw];exact v6
  (repeat' first|refine yyp ?_;try refine Cc ?_ ?_<;>intro hb|refine yy ?_|refine at_nil ?_;refine Ce Rv ?_|refine Cb fun K hK=>?_|apply_assumption -exfalso -symm)
  have hjl:j=l.length:=by omega
  subst hjl;rw[Au]
  (refine j0 (j7 ⟨?_,rfl⟩))
  rfl
end
section
theorem mj8 (σ:Sc.W)(s:ByteArray):(Sc.nameOf σ s).2.ev.length<=σ.ev.length+1:=by
 unfold Sc.nameOf;split
 ·exact Nat.le_succ _
 ·simp[Sc.step]
mutual
theorem qp3:∀ (e:Ex) (σ:Sc.W),(j2 σ e).2.ev.length<=σ.ev.length+exN e
 |.mk kind op ty n s l,σ=>by
  simp only[j2,exN];have h:=kf6 l (if Dt kind then Sc.nameOf σ s else (s,σ)).2;have h2:=mj8 σ s;split at h
  ·rename_i h1;simp only[h1,if_true];omega
  ·rename_i h1;simp only[h1,if_false,Ay];dsimp only at h ⊢;omega
theorem kf6:∀ (l:List Ex) (σ:Sc.W),(l3 σ l).2.ev.length<=σ.ev.length+Hr l
 |[],σ=>by simp[l3,Hr]
 |e::l,σ=>by
  simp only[l3,Hr];have h1:=qp3 e σ;have h2:=kf6 l (j2 σ e).2;omega
end
attribute [local irreducible] TR TC
theorem qa6 (gl:List (Nat × List D))(k:Sc.Kind):∀ (m:Nat) (e:Ex) (σ:Sc.W),exN e<=m->σ.room (exN e)->FnE prog gl 58 [.ptr 900 0,.d (dEx e)] (HW k σ)
 (fun v H1=>v=.d (dEx (j2 σ e).1)/\H1=HW k (j2 σ e).2):=by
 intro m
 induction m with
 |zero=>intro e σ h;have:=jm4 e;omega
 |succ m ih=>
  rintro⟨kind,op,ty,n,s,l⟩ σ hm hr;unfold Sc.W.room at hr;simp only[exN]at hm hr;have hlen:=n7 l;have hn:=jk4 gl k σ s (by unfold Sc.W.room;omega);have hnl:=mj8 σ s;have he:∀ σ1:Sc.W,σ1.ev.length+Hr l<=1000000000->_:=fun σ1 h1=>ka8 gl k l σ1 (by omega) fun j hj=>ih l[j] _ (by have:=n5 l j hj;omega) (by
   have h2:=kf6 (l.take j) σ1;rw[ja5]at h2;have:=n5 l j hj;unfold Sc.W.room;omega)
  have h1:=he σ (by omega);have h2:=he (Sc.nameOf σ s).2 (by omega);clear he ih;simp only[j2,ja5];cases hk:Dt kind with
  |true=>
   simp only[if_true];generalize Sc.nameOf σ s=r at hn h2 ⊢;generalize Cv j2 r.2 l=q at h2 ⊢;rw[congrFun r9 (Ex.mk kind op ty n s l),congrFun r9 (Ex.mk kind op ty n r.1 q.1)];cases k
   all_goals dsimp only[HW,ja4,n6]at hn h2 ⊢
   all_goals (refine j4 func58 ntmps58 results58 fun w M E b0=>?_)
   all_goals (repeat' first|refine Ca 3 ?_;(refine j6 3 ?_)|refine Ca 4 ?_;(refine Cj 4 ?_)|refine Ca 14 ?_;refine Ch (hc:=hn) ?_|refine Ca 20 ?_;refine Ch (hc:=h2) ?_|refine yyp ?_;try refine Cc ?_ ?_<;>intro hb|refine yy ?_|refine yy2 ?_ ?_<;>intro hcmp|refine at_nil ?_;refine Ce [0,1,3,4,5,6,7,28] ?_|refine Cb fun K hK=>?_|apply_assumption -exfalso -symm)
   all_goals first
    |(exfalso;simp only[Dt,Ex.kind,Bo,Eb]at *;omega)
    |((refine j0 (j7 ⟨?_,rfl⟩))
      rfl)
  |false=>
   simp only[if_false,Ay];generalize Cv j2 σ l=q at h1 ⊢;rw[congrFun r9 (Ex.mk kind op ty n s l),congrFun r9 (Ex.mk kind op ty n s q.1)];clear hn h2;cases k
   all_goals dsimp only[HW,ja4,n6]at h1 ⊢
   all_goals (refine j4 func58 ntmps58 results58 fun w M E b0=>?_)
   all_goals (repeat' first|refine Ca 3 ?_;(refine j6 3 ?_)|refine Ca 4 ?_;(refine Cj 4 ?_)|refine Ca 20 ?_;refine Ch (hc:=h1) ?_|refine yyp ?_;try refine Cc ?_ ?_<;>intro hb|refine yy ?_|refine yy2 ?_ ?_<;>intro hcmp|refine at_nil ?_;refine Ce [0,1,3,4,5,6,7,28] ?_|refine Cb fun K hK=>?_|apply_assumption -exfalso -symm)
   all_goals first
    |(exfalso;simp only[Dt,Ex.kind,Bool.or_eq_false_iff,beq_eq_false_iff_ne,ne_eq]at *;omega)
    |((refine j0 (j7 ⟨?_,rfl⟩))
      rfl)
end
end Go.Proofs.YtdopmfifmgkmoaaGreatDoor
