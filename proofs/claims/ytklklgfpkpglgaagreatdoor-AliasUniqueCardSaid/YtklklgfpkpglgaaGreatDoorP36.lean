/- Parts: S4, S5, S6. -/
import Derived.Test.YtklklgfpkpglgaaGreatDoorP15
set_option linter.all false
set_option maxRecDepth 100000
set_option maxHeartbeats 16000000
namespace Go.Proofs.YtklklgfpkpglgaaGreatDoor
open Go.RowKit Go.Proofs.Tryz
section
def Vo:List Nat:=[0,1,4,5,6,7,13]
def Sc.W.room (σ:Sc.W)(m:Nat):Prop:=σ.ev.length+m<=1000000000
def Sc.nameOf (σ:Sc.W)(s:ByteArray):ByteArray × Sc.W:=match (σ.env s).getLast? with
 |some x=>(x.fresh,σ)
 |none=>(s,Sc.step σ s false)
attribute [local irreducible] TR TC
theorem jm7 (gl:List (Nat × List D))(k:Sc.Kind)(σ:Sc.W)(s:ByteArray)(hr:σ.room 1):FnE prog gl 46 [.ptr 900 0,.d (.str s)] (HW k σ)
 (fun v H1=>v=.d (.str (Sc.nameOf σ s).1)/\H1=HW k (Sc.nameOf σ s).2):=by
 unfold Sc.W.room at hr;have hf:=mk8 gl k σ s;unfold Sc.nameOf;cases hg:(σ.env s).getLast? with
 |some x=>
  have he:(σ.env s).isEmpty=false:=by
   cases hl:σ.env s with
   |nil=>rw[hl]at hg;cases hg
   |cons=>rfl
  rw[hg,he]at hf;cases k
  all_goals dsimp only[HW,ja0,z6,Option.getD_some,Bool.not_false]at hf ⊢
  all_goals (refine j2 func46 ntmps46 results46 fun w M E b0=>?_)
  all_goals (repeat' first|refine Ca 10 ?_;refine Cg (hc:=hf) ?_|refine Ca 5 ?_;(refine j3 5 ?_)|refine yyp ?_;try refine Ce ?_ ?_<;>intro hb|refine yy ?_|refine at_nil ?_;refine Cc Vo ?_|refine Cb fun K hK=>?_|apply_assumption -exfalso -symm)
  all_goals (refine j1 (j4 ⟨?_,rfl⟩))
  all_goals rfl
 |none=>
  have he:σ.env s=[]:=List.getLast?_eq_none_iff.1 hg;rw[he]at hf;cases k with
  |free=>
   have hm:=ku6 gl σ s false (by omega);dsimp only[HW,ja0,z6,Sc.step,List.getLast?_nil,Option.getD_none,List.isEmpty_nil,Bool.not_true]at hf hm ⊢;generalize Sc.Hw (σ.ev++[(s,false)])=r at hm ⊢
   (refine j2 func46 ntmps46 results46 fun w M E b0=>?_)
   (repeat' first|refine Ca 10 ?_;refine Cg (hc:=hf) ?_|refine Ca 5 ?_;(refine j3 5 ?_)|refine Ca 21 ?_;refine Cg (hc:=hm) ?_|refine yyp ?_;try refine Ce ?_ ?_<;>intro hb|refine yy ?_|refine at_nil ?_;refine Cc Vo ?_|refine Cb fun K hK=>?_|apply_assumption -exfalso -symm)
   (refine j1 (j4 ⟨?_,rfl⟩))
   rfl
  |none=>
   have hm:=kb3 gl s false;dsimp only[HW,ja0,z6,Sc.step,List.getLast?_nil,Option.getD_none,List.isEmpty_nil,Bool.not_true]at hf hm ⊢
   (refine j2 func46 ntmps46 results46 fun w M E b0=>?_)
   (repeat' first|refine Ca 10 ?_;refine Cg (hc:=hf) ?_|refine Ca 5 ?_;(refine j3 5 ?_)|refine Ca 21 ?_;refine Cg (hc:=hm) ?_|refine yyp ?_;try refine Ce ?_ ?_<;>intro hb|refine yy ?_|refine at_nil ?_;refine Cc Vo ?_|refine Cb fun K hK=>?_|apply_assumption -exfalso -symm)
   (refine j1 (j4 ⟨?_,rfl⟩))
   rfl
  |check ns=>
   have hm:=ki8 gl ns σ s false;dsimp only[HW,ja0,z6,Sc.step,List.getLast?_nil,Option.getD_none,List.isEmpty_nil,Bool.not_true]at hf hm ⊢;generalize Sc.Ih ns (σ.ev++[(s,false)])=r at hm ⊢
   (refine j2 func46 ntmps46 results46 fun w M E b0=>?_)
   (repeat' first|refine Ca 10 ?_;refine Cg (hc:=hf) ?_|refine Ca 5 ?_;(refine j3 5 ?_)|refine Ca 21 ?_;refine Cg (hc:=hm) ?_|refine yyp ?_;try refine Ce ?_ ?_<;>intro hb|refine yy ?_|refine at_nil ?_;refine Cc Vo ?_|refine Cb fun K hK=>?_|apply_assumption -exfalso -symm)
   (refine j1 (j4 ⟨?_,rfl⟩))
   rfl
end
section
def Rh:List Nat:=[0,1,4,5,7,10,14,15,16,17]
def Dl (kind:Int):Bool:=kind == 4 || kind == 5 || kind == 9
mutual
def Cj (σ:Sc.W):Ex->Ex × Sc.W
 |.mk kind op ty n s l=>
  let r:=if Dl kind then Sc.nameOf σ s else (s,σ)
  let q:=x6 r.2 l
  (.mk kind op ty n r.1 q.1,q.2)
def x6 (σ:Sc.W):List Ex->List Ex × Sc.W
 |[]=>([],σ)
 |e::l=>((Cj σ e).1::(x6 (Cj σ e).2 l).1,(x6 (Cj σ e).2 l).2)
end
def v7 {α:Type}(f:Sc.W->α->α × Sc.W)(σ:Sc.W):List α->List α × Sc.W
 |[]=>([],σ)
 |e::l=>((f σ e).1::(v7 f (f σ e).2 l).1,(v7 f (f σ e).2 l).2)
theorem g9 {α:Type}(f:Sc.W->α->α × Sc.W):∀ (l:List α) (σ:Sc.W) (j:Nat) (hj:j<l.length),
 (v7 f σ (l.take (j+1)))=((v7 f σ (l.take j)).1++[(f (v7 f σ (l.take j)).2 l[j]).1],(f (v7 f σ (l.take j)).2 l[j]).2)
 |[],_,_,h=>by simp at h
 |x::l,σ,0,_=>by simp[v7]
 |x::l,σ,j+1,h=>by
  have:=g9 f l (f σ x).2 j (by simpa using h);simp only[Fc,v7,this,Ff,Ac]
theorem n8 {α:Type}(f:Sc.W->α->α × Sc.W):∀ (l:List α) (σ:Sc.W),(v7 f σ l).1.length=l.length
 |[],_=>rfl
 |x::l,σ=>by simp[v7,n8 f l]
theorem ja3:∀ (l:List Ex) (σ:Sc.W),x6 σ l=v7 Cj σ l
 |[],σ=>by simp[x6,v7]
 |e::l,σ=>by simp only[x6,v7,ja3 l]
attribute [local irreducible] TR TC
theorem kf0 (gl:List (Nat × List D))(k:Sc.Kind)(l:List Ex)(σ:Sc.W)(hl:l.length<=1000000000)
 (h1:∀ (j:Nat) (hj:j<l.length),FnE prog gl 48 [.ptr 900 0,.d (dEx l[j])] (HW k (v7 Cj σ (l.take j)).2)
   (fun v H1=>v=.d (dEx (Cj (v7 Cj σ (l.take j)).2 l[j]).1)/\H1=HW k (Cj (v7 Cj σ (l.take j)).2 l[j]).2)):
 FnE prog gl 49 [.d (.list 6 (l.map dEx)),.clo (.func 48) [.ptr 900 0] []] (HW k σ)
  (fun v H1=>v=.d (.list 6 ((v7 Cj σ l).1.map dEx))/\H1=HW k (v7 Cj σ l).2):=by
 simp only[k9]at h1 ⊢;cases k
 all_goals dsimp only[HW,ja0,z6]at h1 ⊢
 case free=>
  (refine j2 func49 ntmps49 results49 fun w M E b0=>?_)
  (repeat' first|refine Ca 13 ?_;(refine jc1 13 ?_)|refine yyp ?_;try refine Ce ?_ ?_<;>intro hb|refine yy ?_|refine yy2 ?_ ?_<;>intro hcmp|refine at_nil ?_;refine Cc Rh ?_|refine Cb fun K hK=>?_|apply_assumption -exfalso -symm)
  ·have h0:l=[]:=Ar (by omega);subst h0
   (refine j1 (j4 ⟨?_,rfl⟩))
   rfl
  refine ji2 (fun x:Nat × Nat=>⟨[(16,.d (.int .i64 x.1)),(15,.d (.int .i64 l.length)),(14,.d (.list 6 (l.map dE))),(5,.own 13 x.2),(1,.clo (.func 48) [.ptr 900 0] [])],(13,.row 28 6 true ((v7 Cj σ (l.take x.1)).1.map dE) x.2)::HW .free (v7 Cj σ (l.take x.1)).2,gl⟩)
   (fun x=>x.1<=l.length) (fun x=>l.length - x.1) (0,0) (Ai _) k8 fun⟨j,kv⟩ hj=>?_
  dsimp only[HW,ja0,z6]at hj ⊢;have hlen:=n8 Cj (l.take j) σ;simp only[Aj]at hlen;rcases Ah j l.length with hj2|hj2
  ·have hone:=h1 j hj2
   (repeat' first|refine Ca 7 ?_;(refine j3 7 ?_)|refine Ca 23 ?_;refine Cg (hc:=hone) ?_|refine Ca 24 ?_;(refine Dn 24 ?_)|refine yyp ?_;try refine Ce ?_ ?_<;>intro hb|refine yy ?_|(refine Da ?_;first|(refine Df (fun kv=>?_))|(refine z_append_suf (fun sx sp kv hsx hsp hsl=>?_)))|refine at_nil ?_;refine Cc Rh ?_|refine Cb fun K hK=>?_|apply_assumption -exfalso -symm)
   refine⟨(j+1,kv),by dsimp only;omega,by dsimp only;omega,?_⟩;dsimp only;rw[g9 Cj l σ j hj2];simp only[As,Aq,Ax];exact k8
  (repeat' first|refine yyp ?_;try refine Ce ?_ ?_<;>intro hb|refine yy ?_|refine at_nil ?_;refine Cc Rh ?_|refine Cb fun K hK=>?_|apply_assumption -exfalso -symm)
  have hjl:j=l.length:=by omega
  subst hjl;rw[Bg]
  (refine j1 (j4 ⟨?_,rfl⟩))
  rfl
 case check ns=>
  (refine j2 func49 ntmps49 results49 fun w M E b0=>?_)
  (repeat' first|refine Ca 13 ?_;(refine jc1 13 ?_)|refine yyp ?_;try refine Ce ?_ ?_<;>intro hb|refine yy ?_|refine yy2 ?_ ?_<;>intro hcmp|refine at_nil ?_;refine Cc Rh ?_|refine Cb fun K hK=>?_|apply_assumption -exfalso -symm)
  ·have h0:l=[]:=Ar (by omega);subst h0
   (refine j1 (j4 ⟨?_,rfl⟩))
   rfl
  refine ji2 (fun x:Nat × Nat=>⟨[(16,.d (.int .i64 x.1)),(15,.d (.int .i64 l.length)),(14,.d (.list 6 (l.map dE))),(5,.own 13 x.2),(1,.clo (.func 48) [.ptr 900 0] [])],(13,.row 28 6 true ((v7 Cj σ (l.take x.1)).1.map dE) x.2)::HW (.check ns) (v7 Cj σ (l.take x.1)).2,gl⟩)
   (fun x=>x.1<=l.length) (fun x=>l.length - x.1) (0,0) (Ai _) k8 fun⟨j,kv⟩ hj=>?_
  dsimp only[HW,ja0,z6]at hj ⊢;have hlen:=n8 Cj (l.take j) σ;simp only[Aj]at hlen;rcases Ah j l.length with hj2|hj2
  ·have hone:=h1 j hj2
   (repeat' first|refine Ca 7 ?_;(refine j3 7 ?_)|refine Ca 23 ?_;refine Cg (hc:=hone) ?_|refine Ca 24 ?_;(refine Dn 24 ?_)|refine yyp ?_;try refine Ce ?_ ?_<;>intro hb|refine yy ?_|(refine Da ?_;first|(refine Df (fun kv=>?_))|(refine z_append_suf (fun sx sp kv hsx hsp hsl=>?_)))|refine at_nil ?_;refine Cc Rh ?_|refine Cb fun K hK=>?_|apply_assumption -exfalso -symm)
   refine⟨(j+1,kv),by dsimp only;omega,by dsimp only;omega,?_⟩;dsimp only;rw[g9 Cj l σ j hj2];simp only[As,Aq,Ax];exact k8
  (repeat' first|refine yyp ?_;try refine Ce ?_ ?_<;>intro hb|refine yy ?_|refine at_nil ?_;refine Cc Rh ?_|refine Cb fun K hK=>?_|apply_assumption -exfalso -symm)
  have hjl:j=l.length:=by omega
  subst hjl;rw[Bg]
  (refine j1 (j4 ⟨?_,rfl⟩))
  rfl
 case none=>
  (refine j2 func49 ntmps49 results49 fun w M E b0=>?_)
  (repeat' first|refine Ca 13 ?_;(refine jc1 13 ?_)|refine yyp ?_;try refine Ce ?_ ?_<;>intro hb|refine yy ?_|refine yy2 ?_ ?_<;>intro hcmp|refine at_nil ?_;refine Cc Rh ?_|refine Cb fun K hK=>?_|apply_assumption -exfalso -symm)
  ·have h0:l=[]:=Ar (by omega);subst h0
   (refine j1 (j4 ⟨?_,rfl⟩))
   rfl
  refine ji2 (fun x:Nat × Nat=>⟨[(16,.d (.int .i64 x.1)),(15,.d (.int .i64 l.length)),(14,.d (.list 6 (l.map dE))),(5,.own 13 x.2),(1,.clo (.func 48) [.ptr 900 0] [])],(13,.row 28 6 true ((v7 Cj σ (l.take x.1)).1.map dE) x.2)::HW .none (v7 Cj σ (l.take x.1)).2,gl⟩)
   (fun x=>x.1<=l.length) (fun x=>l.length - x.1) (0,0) (Ai _) k8 fun⟨j,kv⟩ hj=>?_
  dsimp only[HW,ja0,z6]at hj ⊢;have hlen:=n8 Cj (l.take j) σ;simp only[Aj]at hlen;rcases Ah j l.length with hj2|hj2
  ·have hone:=h1 j hj2
   (repeat' first|refine Ca 7 ?_;(refine j3 7 ?_)|refine Ca 23 ?_;refine Cg (hc:=hone) ?_|refine Ca 24 ?_;(refine Dn 24 ?_)|refine yyp ?_;try refine Ce ?_ ?_<;>intro hb|refine yy ?_|(refine Da ?_;first|(refine Df (fun kv=>?_))|(refine z_append_suf (fun sx sp kv hsx hsp hsl=>?_)))|refine at_nil ?_;refine Cc Rh ?_|refine Cb fun K hK=>?_|apply_assumption -exfalso -symm)
   refine⟨(j+1,kv),by dsimp only;omega,by dsimp only;omega,?_⟩;dsimp only;rw[g9 Cj l σ j hj2];simp only[As,Aq,Ax];exact k8
  (repeat' first|refine yyp ?_;try refine Ce ?_ ?_<;>intro hb|refine yy ?_|refine at_nil ?_;refine Cc Rh ?_|refine Cb fun K hK=>?_|apply_assumption -exfalso -symm)
  have hjl:j=l.length:=by omega
  subst hjl;rw[Bg]
  (refine j1 (j4 ⟨?_,rfl⟩))
  rfl
end
section
theorem mt6 (σ:Sc.W)(s:ByteArray):(Sc.nameOf σ s).2.ev.length<=σ.ev.length+1:=by
 unfold Sc.nameOf;split
 ·exact Nat.le_succ _
 ·simp[Sc.step]
mutual
theorem qz8:∀ (e:Ex) (σ:Sc.W),(Cj σ e).2.ev.length<=σ.ev.length+exN e
 |.mk kind op ty n s l,σ=>by
  simp only[Cj,exN];have h:=km2 l (if Dl kind then Sc.nameOf σ s else (s,σ)).2;have h2:=mt6 σ s;split at h
  ·rename_i h1;simp only[h1,if_true];omega
  ·rename_i h1;simp only[h1,if_false,Ba];dsimp only at h ⊢;omega
theorem km2:∀ (l:List Ex) (σ:Sc.W),(x6 σ l).2.ev.length<=σ.ev.length+Gj l
 |[],σ=>by simp[x6,Gj]
 |e::l,σ=>by
  simp only[x6,Gj];have h1:=qz8 e σ;have h2:=km2 l (Cj σ e).2;omega
end
attribute [local irreducible] TR TC
theorem ql1 (gl:List (Nat × List D))(k:Sc.Kind):∀ (m:Nat) (e:Ex) (σ:Sc.W),exN e<=m->σ.room (exN e)->FnE prog gl 48 [.ptr 900 0,.d (dEx e)] (HW k σ)
 (fun v H1=>v=.d (dEx (Cj σ e).1)/\H1=HW k (Cj σ e).2):=by
 intro m
 induction m with
 |zero=>intro e σ h;have:=kb2 e;omega
 |succ m ih=>
  rintro⟨kind,op,ty,n,s,l⟩ σ hm hr;unfold Sc.W.room at hr;simp only[exN]at hm hr;have hlen:=n5 l;have hn:=jm7 gl k σ s (by unfold Sc.W.room;omega);have hnl:=mt6 σ s;have he:∀ σ1:Sc.W,σ1.ev.length+Gj l<=1000000000->_:=fun σ1 h1=>kf0 gl k l σ1 (by omega) fun j hj=>ih l[j] _ (by have:=z1 l j hj;omega) (by
   have h2:=km2 (l.take j) σ1;rw[ja3]at h2;have:=z1 l j hj;unfold Sc.W.room;omega)
  have h1:=he σ (by omega);have h2:=he (Sc.nameOf σ s).2 (by omega);clear he ih;simp only[Cj,ja3];cases hk:Dl kind with
  |true=>
   simp only[if_true];generalize Sc.nameOf σ s=r at hn h2 ⊢;generalize v7 Cj r.2 l=q at h2 ⊢;rw[congrFun k9 (Ex.mk kind op ty n s l),congrFun k9 (Ex.mk kind op ty n r.1 q.1)];cases k
   all_goals dsimp only[HW,ja0,z6]at hn h2 ⊢
   all_goals (refine j2 func48 ntmps48 results48 fun w M E b0=>?_)
   all_goals (repeat' first|refine Ca 3 ?_;(refine Cq 3 ?_)|refine Ca 4 ?_;(refine j3 4 ?_)|refine Ca 14 ?_;refine Cg (hc:=hn) ?_|refine Ca 20 ?_;refine Cg (hc:=h2) ?_|refine yyp ?_;try refine Ce ?_ ?_<;>intro hb|refine yy ?_|refine yy2 ?_ ?_<;>intro hcmp|refine at_nil ?_;refine Cc [0,1,3,4,5,6,7,28] ?_|refine Cb fun K hK=>?_|apply_assumption -exfalso -symm)
   all_goals first
    |(exfalso;simp only[Dl,Ex.kind,Bm,Bx]at *;omega)
    |((refine j1 (j4 ⟨?_,rfl⟩))
      rfl)
  |false=>
   simp only[if_false,Ba];generalize v7 Cj σ l=q at h1 ⊢;rw[congrFun k9 (Ex.mk kind op ty n s l),congrFun k9 (Ex.mk kind op ty n s q.1)];clear hn h2;cases k
   all_goals dsimp only[HW,ja0,z6]at h1 ⊢
   all_goals (refine j2 func48 ntmps48 results48 fun w M E b0=>?_)
   all_goals (repeat' first|refine Ca 3 ?_;(refine Cq 3 ?_)|refine Ca 4 ?_;(refine j3 4 ?_)|refine Ca 20 ?_;refine Cg (hc:=h1) ?_|refine yyp ?_;try refine Ce ?_ ?_<;>intro hb|refine yy ?_|refine yy2 ?_ ?_<;>intro hcmp|refine at_nil ?_;refine Cc [0,1,3,4,5,6,7,28] ?_|refine Cb fun K hK=>?_|apply_assumption -exfalso -symm)
   all_goals first
    |(exfalso;simp only[Dl,Ex.kind,Bool.or_eq_false_iff,beq_eq_false_iff_ne,ne_eq]at *;omega)
    |((refine j1 (j4 ⟨?_,rfl⟩))
      rfl)
end
end Go.Proofs.YtklklgfpkpglgaaGreatDoor
