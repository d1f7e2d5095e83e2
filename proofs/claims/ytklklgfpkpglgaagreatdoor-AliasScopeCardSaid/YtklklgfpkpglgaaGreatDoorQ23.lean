/- Parts. -/
import Derived.Test.YtklklgfpkpglgaaGreatDoorQ15
set_option linter.all false
set_option maxRecDepth 100000
set_option maxHeartbeats 0
namespace Go.Proofs.YtklklgfpkpglgaaGreatDoor
open Go.RowKit Go.Proofs.Tryz Sc
variable (gl:List (Nat × List D))
section
def Xj:List Nat:=[0,1,4,5,6,7,13]
def Sc.W.room (σ:W)(m:Nat):Prop:=σ.ev.length+m<=1000000000
def Sc.aA (σ:W)(s:ByteArray):ByteArray × W:=match (σ.env s).getLast? with
 |some x=>(x.aD,σ)
 |none=>(s,Sc.step σ s false)
attribute [local irreducible] TR TC
theorem ki5 (k:Sc.Kind)(σ:W)(s:ByteArray)(hr:σ.room 1):FnE prog gl 46 [.ptr 900 0,.d (.str s)] (HW k σ)
 (λv H1=>v=.d (.str (aA σ s).1)/\H1=HW k (aA σ s).2):=by
 unfold W.room at hr;have hf:=mm4 gl k σ s;unfold aA;cases hg:(σ.env s).getLast? with
 |some x=>
  have he:(σ.env s).isEmpty=false:=by
   cases hl:σ.env s with
   |nil=>rw[hl]at hg;cases hg
   |cons=>rfl
  rw[hg,he]at hf;cases k
  all_goals dsimp only[HW,je0,jb3,Option.getD_some,Bool.not_false]at hf ⊢
  all_goals (refine j3 func46 ntmps46 results46 λw M E b0=>?_)
  all_goals (repeat' first|apply Ca 10;refine Ch (hc:=hf) ?_|apply Ca 5;(refine j2 5 ?_)|refine yyp ?_;try refine Ce ?_ ?_<;>intro hb|refine yy ?_|apply ah;refine Cc Xj ?_|refine Cb λK hK=>?_|apply_assumption -exfalso -symm)
  all_goals (refine j1 (j8 ⟨?_,rfl⟩))
  all_goals rfl
 |none=>
  have he:σ.env s=[]:=List.getLast?_eq_none_iff.1 hg;rw[he]at hf;cases k with
  |free=>
   have hm:=mr8 gl σ s false (by omega);dsimp only[HW,je0,jb3,Sc.step,List.getLast?_nil,Option.getD_none,List.isEmpty_nil,Bool.not_true]at hf hm ⊢;generalize Ho (σ.ev++[(s,false)])=r at hm ⊢
   (refine j3 func46 ntmps46 results46 λw M E b0=>?_)
   (repeat' first|apply Ca 10;refine Ch (hc:=hf) ?_|apply Ca 5;(refine j2 5 ?_)|apply Ca 21;refine Ch (hc:=hm) ?_|refine yyp ?_;try refine Ce ?_ ?_<;>intro hb|refine yy ?_|apply ah;refine Cc Xj ?_|refine Cb λK hK=>?_|apply_assumption -exfalso -symm)
   (refine j1 (j8 ⟨?_,rfl⟩))
   rfl
  |none=>
   have hm:=kq8 gl s false;dsimp only[HW,je0,jb3,Sc.step,List.getLast?_nil,Option.getD_none,List.isEmpty_nil,Bool.not_true]at hf hm ⊢
   (refine j3 func46 ntmps46 results46 λw M E b0=>?_)
   (repeat' first|apply Ca 10;refine Ch (hc:=hf) ?_|apply Ca 5;(refine j2 5 ?_)|apply Ca 21;refine Ch (hc:=hm) ?_|refine yyp ?_;try refine Ce ?_ ?_<;>intro hb|refine yy ?_|apply ah;refine Cc Xj ?_|refine Cb λK hK=>?_|apply_assumption -exfalso -symm)
   (refine j1 (j8 ⟨?_,rfl⟩))
   rfl
  |check ns=>
   have hm:=md9 gl ns σ s false;dsimp only[HW,je0,jb3,Sc.step,List.getLast?_nil,Option.getD_none,List.isEmpty_nil,Bool.not_true]at hf hm ⊢;generalize Hq ns (σ.ev++[(s,false)])=r at hm ⊢
   (refine j3 func46 ntmps46 results46 λw M E b0=>?_)
   (repeat' first|apply Ca 10;refine Ch (hc:=hf) ?_|apply Ca 5;(refine j2 5 ?_)|apply Ca 21;refine Ch (hc:=hm) ?_|refine yyp ?_;try refine Ce ?_ ?_<;>intro hb|refine yy ?_|apply ah;refine Cc Xj ?_|refine Cb λK hK=>?_|apply_assumption -exfalso -symm)
   (refine j1 (j8 ⟨?_,rfl⟩))
   rfl
end
section
def Yh:List Nat:=[0,1,4,5,7,10,14,15,16,17]
def Cz (kind:Int):Bool:=kind == 4 || kind == 5 || kind == 9
mutual
def j5 (σ:W):Ex->Ex × W
 |.mk kind op ty n s l=>
  let r:=if Cz kind then aA σ s else (s,σ)
  let q:=y4 r.2 l
  (.mk kind op ty n r.1 q.1,q.2)
def y4 (σ:W):List Ex->List Ex × W
 |[]=>([],σ)
 |e::l=>((j5 σ e).1::(y4 (j5 σ e).2 l).1,(y4 (j5 σ e).2 l).2)
end
def z6 {α:Type}(f:W->α->α × W)(σ:W):List α->List α × W
 |[]=>([],σ)
 |e::l=>((f σ e).1::(z6 f (f σ e).2 l).1,(z6 f (f σ e).2 l).2)
theorem ji5 {α:Type}(f:W->α->α × W):∀ (l:List α) (σ:W) (j:Nat) (hj:j<l.length),
 (z6 f σ (l.take (j+1)))=((z6 f σ (l.take j)).1++[(f (z6 f σ (l.take j)).2 l[j]).1],(f (z6 f σ (l.take j)).2 l[j]).2)
 |[],_,_,h=>by simp at h
 |x::l,σ,0,_=>by simp[z6]
 |x::l,σ,j+1,h=>by
  have:=ji5 f l (f σ x).2 j (by simpa using h);simp only[Ez,z6,this,Fb,Ac]
theorem jj9 {α:Type}(f:W->α->α × W):∀ (l:List α) (σ:W),(z6 f σ l).1.length=l.length
 |[],_=>rfl
 |x::l,σ=>by simp[z6,jj9 f l]
theorem ja4:∀ (l:List Ex) (σ:W),y4 σ l=z6 j5 σ l
 |[],σ=>by simp[y4,z6]
 |e::l,σ=>by simp only[y4,z6,ja4 l]
attribute [local irreducible] TR TC
theorem kd2 (k:Sc.Kind)(l:List Ex)(σ:W)(hl:l.length<=1000000000)
 (h1:∀ (j:Nat) (hj:j<l.length),FnE prog gl 48 [.ptr 900 0,.d (dEx l[j])] (HW k (z6 j5 σ (l.take j)).2)
   (λv H1=>v=.d (dEx (j5 (z6 j5 σ (l.take j)).2 l[j]).1)/\H1=HW k (j5 (z6 j5 σ (l.take j)).2 l[j]).2)):
 FnE prog gl 49 [.d (.list 6 (l.map dEx)),.clo (.func 48) [.ptr 900 0] []] (HW k σ)
  (λv H1=>v=.d (.list 6 ((z6 j5 σ l).1.map dEx))/\H1=HW k (z6 j5 σ l).2):=by
 simp only[r8]at h1 ⊢;have tg:k=k:=rfl;cases k
 all_goals dsimp only[HW,je0,jb3]at h1 ⊢
 all_goals
  (refine j3 func49 ntmps49 results49 λw M E b0=>?_)
  (repeat' first|apply Ca 13;(refine ka3 13 ?_)|refine yyp ?_;try refine Ce ?_ ?_<;>intro hb|refine yy ?_|refine yy2 ?_ ?_<;>intro hcmp|apply ah;refine Cc Yh ?_|refine Cb λK hK=>?_|apply_assumption -exfalso -symm)
  ·have h0:l=[]:=Bg (by omega);subst h0
   (refine j1 (j8 ⟨?_,rfl⟩))
   rfl
  refine kp0 (λx:Nat × Nat=>⟨[(16,.d (.int .i64 x.1)),(15,.d (.int .i64 l.length)),(14,.d (.list 6 (l.map dE))),(5,.own 13 x.2),(1,.clo (.func 48) [.ptr 900 0] [])],(13,.row 28 6 true ((z6 j5 σ (l.take x.1)).1.map dE) x.2)::HW (kof tg) (z6 j5 σ (l.take x.1)).2,gl⟩)
   (λx=>x.1<=l.length) (λx=>l.length - x.1) (0,0) (Ak _) v6 λ⟨j,kv⟩ hj=>?_
  dsimp only[HW,je0,jb3,kof]at hj ⊢;have hlen:=jj9 j5 (l.take j) σ;simp only[Aq]at hlen;rcases Ai j l.length with hj2|hj2
  ·have hone:=h1 j hj2
   (repeat' first|apply Ca 7;(refine j2 7 ?_)|apply Ca 23;refine Ch (hc:=hone) ?_|apply Ca 24;(refine Fu 24 ?_)|refine yyp ?_;try refine Ce ?_ ?_<;>intro hb|refine yy ?_|(apply Dw;first|(refine Gj (λkv=>?_))|(refine ai (λsx sp kv hsx hsp hsl=>?_)))|apply ah;refine Cc Yh ?_|refine Cb λK hK=>?_|apply_assumption -exfalso -symm)
   refine⟨(j+1,kv),by dsimp only;omega,by dsimp only;omega,?_⟩;dsimp only;rw[ji5 j5 l σ j hj2];simp only[Av,List.map_cons,Bj];exact v6
  (repeat' first|refine yyp ?_;try refine Ce ?_ ?_<;>intro hb|refine yy ?_|apply ah;refine Cc Yh ?_|refine Cb λK hK=>?_|apply_assumption -exfalso -symm)
  have hjl:j=l.length:=by omega
  subst hjl;rw[Bv]
  (refine j1 (j8 ⟨?_,rfl⟩))
  rfl
end
section
theorem ms5 (σ:W)(s:ByteArray):(aA σ s).2.ev.length<=σ.ev.length+1:=by
 unfold aA;split
 ·exact Nat.le_succ _
 ·simp[Sc.step]
mutual
theorem rd5:∀ (e:Ex) (σ:W),(j5 σ e).2.ev.length<=σ.ev.length+exN e
 |.mk kind op ty n s l,σ=>by
  simp only[j5,exN];have h:=ki6 l (if Cz kind then aA σ s else (s,σ)).2;have h2:=ms5 σ s;split at h
  ·rename_i h1;simp only[h1,if_true];omega
  ·rename_i h1;simp only[h1,if_false,Bb];dsimp only at h ⊢;omega
theorem ki6:∀ (l:List Ex) (σ:W),(y4 σ l).2.ev.length<=σ.ev.length+Gw l
 |[],σ=>by simp[y4,Gw]
 |e::l,σ=>by
  simp only[y4,Gw];have h1:=rd5 e σ;have h2:=ki6 l (j5 σ e).2;omega
end
attribute [local irreducible] TR TC
theorem qj8 (k:Sc.Kind):∀ (m:Nat) (e:Ex) (σ:W),exN e<=m->σ.room (exN e)->FnE prog gl 48 [.ptr 900 0,.d (dEx e)] (HW k σ)
 (λv H1=>v=.d (dEx (j5 σ e).1)/\H1=HW k (j5 σ e).2):=by
 intro m
 induction m with
 |zero=>intro e σ h;have:=jo4 e;omega
 |succ m ih=>
  rintro⟨kind,op,ty,n,s,l⟩ σ hm hr;unfold W.room at hr;simp only[exN]at hm hr;have hlen:=jd0 l;have hn:=ki5 gl k σ s (by unfold W.room;omega);have hnl:=ms5 σ s;have he:∀ σ1:W,σ1.ev.length+Gw l<=1000000000->_:=λσ1 h1=>kd2 gl k l σ1 (by omega) λj hj=>ih l[j] _ (by have:=jb6 l j hj;omega) (by
   have h2:=ki6 (l.take j) σ1;rw[ja4]at h2;have:=jb6 l j hj;unfold W.room;omega)
  have h1:=he σ (by omega);have h2:=he (aA σ s).2 (by omega);clear he ih;simp only[j5,ja4];cases hk:Cz kind with
  |true=>
   simp only[if_true];generalize aA σ s=r at hn h2 ⊢;generalize z6 j5 r.2 l=q at h2 ⊢;rw[congrFun r8 (Ex.mk kind op ty n s l),congrFun r8 (Ex.mk kind op ty n r.1 q.1)];cases k
   all_goals dsimp only[HW,je0,jb3]at hn h2 ⊢
   all_goals (refine j3 func48 ntmps48 results48 λw M E b0=>?_)
   all_goals (repeat' first|apply Ca 3;(refine Ck 3 ?_)|apply Ca 4;(refine j2 4 ?_)|apply Ca 14;refine Ch (hc:=hn) ?_|apply Ca 20;refine Ch (hc:=h2) ?_|refine yyp ?_;try refine Ce ?_ ?_<;>intro hb|refine yy ?_|refine yy2 ?_ ?_<;>intro hcmp|apply ah;refine Cc [0,1,3,4,5,6,7,28] ?_|refine Cb λK hK=>?_|apply_assumption -exfalso -symm)
   all_goals first
    |(exfalso;simp only[Cz,Ex.kind,Bn,Ed]at *;omega)
    |((refine j1 (j8 ⟨?_,rfl⟩))
      rfl)
  |false=>
   simp only[if_false,Bb];generalize z6 j5 σ l=q at h1 ⊢;rw[congrFun r8 (Ex.mk kind op ty n s l),congrFun r8 (Ex.mk kind op ty n s q.1)];clear hn h2;cases k
   all_goals dsimp only[HW,je0,jb3]at h1 ⊢
   all_goals (refine j3 func48 ntmps48 results48 λw M E b0=>?_)
   all_goals (repeat' first|apply Ca 3;(refine Ck 3 ?_)|apply Ca 4;(refine j2 4 ?_)|apply Ca 20;refine Ch (hc:=h1) ?_|refine yyp ?_;try refine Ce ?_ ?_<;>intro hb|refine yy ?_|refine yy2 ?_ ?_<;>intro hcmp|apply ah;refine Cc [0,1,3,4,5,6,7,28] ?_|refine Cb λK hK=>?_|apply_assumption -exfalso -symm)
   all_goals first
    |(exfalso;simp only[Cz,Ex.kind,Bool.or_eq_false_iff,beq_eq_false_iff_ne,ne_eq]at *;omega)
    |((refine j1 (j8 ⟨?_,rfl⟩))
      rfl)
end
end Go.Proofs.YtklklgfpkpglgaaGreatDoor
