/- Parts: S4, S5, S6. -/
import Derived.Test.YtdopmfifmgkmoaaGreatDoorP21
import Derived.Test.YtdopmfifmgkmoaaGreatDoorP19
set_option linter.all false
set_option maxRecDepth 100000
set_option maxHeartbeats 16000000
namespace Go.Proofs.YtdopmfifmgkmoaaGreatDoor
open Go.RowKit Go.Proofs.Tryz
section
def qs4_0:List Nat:=[0,1,4,5,6,7,13]
def Sc.W.room (σ:Sc.W)(m:Nat):Prop:=σ.ev.length+m<=1000000000
def Sc.nameOf (σ:Sc.W)(s:ByteArray):ByteArray × Sc.W:=match (σ.env s).getLast? with
 |some x=>(x.fresh,σ)
 |none=>(s,Sc.step σ s false)
attribute [local irreducible] TR TC
theorem jj3 (gl:List (Nat × List D))(k:Sc.Kind)(σ:Sc.W)(s:ByteArray)(hr:σ.room 1):FnE prog gl 56 [.ptr 900 0,.d (.str s)] (HW k σ)
 (fun v H1=>v=.d (.str (Sc.nameOf σ s).1)/\H1=HW k (Sc.nameOf σ s).2):=by
 unfold Sc.W.room at hr
 have hf:=ma1 gl k σ s
 unfold Sc.nameOf
 cases hg:(σ.env s).getLast? with
 |some x=>
  have he:(σ.env s).isEmpty=false:=by
   cases hl:σ.env s with
   |nil=>rw[hl]at hg;cases hg
   |cons=>rfl
  rw[hg,he]at hf
  cases k
  all_goals dsimp only[HW,ja2,l9,Option.getD_some,Bool.not_false]at hf ⊢
  all_goals (refine j3 func56 ntmps56 results56 fun w M E b0=>?_)
  all_goals (repeat' first|refine tr_at 10 ?_;refine y_callE (hc:=hf) ?_|refine tr_at 5 ?_;(refine j1 5 ?_)|refine yyp ?_;try refine s_bu ?_ ?_<;>intro hb|refine yy ?_|refine at_nil ?_;refine z_nil qs4_0 ?_|refine tc_seq fun K hK=>?_|apply_assumption -exfalso -symm)
  all_goals (refine j0 (j7 ⟨?_,rfl⟩))
  all_goals rfl
 |none=>
  have he:σ.env s=[]:=List.getLast?_eq_none_iff.1 hg
  rw[he]at hf
  cases k with
  |free=>
   have hm:=kp3 gl σ s false (by omega)
   dsimp only[HW,ja2,l9,Sc.step,List.getLast?_nil,Option.getD_none,List.isEmpty_nil,Bool.not_true]at hf hm ⊢
   generalize Sc.freeEv (σ.ev++[(s,false)])=r at hm ⊢
   (refine j3 func56 ntmps56 results56 fun w M E b0=>?_)
   (repeat' first|refine tr_at 10 ?_;refine y_callE (hc:=hf) ?_|refine tr_at 5 ?_;(refine j1 5 ?_)|refine tr_at 21 ?_;refine y_callE (hc:=hm) ?_|refine yyp ?_;try refine s_bu ?_ ?_<;>intro hb|refine yy ?_|refine at_nil ?_;refine z_nil qs4_0 ?_|refine tc_seq fun K hK=>?_|apply_assumption -exfalso -symm)
   (refine j0 (j7 ⟨?_,rfl⟩))
   rfl
  |none=>
   have hm:=jw3 gl s false
   dsimp only[HW,ja2,l9,Sc.step,List.getLast?_nil,Option.getD_none,List.isEmpty_nil,Bool.not_true]at hf hm ⊢
   (refine j3 func56 ntmps56 results56 fun w M E b0=>?_)
   (repeat' first|refine tr_at 10 ?_;refine y_callE (hc:=hf) ?_|refine tr_at 5 ?_;(refine j1 5 ?_)|refine tr_at 21 ?_;refine y_callE (hc:=hm) ?_|refine yyp ?_;try refine s_bu ?_ ?_<;>intro hb|refine yy ?_|refine at_nil ?_;refine z_nil qs4_0 ?_|refine tc_seq fun K hK=>?_|apply_assumption -exfalso -symm)
   (refine j0 (j7 ⟨?_,rfl⟩))
   rfl
  |check ns=>
   have hm:=kd3 gl ns σ s false
   dsimp only[HW,ja2,l9,Sc.step,List.getLast?_nil,Option.getD_none,List.isEmpty_nil,Bool.not_true]at hf hm ⊢
   generalize Sc.firstEv ns (σ.ev++[(s,false)])=r at hm ⊢
   (refine j3 func56 ntmps56 results56 fun w M E b0=>?_)
   (repeat' first|refine tr_at 10 ?_;refine y_callE (hc:=hf) ?_|refine tr_at 5 ?_;(refine j1 5 ?_)|refine tr_at 21 ?_;refine y_callE (hc:=hm) ?_|refine yyp ?_;try refine s_bu ?_ ?_<;>intro hb|refine yy ?_|refine at_nil ?_;refine z_nil qs4_0 ?_|refine tc_seq fun K hK=>?_|apply_assumption -exfalso -symm)
   (refine j0 (j7 ⟨?_,rfl⟩))
   rfl
end
section
def qs5_0:List Nat:=[0,1,4,5,7,10,14,15,16,17]
def exNamed (kind:Int):Bool:=kind == 4 || kind == 5 || kind == 9
mutual
def exprOf (σ:Sc.W):Ex->Ex × Sc.W
 |.mk kind op ty n s l=>
  let r:=if exNamed kind then Sc.nameOf σ s else (s,σ)
  let q:=z6 r.2 l
  (.mk kind op ty n r.1 q.1,q.2)
def z6 (σ:Sc.W):List Ex->List Ex × Sc.W
 |[]=>([],σ)
 |e::l=>((exprOf σ e).1::(z6 (exprOf σ e).2 l).1,(z6 (exprOf σ e).2 l).2)
end
def y4 {α:Type}(f:Sc.W->α->α × Sc.W)(σ:Sc.W):List α->List α × Sc.W
 |[]=>([],σ)
 |e::l=>((f σ e).1::(y4 f (f σ e).2 l).1,(y4 f (f σ e).2 l).2)
theorem n3 {α:Type}(f:Sc.W->α->α × Sc.W):∀ (l:List α) (σ:Sc.W) (j:Nat) (hj:j<l.length),
 (y4 f σ (l.take (j+1)))=((y4 f σ (l.take j)).1++[(f (y4 f σ (l.take j)).2 l[j]).1],(f (y4 f σ (l.take j)).2 l[j]).2)
 |[],_,_,h=>by simp at h
 |x::l,σ,0,_=>by simp[y4]
 |x::l,σ,j+1,h=>by
  have:=n3 f l (f σ x).2 j (by simpa using h)
  simp only[List.take_succ_cons,y4,this,List.getElem_cons_succ,List.cons_append]
theorem p9 {α:Type}(f:Sc.W->α->α × Sc.W):∀ (l:List α) (σ:Sc.W),(y4 f σ l).1.length=l.length
 |[],_=>rfl
 |x::l,σ=>by simp[y4,p9 f l]
theorem ja3:∀ (l:List Ex) (σ:Sc.W),z6 σ l=y4 exprOf σ l
 |[],σ=>by simp[z6,y4]
 |e::l,σ=>by simp only[z6,y4,ja3 l]
attribute [local irreducible] TR TC
theorem jy6 (gl:List (Nat × List D))(k:Sc.Kind)(l:List Ex)(σ:Sc.W)(hl:l.length<=1000000000)
 (h1:∀ (j:Nat) (hj:j<l.length),FnE prog gl 58 [.ptr 900 0,.d (dEx l[j])] (HW k (y4 exprOf σ (l.take j)).2)
   (fun v H1=>v=.d (dEx (exprOf (y4 exprOf σ (l.take j)).2 l[j]).1)/\H1=HW k (exprOf (y4 exprOf σ (l.take j)).2 l[j]).2)):
 FnE prog gl 59 [.d (.list 6 (l.map dEx)),.clo (.func 58) [.ptr 900 0] []] (HW k σ)
  (fun v H1=>v=.d (.list 6 ((y4 exprOf σ l).1.map dEx))/\H1=HW k (y4 exprOf σ l).2):=by
 simp only[r9]at h1 ⊢
 cases k
 all_goals dsimp only[HW,ja2,l9]at h1 ⊢
 case free=>
  (refine j3 func59 ntmps59 results59 fun w M E b0=>?_)
  (repeat' first|refine tr_at 13 ?_;(refine jc3 13 ?_)|refine yyp ?_;try refine s_bu ?_ ?_<;>intro hb|refine yy ?_|refine yy2 ?_ ?_<;>intro hcmp|refine at_nil ?_;refine z_nil qs5_0 ?_|refine tc_seq fun K hK=>?_|apply_assumption -exfalso -symm)
  ·have h0:l=[]:=List.eq_nil_of_length_eq_zero (by omega)
   subst h0
   (refine j0 (j7 ⟨?_,rfl⟩))
   rfl
  refine jg1 (fun x:Nat × Nat=>⟨[(16,.d (.int .i64 x.1)),(15,.d (.int .i64 l.length)),(14,.d (.list 6 (l.map dE))),(5,.own 13 x.2),(1,.clo (.func 58) [.ptr 900 0] [])],(13,.row 28 6 true ((y4 exprOf σ (l.take x.1)).1.map dE) x.2)::HW .free (y4 exprOf σ (l.take x.1)).2,gl⟩)
   (fun x=>x.1<=l.length) (fun x=>l.length - x.1) (0,0) (Nat.zero_le _) v7 fun⟨j,kv⟩ hj=>?_
  dsimp only[HW,ja2,l9]at hj ⊢
  have hlen:=p9 exprOf (l.take j) σ
  simp only[List.length_take]at hlen
  rcases Nat.lt_or_ge j l.length with hj2|hj2
  ·have hone:=h1 j hj2
   (repeat' first|refine tr_at 7 ?_;(refine j1 7 ?_)|refine tr_at 23 ?_;refine y_callE (hc:=hone) ?_|refine tr_at 24 ?_;(refine z_lit 24 ?_)|refine yyp ?_;try refine s_bu ?_ ?_<;>intro hb|refine yy ?_|(refine at_append ?_;first|(refine z_append (fun kv=>?_))|(refine z_append_suf (fun sx sp kv hsx hsp hsl=>?_)))|refine at_nil ?_;refine z_nil qs5_0 ?_|refine tc_seq fun K hK=>?_|apply_assumption -exfalso -symm)
   refine⟨(j+1,kv),by dsimp only;omega,by dsimp only;omega,?_⟩
   dsimp only
   rw[n3 exprOf l σ j hj2]
   simp only[List.map_append,List.map_cons,List.map_nil]
   exact v7
  (repeat' first|refine yyp ?_;try refine s_bu ?_ ?_<;>intro hb|refine yy ?_|refine at_nil ?_;refine z_nil qs5_0 ?_|refine tc_seq fun K hK=>?_|apply_assumption -exfalso -symm)
  have hjl:j=l.length:=by omega
  subst hjl
  rw[List.take_length]
  (refine j0 (j7 ⟨?_,rfl⟩))
  rfl
 case check ns=>
  (refine j3 func59 ntmps59 results59 fun w M E b0=>?_)
  (repeat' first|refine tr_at 13 ?_;(refine jc3 13 ?_)|refine yyp ?_;try refine s_bu ?_ ?_<;>intro hb|refine yy ?_|refine yy2 ?_ ?_<;>intro hcmp|refine at_nil ?_;refine z_nil qs5_0 ?_|refine tc_seq fun K hK=>?_|apply_assumption -exfalso -symm)
  ·have h0:l=[]:=List.eq_nil_of_length_eq_zero (by omega)
   subst h0
   (refine j0 (j7 ⟨?_,rfl⟩))
   rfl
  refine jg1 (fun x:Nat × Nat=>⟨[(16,.d (.int .i64 x.1)),(15,.d (.int .i64 l.length)),(14,.d (.list 6 (l.map dE))),(5,.own 13 x.2),(1,.clo (.func 58) [.ptr 900 0] [])],(13,.row 28 6 true ((y4 exprOf σ (l.take x.1)).1.map dE) x.2)::HW (.check ns) (y4 exprOf σ (l.take x.1)).2,gl⟩)
   (fun x=>x.1<=l.length) (fun x=>l.length - x.1) (0,0) (Nat.zero_le _) v7 fun⟨j,kv⟩ hj=>?_
  dsimp only[HW,ja2,l9]at hj ⊢
  have hlen:=p9 exprOf (l.take j) σ
  simp only[List.length_take]at hlen
  rcases Nat.lt_or_ge j l.length with hj2|hj2
  ·have hone:=h1 j hj2
   (repeat' first|refine tr_at 7 ?_;(refine j1 7 ?_)|refine tr_at 23 ?_;refine y_callE (hc:=hone) ?_|refine tr_at 24 ?_;(refine z_lit 24 ?_)|refine yyp ?_;try refine s_bu ?_ ?_<;>intro hb|refine yy ?_|(refine at_append ?_;first|(refine z_append (fun kv=>?_))|(refine z_append_suf (fun sx sp kv hsx hsp hsl=>?_)))|refine at_nil ?_;refine z_nil qs5_0 ?_|refine tc_seq fun K hK=>?_|apply_assumption -exfalso -symm)
   refine⟨(j+1,kv),by dsimp only;omega,by dsimp only;omega,?_⟩
   dsimp only
   rw[n3 exprOf l σ j hj2]
   simp only[List.map_append,List.map_cons,List.map_nil]
   exact v7
  (repeat' first|refine yyp ?_;try refine s_bu ?_ ?_<;>intro hb|refine yy ?_|refine at_nil ?_;refine z_nil qs5_0 ?_|refine tc_seq fun K hK=>?_|apply_assumption -exfalso -symm)
  have hjl:j=l.length:=by omega
  subst hjl
  rw[List.take_length]
  (refine j0 (j7 ⟨?_,rfl⟩))
  rfl
 case none=>
  (refine j3 func59 ntmps59 results59 fun w M E b0=>?_)
  (repeat' first|refine tr_at 13 ?_;(refine jc3 13 ?_)|refine yyp ?_;try refine s_bu ?_ ?_<;>intro hb|refine yy ?_|refine yy2 ?_ ?_<;>intro hcmp|refine at_nil ?_;refine z_nil qs5_0 ?_|refine tc_seq fun K hK=>?_|apply_assumption -exfalso -symm)
  ·have h0:l=[]:=List.eq_nil_of_length_eq_zero (by omega)
   subst h0
   (refine j0 (j7 ⟨?_,rfl⟩))
   rfl
  refine jg1 (fun x:Nat × Nat=>⟨[(16,.d (.int .i64 x.1)),(15,.d (.int .i64 l.length)),(14,.d (.list 6 (l.map dE))),(5,.own 13 x.2),(1,.clo (.func 58) [.ptr 900 0] [])],(13,.row 28 6 true ((y4 exprOf σ (l.take x.1)).1.map dE) x.2)::HW .none (y4 exprOf σ (l.take x.1)).2,gl⟩)
   (fun x=>x.1<=l.length) (fun x=>l.length - x.1) (0,0) (Nat.zero_le _) v7 fun⟨j,kv⟩ hj=>?_
  dsimp only[HW,ja2,l9]at hj ⊢
  have hlen:=p9 exprOf (l.take j) σ
  simp only[List.length_take]at hlen
  rcases Nat.lt_or_ge j l.length with hj2|hj2
  ·have hone:=h1 j hj2
   (repeat' first|refine tr_at 7 ?_;(refine j1 7 ?_)|refine tr_at 23 ?_;refine y_callE (hc:=hone) ?_|refine tr_at 24 ?_;(refine z_lit 24 ?_)|refine yyp ?_;try refine s_bu ?_ ?_<;>intro hb|refine yy ?_|(refine at_append ?_;first|(refine z_append (fun kv=>?_))|(refine z_append_suf (fun sx sp kv hsx hsp hsl=>?_)))|refine at_nil ?_;refine z_nil qs5_0 ?_|refine tc_seq fun K hK=>?_|apply_assumption -exfalso -symm)
   refine⟨(j+1,kv),by dsimp only;omega,by dsimp only;omega,?_⟩
   dsimp only
   rw[n3 exprOf l σ j hj2]
   simp only[List.map_append,List.map_cons,List.map_nil]
   exact v7
  (repeat' first|refine yyp ?_;try refine s_bu ?_ ?_<;>intro hb|refine yy ?_|refine at_nil ?_;refine z_nil qs5_0 ?_|refine tc_seq fun K hK=>?_|apply_assumption -exfalso -symm)
  have hjl:j=l.length:=by omega
  subst hjl
  rw[List.take_length]
  (refine j0 (j7 ⟨?_,rfl⟩))
  rfl
end
section
theorem mf1 (σ:Sc.W)(s:ByteArray):(Sc.nameOf σ s).2.ev.length<=σ.ev.length+1:=by
 unfold Sc.nameOf
 split
 ·exact Nat.le_succ _
 ·simp[Sc.step]
mutual
theorem qi2:∀ (e:Ex) (σ:Sc.W),(exprOf σ e).2.ev.length<=σ.ev.length+exN e
 |.mk kind op ty n s l,σ=>by
  simp only[exprOf,exN]
  have h:=ke2 l (if exNamed kind then Sc.nameOf σ s else (s,σ)).2
  have h2:=mf1 σ s
  split at h
  ·rename_i h1;simp only[h1,if_true];omega
  ·rename_i h1;simp only[h1,if_false,Bool.false_eq_true];dsimp only at h ⊢;omega
theorem ke2:∀ (l:List Ex) (σ:Sc.W),(z6 σ l).2.ev.length<=σ.ev.length+exsN l
 |[],σ=>by simp[z6,exsN]
 |e::l,σ=>by
  simp only[z6,exsN]
  have h1:=qi2 e σ
  have h2:=ke2 l (exprOf σ e).2
  omega
end
attribute [local irreducible] TR TC
theorem mv0 (gl:List (Nat × List D))(k:Sc.Kind):∀ (m:Nat) (e:Ex) (σ:Sc.W),exN e<=m->σ.room (exN e)->FnE prog gl 58 [.ptr 900 0,.d (dEx e)] (HW k σ)
 (fun v H1=>v=.d (dEx (exprOf σ e).1)/\H1=HW k (exprOf σ e).2):=by
 intro m
 induction m with
 |zero=>intro e σ h;have:=jq6 e;omega
 |succ m ih=>
  rintro⟨kind,op,ty,n,s,l⟩ σ hm hr
  unfold Sc.W.room at hr
  simp only[exN]at hm hr
  have hlen:=jd9 l
  have hn:=jj3 gl k σ s (by unfold Sc.W.room;omega)
  have hnl:=mf1 σ s
  have he:∀ σ1:Sc.W,σ1.ev.length+exsN l<=1000000000->_:=fun σ1 h1=>jy6 gl k l σ1 (by omega) fun j hj=>ih l[j] _ (by have:=ja6 l j hj;omega) (by
   have h2:=ke2 (l.take j) σ1
   rw[ja3]at h2
   have:=ja6 l j hj
   unfold Sc.W.room
   omega)
  have h1:=he σ (by omega)
  have h2:=he (Sc.nameOf σ s).2 (by omega)
  clear he ih
  simp only[exprOf,ja3]
  cases hk:exNamed kind with
  |true=>
   simp only[if_true]
   generalize Sc.nameOf σ s=r at hn h2 ⊢
   generalize y4 exprOf r.2 l=q at h2 ⊢
   rw[congrFun r9 (Ex.mk kind op ty n s l),congrFun r9 (Ex.mk kind op ty n r.1 q.1)]
   cases k
   all_goals dsimp only[HW,ja2,l9]at hn h2 ⊢
   all_goals (refine j3 func58 ntmps58 results58 fun w M E b0=>?_)
   all_goals (repeat' first|refine tr_at 3 ?_;(refine k7 3 ?_)|refine tr_at 4 ?_;(refine j1 4 ?_)|refine tr_at 14 ?_;refine y_callE (hc:=hn) ?_|refine tr_at 20 ?_;refine y_callE (hc:=h2) ?_|refine yyp ?_;try refine s_bu ?_ ?_<;>intro hb|refine yy ?_|refine yy2 ?_ ?_<;>intro hcmp|refine at_nil ?_;refine z_nil [0,1,3,4,5,6,7,28] ?_|refine tc_seq fun K hK=>?_|apply_assumption -exfalso -symm)
   all_goals first
    |(exfalso;simp only[exNamed,Ex.kind,Bool.or_eq_true,beq_iff_eq]at *;omega)
    |((refine j0 (j7 ⟨?_,rfl⟩))
      rfl)
  |false=>
   simp only[if_false,Bool.false_eq_true]
   generalize y4 exprOf σ l=q at h1 ⊢
   rw[congrFun r9 (Ex.mk kind op ty n s l),congrFun r9 (Ex.mk kind op ty n s q.1)]
   clear hn h2
   cases k
   all_goals dsimp only[HW,ja2,l9]at h1 ⊢
   all_goals (refine j3 func58 ntmps58 results58 fun w M E b0=>?_)
   all_goals (repeat' first|refine tr_at 3 ?_;(refine k7 3 ?_)|refine tr_at 4 ?_;(refine j1 4 ?_)|refine tr_at 20 ?_;refine y_callE (hc:=h1) ?_|refine yyp ?_;try refine s_bu ?_ ?_<;>intro hb|refine yy ?_|refine yy2 ?_ ?_<;>intro hcmp|refine at_nil ?_;refine z_nil [0,1,3,4,5,6,7,28] ?_|refine tc_seq fun K hK=>?_|apply_assumption -exfalso -symm)
   all_goals first
    |(exfalso;simp only[exNamed,Ex.kind,Bool.or_eq_false_iff,beq_eq_false_iff_ne,ne_eq]at *;omega)
    |((refine j0 (j7 ⟨?_,rfl⟩))
      rfl)
end
end Go.Proofs.YtdopmfifmgkmoaaGreatDoor
