/- Parts: S29, S30, S31. -/
import Derived.Test.YtdopmfifmgkmoaaGreatDoorP34
import Derived.Test.YtdopmfifmgkmoaaGreatDoorP36
import Derived.Test.YtdopmfifmgkmoaaGreatDoorP31
import Derived.Test.YtdopmfifmgkmoaaGreatDoorP35
set_option linter.all false
set_option maxRecDepth 100000
set_option maxHeartbeats 16000000
namespace Go.Proofs.YtdopmfifmgkmoaaGreatDoor
open Go.RowKit Go.Proofs.Tryz
section
def qs29_0:List Nat:=[0,1,4,5,7,10,14,15,16,17]
variable {mm:Int}
theorem jp0:∀ (l:List Fo) (ns:List ByteArray) (f:Fo) (s:ByteArray),ns.length=l.length->Sc.named (l++[f]) (ns++[s])=Sc.named l ns++[{f with name:=s}]
 |[],[],f,s,_=>rfl
 |[],_::_,_,_,h=>by cases h
 |_::_,[],_,_,h=>by cases h
 |g::l,n::ns,f,s,h=>by simp only[List.cons_append,Sc.named,jp0 l ns f s (by simpa using h)]
theorem jz0 (l:List Fo)(σ:Sc.W)(j:Nat):(y4 Sc.formalOf σ (l.take j)).2.ev.length<=σ.ev.length+j:=by
 have h:=(Sc.grow_map (fun _=>1) (fun f σ=>Sc.grow_formal σ f) (l.take j) σ).ev
 have h8:∀ l:List Fo,(l.map fun _=>1).sum=l.length:=fun l=>by
  induction l with
  |nil=>rfl
  |cons x l ih=>simp only[List.map_cons,List.sum_cons,ih,List.length_cons];omega
 rw[h8,List.length_take]at h
 omega
attribute [local irreducible] TR TC
theorem kj1 (gl:List (Nat × List D))(k:Sc.Kind)(l:List Fo)(σ:Sc.W)(nn:List ByteArray)(hl1:nn.length<=l.length)(hl2:l.length<=nn.length)(hl:l.length<=1000000000)(hr:σ.room l.length):
 FnE prog gl 102 [.d (.list 6 (l.map dFo)),.clo (.func 103) [] [.ptr 1012 0,.ptr 1011 0,.ptr 1002 0]] ((1012,.box [.d (.int .i64 (-1))])::(1011,.box [.d (.list 1 (nn.map .str))])::(1002,.box [.ptr 900 0])::HW k σ)
  (fun v H1=>v=.d (.list 6 ((Sc.named (y4 Sc.formalOf σ l).1 nn).map dFo))/\H1=(1012,.box [.d (.int .i64 ((l.length:Int) - 1))])::(1011,.box [.d (.list 1 (nn.map .str))])::(1002,.box [.ptr 900 0])::HW k (y4 Sc.formalOf σ l).2):=by
 unfold Sc.W.room at hr
 have h2:=fun(j:Nat) (hj:j<l.length)=>qi9 gl k (y4 Sc.formalOf σ (l.take j)).2 l[j] nn j (by omega) (by omega) (by have:=jz0 l σ j;unfold Sc.W.room;omega)
 cases k
 all_goals dsimp only[HW,ja2,l9]at h2 ⊢
 case free=>
  (refine j3 func102 ntmps102 results102 fun w M E b0=>?_)
  (repeat' first|refine tr_at 13 ?_;(refine jc3 13 ?_)|refine yyp ?_;try refine s_bu ?_ ?_<;>intro hb|refine yy ?_|refine yy2 ?_ ?_<;>intro hcmp|refine at_nil ?_;refine z_nil qs29_0 ?_|refine tc_seq fun K hK=>?_|apply_assumption -exfalso -symm)
  ·have h0:l=[]:=List.eq_nil_of_length_eq_zero (by omega)
   subst h0
   obtain rfl:nn=[]:=List.eq_nil_of_length_eq_zero (by simp only[List.length_nil]at hl1;omega)
   (refine j0 (j7 ⟨?_,rfl⟩))
   rfl
  refine jg1 (fun x:Nat × Nat=>⟨[(16,.d (.int .i64 x.1)),(15,.d (.int .i64 l.length)),(14,.d (.list 6 (l.map dFo))),(5,.own 13 x.2),(1,.clo (.func 103) [] [.ptr 1012 0,.ptr 1011 0,.ptr 1002 0])],(13,.row 98 6 true ((Sc.named (y4 Sc.formalOf σ (l.take x.1)).1 (nn.take x.1)).map dFo) x.2)::(1012,.box [.d (.int .i64 ((x.1:Int) - 1))])::(1011,.box [.d (.list 1 (nn.map .str))])::(1002,.box [.ptr 900 0])::HW .free (y4 Sc.formalOf σ (l.take x.1)).2,gl⟩)
   (fun x=>x.1<=l.length) (fun x=>l.length - x.1) (0,0) (Nat.zero_le _) v7 fun⟨j,kv⟩ hj=>?_
  dsimp only[HW,ja2,l9]at hj ⊢
  have hlm:=p9 Sc.formalOf (l.take j) σ
  have hlen:=Sc.named_len (y4 Sc.formalOf σ (l.take j)).1 (nn.take j) (by rw[hlm,List.length_take,List.length_take];omega)
  rw[hlm]at hlen
  simp only[List.length_take]at hlen
  rcases Nat.lt_or_ge j l.length with hj2|hj2
  ·have hone:=h2 j hj2
   (repeat' first|refine tr_at 7 ?_;(refine j1 7 ?_)|refine tr_at 23 ?_;refine y_callE (hc:=hone) ?_|refine tr_at 24 ?_;(refine z_lit 24 ?_)|refine yyp ?_;try refine s_bu ?_ ?_<;>intro hb|refine yy ?_|(refine at_append ?_;first|(refine z_append (fun kv=>?_))|(refine z_append_suf (fun sx sp kv hsx hsp hsl=>?_)))|refine at_nil ?_;refine z_nil qs29_0 ?_|refine tc_seq fun K hK=>?_|apply_assumption -exfalso -symm)
   refine⟨(j+1,kv),by dsimp only;omega,by dsimp only;omega,?_⟩
   dsimp only
   rw[n3 Sc.formalOf l σ j hj2,List.take_succ_eq_append_getElem (show j<nn.length by omega),jp0 _ _ _ _ (by rw[hlm,List.length_take,List.length_take];omega),show((j+1:Nat):Int) - 1=j by omega]
   simp only[List.map_append,List.map_cons,List.map_nil]
   exact v7
  (repeat' first|refine yyp ?_;try refine s_bu ?_ ?_<;>intro hb|refine yy ?_|refine at_nil ?_;refine z_nil qs29_0 ?_|refine tc_seq fun K hK=>?_|apply_assumption -exfalso -symm)
  have hjl:j=l.length:=by omega
  subst hjl
  rw[List.take_length,List.take_of_length_le hl1]
  (refine j0 (j7 ⟨?_,rfl⟩))
  rfl
 case check ns=>
  (refine j3 func102 ntmps102 results102 fun w M E b0=>?_)
  (repeat' first|refine tr_at 13 ?_;(refine jc3 13 ?_)|refine yyp ?_;try refine s_bu ?_ ?_<;>intro hb|refine yy ?_|refine yy2 ?_ ?_<;>intro hcmp|refine at_nil ?_;refine z_nil qs29_0 ?_|refine tc_seq fun K hK=>?_|apply_assumption -exfalso -symm)
  ·have h0:l=[]:=List.eq_nil_of_length_eq_zero (by omega)
   subst h0
   obtain rfl:nn=[]:=List.eq_nil_of_length_eq_zero (by simp only[List.length_nil]at hl1;omega)
   (refine j0 (j7 ⟨?_,rfl⟩))
   rfl
  refine jg1 (fun x:Nat × Nat=>⟨[(16,.d (.int .i64 x.1)),(15,.d (.int .i64 l.length)),(14,.d (.list 6 (l.map dFo))),(5,.own 13 x.2),(1,.clo (.func 103) [] [.ptr 1012 0,.ptr 1011 0,.ptr 1002 0])],(13,.row 98 6 true ((Sc.named (y4 Sc.formalOf σ (l.take x.1)).1 (nn.take x.1)).map dFo) x.2)::(1012,.box [.d (.int .i64 ((x.1:Int) - 1))])::(1011,.box [.d (.list 1 (nn.map .str))])::(1002,.box [.ptr 900 0])::HW (.check ns) (y4 Sc.formalOf σ (l.take x.1)).2,gl⟩)
   (fun x=>x.1<=l.length) (fun x=>l.length - x.1) (0,0) (Nat.zero_le _) v7 fun⟨j,kv⟩ hj=>?_
  dsimp only[HW,ja2,l9]at hj ⊢
  have hlm:=p9 Sc.formalOf (l.take j) σ
  have hlen:=Sc.named_len (y4 Sc.formalOf σ (l.take j)).1 (nn.take j) (by rw[hlm,List.length_take,List.length_take];omega)
  rw[hlm]at hlen
  simp only[List.length_take]at hlen
  rcases Nat.lt_or_ge j l.length with hj2|hj2
  ·have hone:=h2 j hj2
   (repeat' first|refine tr_at 7 ?_;(refine j1 7 ?_)|refine tr_at 23 ?_;refine y_callE (hc:=hone) ?_|refine tr_at 24 ?_;(refine z_lit 24 ?_)|refine yyp ?_;try refine s_bu ?_ ?_<;>intro hb|refine yy ?_|(refine at_append ?_;first|(refine z_append (fun kv=>?_))|(refine z_append_suf (fun sx sp kv hsx hsp hsl=>?_)))|refine at_nil ?_;refine z_nil qs29_0 ?_|refine tc_seq fun K hK=>?_|apply_assumption -exfalso -symm)
   refine⟨(j+1,kv),by dsimp only;omega,by dsimp only;omega,?_⟩
   dsimp only
   rw[n3 Sc.formalOf l σ j hj2,List.take_succ_eq_append_getElem (show j<nn.length by omega),jp0 _ _ _ _ (by rw[hlm,List.length_take,List.length_take];omega),show((j+1:Nat):Int) - 1=j by omega]
   simp only[List.map_append,List.map_cons,List.map_nil]
   exact v7
  (repeat' first|refine yyp ?_;try refine s_bu ?_ ?_<;>intro hb|refine yy ?_|refine at_nil ?_;refine z_nil qs29_0 ?_|refine tc_seq fun K hK=>?_|apply_assumption -exfalso -symm)
  have hjl:j=l.length:=by omega
  subst hjl
  rw[List.take_length,List.take_of_length_le hl1]
  (refine j0 (j7 ⟨?_,rfl⟩))
  rfl
 case none=>
  (refine j3 func102 ntmps102 results102 fun w M E b0=>?_)
  (repeat' first|refine tr_at 13 ?_;(refine jc3 13 ?_)|refine yyp ?_;try refine s_bu ?_ ?_<;>intro hb|refine yy ?_|refine yy2 ?_ ?_<;>intro hcmp|refine at_nil ?_;refine z_nil qs29_0 ?_|refine tc_seq fun K hK=>?_|apply_assumption -exfalso -symm)
  ·have h0:l=[]:=List.eq_nil_of_length_eq_zero (by omega)
   subst h0
   obtain rfl:nn=[]:=List.eq_nil_of_length_eq_zero (by simp only[List.length_nil]at hl1;omega)
   (refine j0 (j7 ⟨?_,rfl⟩))
   rfl
  refine jg1 (fun x:Nat × Nat=>⟨[(16,.d (.int .i64 x.1)),(15,.d (.int .i64 l.length)),(14,.d (.list 6 (l.map dFo))),(5,.own 13 x.2),(1,.clo (.func 103) [] [.ptr 1012 0,.ptr 1011 0,.ptr 1002 0])],(13,.row 98 6 true ((Sc.named (y4 Sc.formalOf σ (l.take x.1)).1 (nn.take x.1)).map dFo) x.2)::(1012,.box [.d (.int .i64 ((x.1:Int) - 1))])::(1011,.box [.d (.list 1 (nn.map .str))])::(1002,.box [.ptr 900 0])::HW .none (y4 Sc.formalOf σ (l.take x.1)).2,gl⟩)
   (fun x=>x.1<=l.length) (fun x=>l.length - x.1) (0,0) (Nat.zero_le _) v7 fun⟨j,kv⟩ hj=>?_
  dsimp only[HW,ja2,l9]at hj ⊢
  have hlm:=p9 Sc.formalOf (l.take j) σ
  have hlen:=Sc.named_len (y4 Sc.formalOf σ (l.take j)).1 (nn.take j) (by rw[hlm,List.length_take,List.length_take];omega)
  rw[hlm]at hlen
  simp only[List.length_take]at hlen
  rcases Nat.lt_or_ge j l.length with hj2|hj2
  ·have hone:=h2 j hj2
   (repeat' first|refine tr_at 7 ?_;(refine j1 7 ?_)|refine tr_at 23 ?_;refine y_callE (hc:=hone) ?_|refine tr_at 24 ?_;(refine z_lit 24 ?_)|refine yyp ?_;try refine s_bu ?_ ?_<;>intro hb|refine yy ?_|(refine at_append ?_;first|(refine z_append (fun kv=>?_))|(refine z_append_suf (fun sx sp kv hsx hsp hsl=>?_)))|refine at_nil ?_;refine z_nil qs29_0 ?_|refine tc_seq fun K hK=>?_|apply_assumption -exfalso -symm)
   refine⟨(j+1,kv),by dsimp only;omega,by dsimp only;omega,?_⟩
   dsimp only
   rw[n3 Sc.formalOf l σ j hj2,List.take_succ_eq_append_getElem (show j<nn.length by omega),jp0 _ _ _ _ (by rw[hlm,List.length_take,List.length_take];omega),show((j+1:Nat):Int) - 1=j by omega]
   simp only[List.map_append,List.map_cons,List.map_nil]
   exact v7
  (repeat' first|refine yyp ?_;try refine s_bu ?_ ?_<;>intro hb|refine yy ?_|refine at_nil ?_;refine z_nil qs29_0 ?_|refine tc_seq fun K hK=>?_|apply_assumption -exfalso -symm)
  have hjl:j=l.length:=by omega
  subst hjl
  rw[List.take_length,List.take_of_length_le hl1]
  (refine j0 (j7 ⟨?_,rfl⟩))
  rfl
end
section
variable {mm:Int}
theorem qj3 (l:List Ex)(σ:Sc.W)(j:Nat)(hj:j<l.length):(y4 exprOf σ (l.take j)).2.ev.length+exN l[j]<=σ.ev.length+exsN l:=by
 have h1:=(Sc.grow_exprs2 (l.take j) σ).ev
 have h2:=ja6 l j hj
 omega
theorem jj4 (gl:List (Nat × List D))(k:Sc.Kind)(l:List Ex)(σ:Sc.W)(hr:σ.room (exsN l)):
 FnE prog gl 59 [.d (.list 6 (l.map dEx)),.clo (.func 58) [.ptr 900 0] []] (HW k σ)
  (fun v H1=>v=.d (.list 6 ((y4 exprOf σ l).1.map dEx))/\H1=HW k (y4 exprOf σ l).2):=by
 unfold Sc.W.room at hr
 have:=jd9 l
 refine jy6 gl k l σ (by omega) fun j hj=>mv0 gl k _ l[j] _ (Nat.le_refl _) ?_
 have:=qj3 l σ j hj
 unfold Sc.W.room
 omega
theorem jc5 (gl:List (Nat × List D))(k:Sc.Kind)(e:Ex)(σ:Sc.W)(hr:σ.room (exN e)):FnE prog gl 58 [.ptr 900 0,.d (dEx e)] (HW k σ)
 (fun v H1=>v=.d (dEx (exprOf σ e).1)/\H1=HW k (exprOf σ e).2):=mv0 gl k _ e σ (Nat.le_refl _) hr
def Gu.body' (g:Gu)(h:Sc.GHead)(b:List Pr):Gu:=.mk g.kind g.name h.cond h.chan h.targets h.values h.time b
attribute [local irreducible] TR TC
theorem ml3 (gl:List (Nat × List D))(k:Sc.Kind)(g:Gu)(σ σ2:Sc.W)(b:List Pr)(hr:σ.room (Sc.gheadN g.cond g.chan g.targets g.values g.time))
 (hE:FnE prog gl 68 [.d (.list 42 (g.body.map dPr)),.clo (.func 33) [.ptr 900 0] []] (HW k (Sc.gheadOf σ g.cond g.chan g.targets g.values g.time).2) (fun v H1=>v=.d (.list 42 (b.map dPr))/\H1=HW k σ2)):
 FnE prog gl 67 [.ptr 900 0,.d (dGu g)] (HW k σ)
  (fun v H1=>v=.d (dGu (g.body' (Sc.gheadOf σ g.cond g.chan g.targets g.values g.time).1 b))/\H1=HW k σ2):=by
 unfold Sc.W.room Sc.gheadN at hr
 unfold Sc.gheadOf at hE ⊢
 dsimp only at hE ⊢
 have g1:=(Sc.grow_expr g.cond σ).ev
 have h1:=jc5 gl k g.cond σ (by unfold Sc.W.room;omega)
 generalize exprOf σ g.cond=r1 at g1 h1 hE ⊢
 have g2:=(Sc.grow_expr g.chan r1.2).ev
 have h2:=jc5 gl k g.chan r1.2 (by unfold Sc.W.room;omega)
 generalize exprOf r1.2 g.chan=r2 at g2 h2 hE ⊢
 have g3:=(Sc.grow_exprs2 g.targets r2.2).ev
 have h3:=jj4 gl k g.targets r2.2 (by unfold Sc.W.room;omega)
 generalize y4 exprOf r2.2 g.targets=r3 at g3 h3 hE ⊢
 have g4:=(Sc.grow_exprs2 g.values r3.2).ev
 have h4:=jj4 gl k g.values r3.2 (by unfold Sc.W.room;omega)
 generalize y4 exprOf r3.2 g.values=r4 at g4 h4 hE ⊢
 have h5:=jc5 gl k g.time r4.2 (by unfold Sc.W.room;omega)
 generalize exprOf r4.2 g.time=r5 at h5 hE ⊢
 unfold Gu.body'
 clear g1 g2 g3 g4 hr
 rw[jg4]
 simp only[r9]at h1 h2 h5
 cases k
 all_goals dsimp only[HW,ja2,l9]at h1 h2 h3 h4 h5 hE ⊢
 all_goals (refine j3 func67 ntmps67 results67 fun w M E b0=>?_)
 all_goals (repeat' first|refine tr_at 3 ?_;(refine k7 3 ?_)|refine tr_at 4 ?_;(refine j1 4 ?_)|refine tr_at 8 ?_;refine y_callE (hc:=h1) ?_|refine tr_at 13 ?_;refine y_callE (hc:=h2) ?_|refine tr_at 19 ?_;refine y_callE (hc:=h3) ?_|refine tr_at 25 ?_;refine y_callE (hc:=h4) ?_|refine tr_at 30 ?_;refine y_callE (hc:=h5) ?_|refine tr_at 36 ?_;refine y_callE (hc:=hE) ?_|refine yyp ?_;try refine s_bu ?_ ?_<;>intro hb|refine yy ?_|refine at_nil ?_;refine z_nil [0,1,3,4,5,6,7,101] ?_|refine tc_seq fun K hK=>?_|apply_assumption -exfalso -symm)
 all_goals (refine j0 (j7 ⟨?_,rfl⟩))
 all_goals rfl
end
section
def qs31_0:List Nat:=[0,1,2,3,4,5,6,8,9,10,11,12,14,15,16,17,43]
def mw2:List Nat:=[6,8,16,17,18,19,20,21,22,23,24,25]
variable {mm:Int}
structure Sc.W.fit (σ:Sc.W)(m:Nat):Prop where
 tk:σ.tkOk
 num:σ.numOk m
 room:σ.room m
 deep:σ.deep m
theorem x4 {σ τ:Sc.W}{n m:Nat}(g:Sc.Grow σ τ n)(h:σ.fit (n+m)):τ.fit m:=by
 obtain⟨h1,h2,h3,h4⟩:=h
 have hlo:=g.lo h2.1
 have hhi:=g.hi h2.1
 refine⟨?_,⟨?_,?_⟩,?_,?_⟩
 ·unfold Sc.W.tkOk at *
  rw[g.tk]
  exact h1
 ·have:=h2.1;omega
 ·have h5:=h2.2
  rw[g.tk]
  have:((n+m:Nat):Int) * (σ.tk.length+1)=n * (σ.tk.length+1)+m * (σ.tk.length+1):=by rw[Int.natCast_add,Int.add_mul]
  omega
 ·unfold Sc.W.room at *
  have:=g.ev
  omega
 ·intro s
  have:=h4 s
  rw[g.env]
  omega
theorem Sc.W.fit.mono {σ:Sc.W}{n m:Nat}(h:σ.fit n)(hm:m<=n):σ.fit m:=by
 have:=x4 (Sc.Grow.refl σ (n - m)) (m:=m) (by rwa [show n - m+m=n by omega])
 exact this
theorem ka7 {σ τ:Sc.W}{ns:List ByteArray}{xs:List Sc.Ent}{m:Nat}(hσ:σ.fit (ns.length+m))(h:τ.fit m)(hl:ns.length=xs.length):Sc.W.fit {τ with env:=Sc.pushE σ.env ns xs} m:=by
 refine⟨h.tk,h.num,h.room,fun s=>?_⟩
 obtain⟨l,h1,h2⟩:=je1 ns xs σ.env s hl
 have h3:=ji3 s ns
 have h4:=hσ.deep s
 dsimp only
 rw[h1,List.length_append,h2]
 omega
theorem kx4 (l:List (Bool × List ByteArray))(σ:Sc.W)(nn:List ByteArray)(j:Nat)(hj:j<=l.length)(hl:nn.length=l.length):Sc.Grow σ (Sc.declOf (Sc.twiceOf σ nn) (l.take j)).2 (2 * nn.length):=by
 have h:=(Sc.grow_twice σ nn).trans (Sc.grow_decl (l.take j) (Sc.twiceOf σ nn))
 refine h.mono ?_
 rw[List.length_take]
 omega
theorem rf2 (k:Sc.Kind)(σ:Sc.W)(s:Sp)(hf:σ.fit (2 * s.names.length+1))(hl:s.proto.l.length<=1000000000):
 FnE prog (glS mm) 96 [.ptr 900 0,.d (.list 1 (s.names.map .str)),.clo (.func 97) [] [.ptr 1002 0,.ptr 1003 0]] ((1002,.box [.ptr 900 0])::(1003,.box (sv s))::HW k σ)
  (fun v H1=>v=.d (.list 3 ((Sc.declOf (Sc.twiceOf σ s.names) (s.names.map fun _=>Sc.ownTags σ.env s)).1.map dEnt))/\H1=(1002,.box [.ptr 900 0])::(1003,.box (sv s))::HW k (Sc.declOf (Sc.twiceOf σ s.names) (s.names.map fun _=>Sc.ownTags σ.env s)).2):=by
 have hr:=hf.room
 unfold Sc.W.room at hr
 refine mb9 (glS mm) k σ s.names (s.names.map fun _=>Sc.ownTags σ.env s) s (by simp) (by simp) (by omega) (by unfold Sc.W.room;omega) fun j hj=>?_
 have g:=kx4 (s.names.map fun _=>Sc.ownTags σ.env s) σ s.names j (by omega) (by simp)
 have hfj:=x4 g (m:=1) hf
 have h:=qi7 (mm:=mm) k (Sc.declOf (Sc.twiceOf σ s.names) ((s.names.map fun _=>Sc.ownTags σ.env s).take j)).2 s j hfj.tk hfj.num hl
 rw[g.env]at h
 simp only[List.getElem_map]
 exact h
theorem rf3 (k:Sc.Kind)(σ σ0:Sc.W)(s:Sp)(he:σ.env=σ0.env)(hf:σ.fit (2 * s.formals.length+1)):
 FnE prog (glS mm) 96 [.ptr 900 0,.d (.list 1 ((s.formals.map (·.name)).map .str)),.clo (.func 99) [] [.ptr 1002 0,.ptr 1003 0]] ((1002,.box [.ptr 900 0])::(1003,.box (sv s))::HW k σ)
  (fun v H1=>v=.d (.list 3 ((Sc.declOf (Sc.twiceOf σ (s.formals.map (·.name))) (s.formals.map fun f=>(false,Sc.carriedOf σ0.env f.type))).1.map dEnt))/\H1=(1002,.box [.ptr 900 0])::(1003,.box (sv s))::HW k (Sc.declOf (Sc.twiceOf σ (s.formals.map (·.name))) (s.formals.map fun f=>(false,Sc.carriedOf σ0.env f.type))).2):=by
 have hr:=hf.room
 unfold Sc.W.room at hr
 refine mc0 (glS mm) k σ (s.formals.map (·.name)) (s.formals.map fun f=>(false,Sc.carriedOf σ0.env f.type)) s (by simp) (by simp) (by rw[List.length_map];omega) (by unfold Sc.W.room;rw[List.length_map];omega) fun j hj=>?_
 have hj':j<s.formals.length:=by simpa using hj
 have g:=kx4 (s.formals.map fun f=>(false,Sc.carriedOf σ0.env f.type)) σ (s.formals.map (·.name)) j (by omega) (by simp)
 rw[List.length_map]at g
 have hfj:=x4 g (m:=1) hf
 have h:=qi8 (mm:=mm) k (Sc.declOf (Sc.twiceOf σ (s.formals.map (·.name))) ((s.formals.map fun f=>(false,Sc.carriedOf σ0.env f.type)).take j)).2 s j hj' hfj.tk hfj.num
 rw[g.env,he]at h
 simp only[List.getElem_map]
 exact h
def Sp.with' (s:Sp)(h:Sc.Head)(b:List Pr):Sp:=.mk s.kind h.type h.names h.e s.proto h.formals b
attribute [local irreducible] TR TC
theorem mw3 (k:Sc.Kind)(s:Sp)(σ σb:Sc.W)(b:List Pr)(hf:σ.fit (Sc.headN s+1))(hl:s.proto.l.length<=1000000000)(hv:∀ v∈s.proto.l,v.items.length<=10000000)
 (hbe:σb.env=Sc.pushE σ.env (s.formals.map (·.name)) (Sc.headOf σ s).1.inner)
 (hE:FnE prog (glS mm) 68 [.d (.list 42 (s.body.map dPr)),.clo (.func 33) [.ptr 900 0] []] (HW k {(Sc.headOf σ s).2 with env:=Sc.pushE σ.env (s.formals.map (·.name)) (Sc.headOf σ s).1.inner}) (fun v H1=>v=.d (.list 42 (b.map dPr))/\H1=HW k σb)):
 FnE prog (glS mm) 63 [.ptr 900 0,.d (dSp s)] (HW k σ)
  (fun v H1=>v=.tup [.d (dSp (s.with' (Sc.headOf σ s).1 b)),.d (.list 3 ((Sc.headOf σ s).1.own.map dEnt))]/\H1=HW k {σb with env:=σ.env}):=by
 have g0:=Sc.grow_head σ s
 have henv:=g0.env
 have hfr:=hf.room
 unfold Sc.W.room Sc.headN at hfr
 have hd:=x4 g0 (m:=1) hf
 have hdeep:=hf.deep
 have hN:Sc.headN s=2 * s.names.length+3 * s.formals.length+exN s.e+1:=rfl
 have h1:=rf2 (mm:=mm) k σ s (hf.mono (by omega)) hl
 have g1:=(Sc.grow_twice σ s.names).trans (Sc.grow_decl (s.names.map fun _=>Sc.ownTags σ.env s) (Sc.twiceOf σ s.names))
 have n1:=Sc.decl_len (s.names.map fun _=>Sc.ownTags σ.env s) (Sc.twiceOf σ s.names)
 unfold Sc.headOf at hbe hE hd henv ⊢
 dsimp only at hbe hE hd henv ⊢
 generalize Sc.declOf (Sc.twiceOf σ s.names) (s.names.map fun _=>Sc.ownTags σ.env s)=o at h1 g1 n1 hbe hE hd henv ⊢
 rw[List.length_map]at g1 n1
 have f1:=x4 g1 (m:=3 * s.formals.length+exN s.e+2) (hf.mono (by omega))
 have h2:=rf3 (mm:=mm) k o.2 σ s g1.env (f1.mono (by omega))
 have g2:=(Sc.grow_twice o.2 (s.formals.map (·.name))).trans (Sc.grow_decl (s.formals.map fun f=>(false,Sc.carriedOf σ.env f.type)) (Sc.twiceOf o.2 (s.formals.map (·.name))))
 have n2:=Sc.decl_len (s.formals.map fun f=>(false,Sc.carriedOf σ.env f.type)) (Sc.twiceOf o.2 (s.formals.map (·.name)))
 generalize Sc.declOf (Sc.twiceOf o.2 (s.formals.map (·.name))) (s.formals.map fun f=>(false,Sc.carriedOf σ.env f.type))=i at h2 g2 n2 hbe hE hd henv ⊢
 rw[List.length_map]at n2
 rw[List.length_map,List.length_map]at g2
 have f2:=x4 g2 (m:=s.formals.length+exN s.e+2) (f1.mono (by omega))
 have h3:=mg1 (glS mm) k i.2 s.type (f2.mono (m:=1) (by omega)).room
 have g3:=Sc.grow_typed i.2 s.type
 generalize Sc.typedOf i.2 s.type=t at h3 g3 hbe hE hd henv ⊢
 have f3:=x4 g3 (m:=s.formals.length+exN s.e+1) (f2.mono (by omega))
 have h4:=kj1 (glS mm) k s.formals t.2 (i.1.map (·.fresh)) (by rw[List.length_map];omega) (by rw[List.length_map];omega) (by omega) (f3.mono (m:=s.formals.length) (by omega)).room
 have g4:=jz0 s.formals t.2 s.formals.length
 rw[List.take_length]at g4
 generalize y4 Sc.formalOf t.2 s.formals=f at h4 g4 hbe hE hd henv ⊢
 have h5:=jc5 (glS mm) k s.e f.2 (by have:=f3.room;unfold Sc.W.room at this ⊢;omega)
 generalize exprOf f.2 s.e=e at h5 hbe hE hd henv ⊢
 have hn1:=mv7 (glS mm) o.1 (by omega)
 have hn2:=mv7 (glS mm) i.1 (by omega)
 have h6:=ml1 (glS mm) s.proto.l hl hv
 have h7:=qi5 (glS mm) k {e.2 with env:=Sc.pushE σ.env (s.formals.map (·.name)) i.1} σb (.mk s.kind t.1 (o.1.map (·.fresh)) e.1 s.proto (Sc.named f.1 (i.1.map (·.fresh))) s.body) b hE
 have h8:=qi4 (glS mm) k e.2 σb (s.formals.map (·.name)) i.1 (.mk s.kind t.1 (o.1.map (·.fresh)) e.1 s.proto (Sc.named f.1 (i.1.map (·.fresh))) s.body) (Sp.setBody (.mk s.kind t.1 (o.1.map (·.fresh)) e.1 s.proto (Sc.named f.1 (i.1.map (·.fresh))) s.body) b) (by rw[List.length_map,n2]) (fun u=>by
  have:=hdeep u
  rw[henv,List.length_map]
  unfold Sc.headN at this
  omega) (by rw[henv];exact hbe) (by rw[henv];exact h7)
 rw[henv]at h8
 have hfl:s.formals.length<=1000000000:=by omega
 clear h7 hE f1 f2 f3 g1 g2 g3 g4 n1 n2 hd hbe hdeep g0 hN hfr hf hv henv
 unfold Sp.with' at *
 simp only[r9]at h5
 cases k
 all_goals dsimp only[HW,ja2,l9]at h1 h2 h3 h4 h5 h8 ⊢
 case free=>
  (refine j3 func63 ntmps63 results63 fun w M E b0=>?_)
  (repeat' first|refine tr_at 2 ?_;(refine k7 1002 ?_)|refine tr_at 3 ?_;(refine k7 1003 ?_)|refine tr_at 4 ?_;(refine j1 1004 ?_)|refine yyp ?_;try refine s_bu ?_ ?_<;>intro hb|refine yy ?_|refine at_nil ?_;refine z_nil qs31_0 ?_|refine tc_seq fun K hK=>?_|apply_assumption -exfalso -symm)
  refine kn3 (t:=6) (e:=9) (sz:=1) rfl rfl ?_
  refine k9 mw2 [6] (fun x:Nat × Nat=>[(16,.d (.int .i64 x.1)),(6,.own 6 x.2)]) (fun x=>[(6,.row 9 1 true (((s.formals.take x.1).map (·.name)).map .str) x.2)]) (fun x=>x.1<=s.formals.length) (fun x=>s.formals.length - x.1) (0,0) (Nat.zero_le _) fun⟨j,kv⟩ hj=>?_
  dsimp only[List.cons_append,List.nil_append]at hj ⊢
  have hlen:((s.formals.take j).map (·.name)).length=j:=by rw[List.length_map,List.length_take];omega
  rcases Nat.lt_or_ge j s.formals.length with hj2|hj2
  ·(repeat' first|refine tr_at 8 ?_;(refine j1 1008 ?_)|refine tr_at 23 ?_;(refine z_lit 1023 ?_)|refine yyp ?_;try refine s_bu ?_ ?_<;>intro hb|refine yy ?_|(refine at_append ?_;first|(refine z_append (fun kv=>?_))|(refine z_append_suf (fun sx sp kv hsx hsp hsl=>?_)))|refine at_nil ?_;refine z_nil qs31_0 ?_|refine tc_seq fun K hK=>?_|apply_assumption -exfalso -symm)
   refine⟨(j+1,kv),by dsimp only;omega,by dsimp only;omega,?_⟩
   dsimp only
   rw[List.take_succ_eq_append_getElem hj2]
   simp only[List.map_append,List.map_cons,List.map_nil]
   exact v7
  rw[List.take_of_length_le hj2]
  (repeat' first|refine tr_at 30 ?_;refine y_callE (hc:=h1) ?_|refine tr_at 34 ?_;refine y_callE (hc:=h2) ?_|refine tr_at 11 ?_;(refine j1 1011 ?_)|refine tr_at 43 ?_;refine y_callE (hc:=h3) ?_|refine tr_at 12 ?_;(refine j1 1012 ?_)|refine tr_at 48 ?_;refine y_callE (hc:=h4) ?_|refine tr_at 53 ?_;refine y_callE (hc:=h5) ?_|refine tr_at 59 ?_;refine y_callE (hc:=h8) ?_|refine yyp ?_;try refine s_bu ?_ ?_<;>intro hb|refine yy ?_|refine at_call 100 ?_;refine y_call (hc:=hn1) ?_|refine at_call 100 ?_;refine y_call (hc:=hn2) ?_|refine at_call 105 ?_;refine y_call (hc:=h6) ?_|refine at_nil ?_;refine z_nil qs31_0 ?_|refine tc_seq fun K hK=>?_|apply_assumption -exfalso -symm)
  (refine j0 (j7 ⟨?_,rfl⟩))
  rfl
 case check ns=>
  (refine j3 func63 ntmps63 results63 fun w M E b0=>?_)
  (repeat' first|refine tr_at 2 ?_;(refine k7 1002 ?_)|refine tr_at 3 ?_;(refine k7 1003 ?_)|refine tr_at 4 ?_;(refine j1 1004 ?_)|refine yyp ?_;try refine s_bu ?_ ?_<;>intro hb|refine yy ?_|refine at_nil ?_;refine z_nil qs31_0 ?_|refine tc_seq fun K hK=>?_|apply_assumption -exfalso -symm)
  refine kn3 (t:=6) (e:=9) (sz:=1) rfl rfl ?_
  refine k9 mw2 [6] (fun x:Nat × Nat=>[(16,.d (.int .i64 x.1)),(6,.own 6 x.2)]) (fun x=>[(6,.row 9 1 true (((s.formals.take x.1).map (·.name)).map .str) x.2)]) (fun x=>x.1<=s.formals.length) (fun x=>s.formals.length - x.1) (0,0) (Nat.zero_le _) fun⟨j,kv⟩ hj=>?_
  dsimp only[List.cons_append,List.nil_append]at hj ⊢
  have hlen:((s.formals.take j).map (·.name)).length=j:=by rw[List.length_map,List.length_take];omega
  rcases Nat.lt_or_ge j s.formals.length with hj2|hj2
  ·(repeat' first|refine tr_at 8 ?_;(refine j1 1008 ?_)|refine tr_at 23 ?_;(refine z_lit 1023 ?_)|refine yyp ?_;try refine s_bu ?_ ?_<;>intro hb|refine yy ?_|(refine at_append ?_;first|(refine z_append (fun kv=>?_))|(refine z_append_suf (fun sx sp kv hsx hsp hsl=>?_)))|refine at_nil ?_;refine z_nil qs31_0 ?_|refine tc_seq fun K hK=>?_|apply_assumption -exfalso -symm)
   refine⟨(j+1,kv),by dsimp only;omega,by dsimp only;omega,?_⟩
   dsimp only
   rw[List.take_succ_eq_append_getElem hj2]
   simp only[List.map_append,List.map_cons,List.map_nil]
   exact v7
  rw[List.take_of_length_le hj2]
  (repeat' first|refine tr_at 30 ?_;refine y_callE (hc:=h1) ?_|refine tr_at 34 ?_;refine y_callE (hc:=h2) ?_|refine tr_at 11 ?_;(refine j1 1011 ?_)|refine tr_at 43 ?_;refine y_callE (hc:=h3) ?_|refine tr_at 12 ?_;(refine j1 1012 ?_)|refine tr_at 48 ?_;refine y_callE (hc:=h4) ?_|refine tr_at 53 ?_;refine y_callE (hc:=h5) ?_|refine tr_at 59 ?_;refine y_callE (hc:=h8) ?_|refine yyp ?_;try refine s_bu ?_ ?_<;>intro hb|refine yy ?_|refine at_call 100 ?_;refine y_call (hc:=hn1) ?_|refine at_call 100 ?_;refine y_call (hc:=hn2) ?_|refine at_call 105 ?_;refine y_call (hc:=h6) ?_|refine at_nil ?_;refine z_nil qs31_0 ?_|refine tc_seq fun K hK=>?_|apply_assumption -exfalso -symm)
  (refine j0 (j7 ⟨?_,rfl⟩))
  rfl
 case none=>
  (refine j3 func63 ntmps63 results63 fun w M E b0=>?_)
  (repeat' first|refine tr_at 2 ?_;(refine k7 1002 ?_)|refine tr_at 3 ?_;(refine k7 1003 ?_)|refine tr_at 4 ?_;(refine j1 1004 ?_)|refine yyp ?_;try refine s_bu ?_ ?_<;>intro hb|refine yy ?_|refine at_nil ?_;refine z_nil qs31_0 ?_|refine tc_seq fun K hK=>?_|apply_assumption -exfalso -symm)
  refine kn3 (t:=6) (e:=9) (sz:=1) rfl rfl ?_
  refine k9 mw2 [6] (fun x:Nat × Nat=>[(16,.d (.int .i64 x.1)),(6,.own 6 x.2)]) (fun x=>[(6,.row 9 1 true (((s.formals.take x.1).map (·.name)).map .str) x.2)]) (fun x=>x.1<=s.formals.length) (fun x=>s.formals.length - x.1) (0,0) (Nat.zero_le _) fun⟨j,kv⟩ hj=>?_
  dsimp only[List.cons_append,List.nil_append]at hj ⊢
  have hlen:((s.formals.take j).map (·.name)).length=j:=by rw[List.length_map,List.length_take];omega
  rcases Nat.lt_or_ge j s.formals.length with hj2|hj2
  ·(repeat' first|refine tr_at 8 ?_;(refine j1 1008 ?_)|refine tr_at 23 ?_;(refine z_lit 1023 ?_)|refine yyp ?_;try refine s_bu ?_ ?_<;>intro hb|refine yy ?_|(refine at_append ?_;first|(refine z_append (fun kv=>?_))|(refine z_append_suf (fun sx sp kv hsx hsp hsl=>?_)))|refine at_nil ?_;refine z_nil qs31_0 ?_|refine tc_seq fun K hK=>?_|apply_assumption -exfalso -symm)
   refine⟨(j+1,kv),by dsimp only;omega,by dsimp only;omega,?_⟩
   dsimp only
   rw[List.take_succ_eq_append_getElem hj2]
   simp only[List.map_append,List.map_cons,List.map_nil]
   exact v7
  rw[List.take_of_length_le hj2]
  (repeat' first|refine tr_at 30 ?_;refine y_callE (hc:=h1) ?_|refine tr_at 34 ?_;refine y_callE (hc:=h2) ?_|refine tr_at 11 ?_;(refine j1 1011 ?_)|refine tr_at 43 ?_;refine y_callE (hc:=h3) ?_|refine tr_at 12 ?_;(refine j1 1012 ?_)|refine tr_at 48 ?_;refine y_callE (hc:=h4) ?_|refine tr_at 53 ?_;refine y_callE (hc:=h5) ?_|refine tr_at 59 ?_;refine y_callE (hc:=h8) ?_|refine yyp ?_;try refine s_bu ?_ ?_<;>intro hb|refine yy ?_|refine at_call 100 ?_;refine y_call (hc:=hn1) ?_|refine at_call 100 ?_;refine y_call (hc:=hn2) ?_|refine at_call 105 ?_;refine y_call (hc:=h6) ?_|refine at_nil ?_;refine z_nil qs31_0 ?_|refine tc_seq fun K hK=>?_|apply_assumption -exfalso -symm)
  (refine j0 (j7 ⟨?_,rfl⟩))
  rfl
end
end Go.Proofs.YtdopmfifmgkmoaaGreatDoor
