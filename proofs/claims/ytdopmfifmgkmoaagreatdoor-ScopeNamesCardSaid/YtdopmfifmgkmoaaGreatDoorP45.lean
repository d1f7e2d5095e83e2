/- Parts: O14, O17, O25, O27, O28. -/
import Derived.Test.YtdopmfifmgkmoaaGreatDoorP24
import Derived.Test.YtdopmfifmgkmoaaGreatDoorP25
import Derived.Test.YtdopmfifmgkmoaaGreatDoorP20
import Derived.Test.YtdopmfifmgkmoaaGreatDoorP26
set_option linter.all false
set_option maxRecDepth 100000
set_option maxHeartbeats 16000000
namespace Go.Proofs.YtdopmfifmgkmoaaGreatDoor
open Go.RowKit Go.Proofs.Tryz
section
attribute [local irreducible] TR TC
theorem qk3 (gl:List (Nat × List D))(e:Ex):FnD prog gl 217 [.d (dE e)] (fun v=>v=.d (.bool (Lx.exOwn e))):=by
 (refine j4 func217 ntmps217 results217 fun w M=>?_)
 (repeat' first|refine tr_at 1 ?_;(refine k7 1 ?_)|refine tr_at 8 ?_;refine z_p w_buildn ?_|refine tr_at 3 ?_;(refine j1 3 ?_)|refine yyp ?_;try refine s_bu ?_ ?_<;>intro hb|refine yy ?_|refine yy2 ?_ ?_<;>intro hcmp|refine at_call 130 ?_;refine y_call (hc:=(x9 gl e.s)) ?_;try refine s_bu ?_ ?_<;>intro hb|refine at_call 229 ?_;refine y_call (hc:=(ma5 gl e.ty)) ?_;try refine s_bu ?_ ?_<;>intro hb|refine at_nil ?_;refine z_nil [0,1,2,3,4,5,6,10,11,16,29,42,51,59,72,85] ?_|refine tc_seq fun K hK=>?_|apply_assumption -exfalso -symm)
 all_goals
  (refine j0 (j6 ?_))
  simp only[oneOf,V.d.injEq,D.bool.injEq,Lx.exOwn,Lx.exParts]
  (repeat (rename (∀ S:Sd,TC _ _ _ S->_)=>hX;clear hX))
  simp only[je6,List.length_map]at *
  grind
end
section
def qo17_0:List Nat:=[0,1,2,3,6,7,8,18,25,38]
theorem ml8 (inside left:Int)(e:Ex)(l:List Ex):Lx.roomsOf inside left (e::l)=if Lx.roomOf inside left e<0 then -1 else Lx.roomsOf inside (Lx.roomOf inside left e) l:=by rw[Lx.roomsOf]
theorem mx9 (inside left:Int)(e:Ex):Lx.roomOf inside left e=if inside=32\/left=0\/Lx.exOwn e=false then -1 else Lx.roomsOf (inside+1) (left - 1) e.l:=by
 cases e
 rw[Lx.roomOf]
 rfl
attribute [local irreducible] TR TC
theorem my0 (gl:List (Nat × List D)):∀ (m:Nat) (e:Ex) (inside left:Int),exN e<=m->0<=inside->inside<=32->0<=left->left<=256->
 FnD prog gl 192 [.d (dEx e),.d (.int .i64 inside),.d (.int .i64 left)] (fun v=>v=.d (.int .i64 (Lx.roomOf inside left e))):=by
 intro m
 induction m with
 |zero=>intro e i l h;have:=jq6 e;omega
 |succ m ih=>
  intro e inside left hm h1 h2 h3 h4
  rw[qf9]at hm
  have hl:∀ z∈e.l,∀ i r:Int,0<=i->i<=32->0<=r->r<=256->FnD prog gl 192 [.d (dEx z),.d (.int .i64 i),.d (.int .i64 r)] (fun v=>v=.d (.int .i64 (Lx.roomOf i r z))):=fun z hz i r=>ih z i r (by have:=js7 hz;omega)
  have hle:∀ z i r,Lx.roomOf i r z<=r - 1\/Lx.roomOf i r z<0\/r<0\/i<0\/32<i:=fun z i r=>by
   by_cases hr:0<=r
   ·by_cases hi:0<=i/\i<=32
    ·by_cases h0:0<=Lx.roomOf i r z
     ·exact .inl ((Lx.visit_room z i r hr hi.1 hi.2).2 h0).2
     ·exact .inr (.inl (by omega))
    ·omega
   ·omega
  have hown:=qk3 gl e
  have heq:=mx9 inside left e
  clear ih hm
  generalize hr:Lx.roomOf inside left e=res at heq ⊢
  simp only[r9]at hl ⊢
  rw[kk7 e]at hown ⊢
  (refine j4 func192 ntmps192 results192 fun w M=>?_)
  (repeat' first|refine tr_at 3 ?_;(refine k7 3 ?_)|refine yyp ?_;try refine s_bu ?_ ?_<;>intro hb|refine yy ?_|refine yy2 ?_ ?_<;>intro hcmp|refine at_call 217 ?_;refine y_call (hc:=hown) ?_;try refine s_bu ?_ ?_<;>intro hb|refine at_nil ?_;refine z_nil qo17_0 ?_|refine tc_seq fun K hK=>?_|apply_assumption -exfalso -symm)
  ·(refine j0 (j6 ?_))
   rw[heq,if_pos (.inl (by omega))]
   rfl
  ·(refine j0 (j6 ?_))
   rw[heq,if_pos (.inr (.inl (by omega)))]
   rfl
  ·rw[if_neg (by simp only[hb,Bool.true_eq_false,or_false];omega)]at heq
   refine v6 0 5 rfl rfl fun hn=>?_
   simp only[List.length_map]at hn
   refine k9 [2,6,7,21,22,23,24,25,26,27,28,29,30,31,32,33,34,35,36,37,38] [] (fun x:Nat × Int=>[(7,.d (.int .i64 x.1)),(2,.d (.int .i64 x.2))]) (fun _=>[]) (fun x=>x.1<=e.l.length/\0<=x.2/\x.2<=256/\res=Lx.roomsOf (inside+1) x.2 (e.l.drop x.1)) (fun x=>e.l.length - x.1) (0,left - 1) ⟨by omega,by omega,by omega,heq⟩ fun⟨k,cur⟩ ⟨hk,hc0,hc1,hi⟩=>?_
   dsimp only[List.cons_append,List.nil_append]at *
   rcases Nat.lt_or_ge k e.l.length with hk2|hk2
   ·rw[List.drop_eq_getElem_cons hk2,ml8]at hi
    have hone:=hl e.l[k] (List.getElem_mem _) (inside+1) cur (by omega) (by omega) hc0 hc1
    have hle1:=hle e.l[k] (inside+1) cur
    (repeat' first|refine yyp ?_;try refine s_bu ?_ ?_<;>intro hb|refine yy ?_|refine yy2 ?_ ?_<;>intro hcmp|refine at_call 192 ?_;refine y_call (hc:=hone) ?_|refine at_nil ?_;refine z_nil qo17_0 ?_|refine tc_seq fun K hK=>?_|apply_assumption -exfalso -symm)
    ·(refine j0 (j6 ?_))
     rw[hi,if_pos hcmp]
     rfl
    ·refine⟨(k+1,Lx.roomOf (inside+1) cur e.l[k]),⟨by dsimp only;omega,by dsimp only;omega,by dsimp only;omega,?_⟩,by dsimp only;omega,v7⟩
     rw[hi,if_neg hcmp]
   ·rw[List.drop_of_length_le hk2,Lx.roomsOf]at hi
    (repeat' first|refine yyp ?_;try refine s_bu ?_ ?_<;>intro hb|refine yy ?_|refine at_nil ?_;refine z_nil qo17_0 ?_|refine tc_seq fun K hK=>?_|apply_assumption -exfalso -symm)
    (refine j0 (j6 ?_))
    rw[hi]
    rfl
  ·(refine j0 (j6 ?_))
   rw[heq,if_pos (.inr (.inr hb))]
   rfl
theorem jf0 (gl:List (Nat × List D))(e:Ex):FnD prog gl 160 [.d (dEx e)] (fun v=>v=.d (.bool (Lx.exMay e))):=by
 have h:=my0 gl _ e 0 256 (Nat.le_refl _) (by omega) (by omega) (by omega) (by omega)
 have hm:=Lx.exMay_room e
 simp only[r9]at h ⊢
 (refine j4 func160 ntmps160 results160 fun w M=>?_)
 (repeat' first|refine tr_at 1 ?_;(refine k7 1 ?_)|refine yyp ?_;try refine s_bu ?_ ?_<;>intro hb|refine yy ?_|refine yy2 ?_ ?_<;>intro hcmp|refine at_call 192 ?_;refine y_call (hc:=h) ?_|refine at_nil ?_;refine z_nil [0,1,2,3,4,5] ?_|refine tc_seq fun K hK=>?_|apply_assumption -exfalso -symm)
 all_goals
  (refine j0 (j6 ?_))
  simp only[oneOf,V.d.injEq,D.bool.injEq]
  cases hb:Lx.exMay e with
  |true=>first|rfl|(exfalso;have:=hm.1 hb;omega)
  |false=>first|rfl|(exfalso;rw[hb]at hm;have:=hm.2 (by omega);cases this)
end
section
def qo25_0:List Nat:=[0,1,2,3,4,5,6]
def qo25_1:List Nat:=[0,1,2,6,7,8,17,21,29]
def my1:List Nat:=[6,7,18,19,20,21,22,23,24,25,26,27,28,29]
theorem jc9 (gl:List (Nat × List D))(x y:Ex):FnD prog gl 44 [.d (dEx x),.d (dEx y)] (fun v=>v=.d (.bool (eqB x y))):=ma7 gl _ x y (Nat.le_refl _)
theorem rf4:dEx ex0=.agg [.int .u8 0,.int .u8 0,.int .u8 0,.int .i32 0,.str ⟨#[]⟩,.list 6 []]:=by
 rw[r9]
 rfl
attribute [local irreducible] TR TC
theorem kg2 (gl:List (Nat × List D))(e:Ex):FnD prog gl 170 [.d (dEx e)] (fun v=>v=.d (.bool (Lx.noneB e))):=by
 have h:=jc9 gl e ex0
 unfold Lx.noneB
 rw[rf4]at h
 simp only[r9]at h ⊢
 (refine j4 func170 ntmps170 results170 fun w M=>?_)
 (repeat' first|refine tr_at 1 ?_;(refine k7 1 ?_)|refine yyp ?_;try refine s_bu ?_ ?_<;>intro hb|refine yy ?_|refine at_call 44 ?_;refine y_call (hc:=h) ?_;try refine s_bu ?_ ?_<;>intro hb|refine at_nil ?_;refine z_nil [0,1,2,3,4,5] ?_|refine tc_seq fun K hK=>?_|apply_assumption -exfalso -symm)
 all_goals
  (refine j0 (j6 ?_))
  simp only[oneOf, *]
theorem x3 (gl:List (Nat × List D))(e:Ex):FnD prog gl 128 [.d (dEx e)] (fun v=>v=.d (.bool (Lx.elemB e))):=by
 have h:=jf0 gl e
 unfold Lx.elemB
 simp only[r9]at h ⊢
 (refine j4 func128 ntmps128 results128 fun w M=>?_)
 (repeat' first|refine tr_at 1 ?_;(refine k7 1 ?_)|refine yyp ?_;try refine s_bu ?_ ?_<;>intro hb|refine yy ?_|refine yy2 ?_ ?_<;>intro hcmp|refine at_call 160 ?_;refine y_call (hc:=h) ?_;try refine s_bu ?_ ?_<;>intro hb|refine at_nil ?_;refine z_nil qo25_0 ?_|refine tc_seq fun K hK=>?_|apply_assumption -exfalso -symm)
 all_goals
  (refine j0 (j6 ?_))
  simp only[oneOf, *,decide_true,decide_false,Bool.true_or,Bool.or_true,Bool.or_false,Bool.true_and,Bool.false_and]
  try rfl
theorem km6 (gl:List (Nat × List D))(t:Ty):FnD prog gl 167 [.d (dTy t)] (fun v=>v=.d (.bool (Lx.primT t))):=by
 have h:=jw4 gl t
 have h2:=jt0 gl t.kind
 (refine j4 func167 ntmps167 results167 fun w M=>?_)
 (repeat' first|refine tr_at 1 ?_;(refine k7 1 ?_)|refine yyp ?_;try refine s_bu ?_ ?_<;>intro hb|refine yy ?_|refine yy2 ?_ ?_<;>intro hcmp|refine at_call 165 ?_;refine y_call (hc:=h) ?_;try refine s_bu ?_ ?_<;>intro hb|refine at_call 196 ?_;refine y_call (hc:=h2) ?_;try refine s_bu ?_ ?_<;>intro hb|refine at_nil ?_;refine z_nil qo25_0 ?_|refine tc_seq fun K hK=>?_|apply_assumption -exfalso -symm)
 all_goals
  (refine j0 (j6 ?_))
  simp only[oneOf,V.d.injEq,D.bool.injEq,Lx.primT]
  (repeat (rename (∀ S:Sd,TC _ _ _ S->_)=>hX;clear hX))
  clear h h2
  grind
theorem mc8 (gl:List (Nat × List D))(f:Fo):FnD prog gl 169 [.d (dFo f)] (fun v=>v=.d (.bool (Lx.foMay f))):=by
 have h:=jw4 gl f.type
 have h2:=km6 gl f.type
 (refine j4 func169 ntmps169 results169 fun w M=>?_)
 (repeat' first|refine tr_at 1 ?_;(refine k7 1 ?_)|refine yyp ?_;try refine s_bu ?_ ?_<;>intro hb|refine yy ?_|refine at_call 130 ?_;refine y_call (hc:=(x9 gl f.name)) ?_;try refine s_bu ?_ ?_<;>intro hb|refine at_call 165 ?_;refine y_call (hc:=h) ?_;try refine s_bu ?_ ?_<;>intro hb|refine at_call 167 ?_;refine y_call (hc:=h2) ?_;try refine s_bu ?_ ?_<;>intro hb|refine at_nil ?_;refine z_nil qo25_0 ?_|refine tc_seq fun K hK=>?_|apply_assumption -exfalso -symm)
 all_goals
  (refine j0 (j6 ?_))
  simp only[oneOf,V.d.injEq,D.bool.injEq,Lx.foMay]
  (repeat (rename (∀ S:Sd,TC _ _ _ S->_)=>hX;clear hX))
  clear h h2
  grind
theorem qk4 (gl:List (Nat × List D))(r:Rp):FnD prog gl 132 [.d (dRp r)] (fun v=>v=.d (.bool (Lx.repMay r))):=by
 have h1:=kg2 gl r.base
 have h2:=kg2 gl r.count
 have h3:=jf0 gl r.base
 have h4:=jf0 gl r.count
 simp only[r9]at h1 h2 h3 h4
 (refine j4 func132 ntmps132 results132 fun w M=>?_)
 (repeat' first|refine tr_at 1 ?_;(refine k7 1 ?_)|refine yyp ?_;try refine s_bu ?_ ?_<;>intro hb|refine yy ?_|refine yy2 ?_ ?_<;>intro hcmp|refine at_call 170 ?_;refine y_call (hc:=(by first|exact h1|exact h2)) ?_;try refine s_bu ?_ ?_<;>intro hb|refine at_call 130 ?_;refine y_call (hc:=(x9 gl r.name)) ?_;try refine s_bu ?_ ?_<;>intro hb|refine at_call 160 ?_;refine y_call (hc:=(by first|exact h3|exact h4)) ?_;try refine s_bu ?_ ?_<;>intro hb|refine at_nil ?_;refine z_nil qo25_0 ?_|refine tc_seq fun K hK=>?_|apply_assumption -exfalso -symm)
 all_goals
  (refine j0 (j6 ?_))
  simp only[oneOf,V.d.injEq,D.bool.injEq,Lx.repMay]
  (repeat (rename (∀ S:Sd,TC _ _ _ S->_)=>hX;clear hX))
  clear h1 h2 h3 h4
  simp only[je6]at *
  grind
theorem v8 (gl:List (Nat × List D))(l:List Ex)(a b:Int):FnD prog gl 126 [.d (.list 6 (l.map (fun x=>dEx (x)))),.d (.int .i64 a),.d (.int .i64 b)] (fun v=>v=.d (.bool (Lx.eachB l a b Lx.elemB))):=by
 have hall:∀ x:Ex,FnD prog gl 128 [.d (dEx (x))] (fun v=>v=.d (.bool (Lx.elemB x))):=fun x=>x3 gl x
 simp only[r9]at hall ⊢
 (refine j4 func126 ntmps126 results126 fun w M=>?_)
 refine r7 0 rfl fun hn=>?_
 simp only[List.length_map]at hn
 (repeat' first|refine yyp ?_;try refine s_bu ?_ ?_<;>intro hb|refine yy ?_|refine yy2 ?_ ?_<;>intro hcmp|refine at_nil ?_;refine z_nil qo25_1 ?_|refine tc_seq fun K hK=>?_|apply_assumption -exfalso -symm)
 ·(refine j0 (j6 ?_))
  simp only[oneOf,Lx.eachB,Lx.hasB,decide_eq_false (by omega:¬a<=(l.length:Int)),Bool.false_and]
 ·(refine j0 (j6 ?_))
  simp only[oneOf,Lx.eachB,Lx.hasB,decide_eq_false (by omega:¬(l.length:Int)<=b),Bool.false_and,Bool.and_false]
 have hd:Lx.hasB a b l.length=true:=by
  unfold Lx.hasB
  rw[decide_eq_true (by omega),decide_eq_true (by omega)]
  rfl
 refine k9 my1 [] (fun k:Nat=>[(7,.d (.int .i64 k))]) (fun _=>[]) (fun k=>k<=l.length/\l.all Lx.elemB=(l.drop k).all Lx.elemB) (fun k=>l.length - k) 0 ⟨by omega,rfl⟩ fun k ⟨hk,hi⟩=>?_
 dsimp only[List.cons_append,List.nil_append]
 rcases Nat.lt_or_ge k l.length with hk2|hk2
 ·rw[List.drop_eq_getElem_cons hk2,List.all_cons]at hi
  have hone:=hall l[k]
  (repeat' first|refine yyp ?_;try refine s_bu ?_ ?_<;>intro hb|refine yy ?_|refine at_call 128 ?_;refine y_call (hc:=hone) ?_;try refine s_bu ?_ ?_<;>intro hb|refine at_nil ?_;refine z_nil qo25_1 ?_|refine tc_seq fun K hK=>?_|apply_assumption -exfalso -symm)
  ·refine⟨k+1,⟨by omega,?_⟩,by omega,v7⟩
   rw[hi,hb]
   rfl
  ·(refine j0 (j6 ?_))
   rw[hb,Bool.false_and]at hi
   simp only[oneOf,Lx.eachB,hi,Bool.and_false]
 ·rw[List.drop_of_length_le hk2]at hi
  (repeat' first|refine yyp ?_;try refine s_bu ?_ ?_<;>intro hb|refine yy ?_|refine at_nil ?_;refine z_nil qo25_1 ?_|refine tc_seq fun K hK=>?_|apply_assumption -exfalso -symm)
  (refine j0 (j6 ?_))
  simp only[oneOf,Lx.eachB,hi,hd,List.all_nil,Bool.and_self]
theorem y7 (gl:List (Nat × List D))(l:List Ex)(a b:Int):FnD prog gl 127 [.d (.list 6 (l.map (fun x=>dEx (x)))),.d (.int .i64 a),.d (.int .i64 b)] (fun v=>v=.d (.bool (Lx.eachB l a b Lx.exMay))):=by
 have hall:∀ x:Ex,FnD prog gl 160 [.d (dEx (x))] (fun v=>v=.d (.bool (Lx.exMay x))):=fun x=>jf0 gl x
 simp only[r9]at hall ⊢
 (refine j4 func127 ntmps127 results127 fun w M=>?_)
 refine r7 0 rfl fun hn=>?_
 simp only[List.length_map]at hn
 (repeat' first|refine yyp ?_;try refine s_bu ?_ ?_<;>intro hb|refine yy ?_|refine yy2 ?_ ?_<;>intro hcmp|refine at_nil ?_;refine z_nil qo25_1 ?_|refine tc_seq fun K hK=>?_|apply_assumption -exfalso -symm)
 ·(refine j0 (j6 ?_))
  simp only[oneOf,Lx.eachB,Lx.hasB,decide_eq_false (by omega:¬a<=(l.length:Int)),Bool.false_and]
 ·(refine j0 (j6 ?_))
  simp only[oneOf,Lx.eachB,Lx.hasB,decide_eq_false (by omega:¬(l.length:Int)<=b),Bool.false_and,Bool.and_false]
 have hd:Lx.hasB a b l.length=true:=by
  unfold Lx.hasB
  rw[decide_eq_true (by omega),decide_eq_true (by omega)]
  rfl
 refine k9 my1 [] (fun k:Nat=>[(7,.d (.int .i64 k))]) (fun _=>[]) (fun k=>k<=l.length/\l.all Lx.exMay=(l.drop k).all Lx.exMay) (fun k=>l.length - k) 0 ⟨by omega,rfl⟩ fun k ⟨hk,hi⟩=>?_
 dsimp only[List.cons_append,List.nil_append]
 rcases Nat.lt_or_ge k l.length with hk2|hk2
 ·rw[List.drop_eq_getElem_cons hk2,List.all_cons]at hi
  have hone:=hall l[k]
  (repeat' first|refine yyp ?_;try refine s_bu ?_ ?_<;>intro hb|refine yy ?_|refine at_call 160 ?_;refine y_call (hc:=hone) ?_;try refine s_bu ?_ ?_<;>intro hb|refine at_nil ?_;refine z_nil qo25_1 ?_|refine tc_seq fun K hK=>?_|apply_assumption -exfalso -symm)
  ·refine⟨k+1,⟨by omega,?_⟩,by omega,v7⟩
   rw[hi,hb]
   rfl
  ·(refine j0 (j6 ?_))
   rw[hb,Bool.false_and]at hi
   simp only[oneOf,Lx.eachB,hi,Bool.and_false]
 ·rw[List.drop_of_length_le hk2]at hi
  (repeat' first|refine yyp ?_;try refine s_bu ?_ ?_<;>intro hb|refine yy ?_|refine at_nil ?_;refine z_nil qo25_1 ?_|refine tc_seq fun K hK=>?_|apply_assumption -exfalso -symm)
  (refine j0 (j6 ?_))
  simp only[oneOf,Lx.eachB,hi,hd,List.all_nil,Bool.and_self]
theorem km7 (gl:List (Nat × List D))(l:List ByteArray)(a b:Int):FnD prog gl 166 [.d (.list 1 (l.map (fun x=>.str (x)))),.d (.int .i64 a),.d (.int .i64 b)] (fun v=>v=.d (.bool (Lx.eachB l a b Lx.isName))):=by
 have hall:∀ x:ByteArray,FnD prog gl 130 [.d (.str (x))] (fun v=>v=.d (.bool (Lx.isName x))):=fun x=>x9 gl x
 (refine j4 func166 ntmps166 results166 fun w M=>?_)
 refine r7 0 rfl fun hn=>?_
 simp only[List.length_map]at hn
 (repeat' first|refine yyp ?_;try refine s_bu ?_ ?_<;>intro hb|refine yy ?_|refine yy2 ?_ ?_<;>intro hcmp|refine at_nil ?_;refine z_nil qo25_1 ?_|refine tc_seq fun K hK=>?_|apply_assumption -exfalso -symm)
 ·(refine j0 (j6 ?_))
  simp only[oneOf,Lx.eachB,Lx.hasB,decide_eq_false (by omega:¬a<=(l.length:Int)),Bool.false_and]
 ·(refine j0 (j6 ?_))
  simp only[oneOf,Lx.eachB,Lx.hasB,decide_eq_false (by omega:¬(l.length:Int)<=b),Bool.false_and,Bool.and_false]
 have hd:Lx.hasB a b l.length=true:=by
  unfold Lx.hasB
  rw[decide_eq_true (by omega),decide_eq_true (by omega)]
  rfl
 refine k9 my1 [] (fun k:Nat=>[(7,.d (.int .i64 k))]) (fun _=>[]) (fun k=>k<=l.length/\l.all Lx.isName=(l.drop k).all Lx.isName) (fun k=>l.length - k) 0 ⟨by omega,rfl⟩ fun k ⟨hk,hi⟩=>?_
 dsimp only[List.cons_append,List.nil_append]
 rcases Nat.lt_or_ge k l.length with hk2|hk2
 ·rw[List.drop_eq_getElem_cons hk2,List.all_cons]at hi
  have hone:=hall l[k]
  (repeat' first|refine yyp ?_;try refine s_bu ?_ ?_<;>intro hb|refine yy ?_|refine at_call 130 ?_;refine y_call (hc:=hone) ?_;try refine s_bu ?_ ?_<;>intro hb|refine at_nil ?_;refine z_nil qo25_1 ?_|refine tc_seq fun K hK=>?_|apply_assumption -exfalso -symm)
  ·refine⟨k+1,⟨by omega,?_⟩,by omega,v7⟩
   rw[hi,hb]
   rfl
  ·(refine j0 (j6 ?_))
   rw[hb,Bool.false_and]at hi
   simp only[oneOf,Lx.eachB,hi,Bool.and_false]
 ·rw[List.drop_of_length_le hk2]at hi
  (repeat' first|refine yyp ?_;try refine s_bu ?_ ?_<;>intro hb|refine yy ?_|refine at_nil ?_;refine z_nil qo25_1 ?_|refine tc_seq fun K hK=>?_|apply_assumption -exfalso -symm)
  (refine j0 (j6 ?_))
  simp only[oneOf,Lx.eachB,hi,hd,List.all_nil,Bool.and_self]
end
section
def qo27_0:List Nat:=[0,1,2,3,4,5,6,7,19,24,55]
def qo27_1:List Nat:=[0,1,2,3,4,5,6,7]
def mh5:Plan:=lin [0,8,24,32,5,12,16,21,29,36,40,45,48,52,56,64,80,88,61,68,72,77,85,92,96,101,106,108,112]
section
variable {E:Set}{S:Sd}{dst:Option Tmp}{ty:TypeId}{pos:String}{af:Array Edge}{gd:Option (Nat × Bool)}
theorem km8 {xt yt:TypeId}{x y:Operand}{s t:Bool}[ht:TCell E.P xt](hu:E.P.underlying xt=some .bool)(hx:S.ev x=some (.d (.bool s)))(hy:S.ev y=some (.d (.bool t)))(hox:okOp x=true)(hoy:okOp y=true):
 Swift E S ⟨dst,.binOp .neq xt x y yt,ty,pos,af,gd⟩ (.d (.bool (!(s == t)))):=Swift.mk fun β a w h=>by
 have h1:a.eval x=.bool s:=h.ev hx hox
 have h2:a.eval y=.bool t:=h.ev hy hoy
 refine⟨.bool (!(s == t)),fun w' _=>?_,rfl⟩
 have he:(Op.equal xt (.bool s) (.bool t)).run E.P w'=.ok (s == t) w':=by
  unfold Op.equal
  rw[show Op.maxDepth=9999+1 from rfl,Op.equalIn]
  simp only[Sem.run_bind,run_underlying hu,Result.andThen_ok,Sem.run_pure]
 have hb:(binOp .neq xt (.bool s) (.bool t)).run E.P w'=.ok (.bool (!(s == t))) w':=by
  show(do pure (Value.bool !(<-Op.equal xt (.bool s) (.bool t))):Sem Value).run E.P w'=_
  simp only[Sem.run_bind,he,Result.andThen_ok,Sem.run_pure]
 simp[execOp,h1,h2,eqGuard,hb]
end
attribute [local irreducible] TR TC
theorem kj3 (gl:List (Nat × List D))(x y:Pt):FnD prog gl 83 [.d (dPt x),.d (dPt y)] (fun v=>v=.d (.bool (eqB x y))):=by
 have hxy:=ra7 (a:=x) (b:=y)
 obtain⟨xc,xl⟩:=x
 obtain⟨yc,yl⟩:=y
 dsimp only at hxy
 dsimp only[dPt]
 by_cases hc:xc=yc/\xl.length=yl.length
 ·obtain⟨hc1,hlen⟩:=hc
  subst hc1
  have hle1:xl.length<=yl.length:=Nat.le_of_eq hlen
  have hle2:yl.length<=xl.length:=Nat.le_of_eq hlen.symm
  clear hlen
  cases xc
  all_goals
   (refine j4 func83 ntmps83 results83 fun w M=>?_)
   refine v6 0 1 rfl rfl fun hna=>?_
   refine v6 1 1 rfl rfl fun hnb=>?_
   simp only[List.length_map]at hna hnb
   (repeat' first|refine tr_at 2 ?_;(refine k7 2 ?_)|refine tr_at 3 ?_;(refine k7 3 ?_)|refine tr_at 10 ?_;(refine z_p (km8 (by kernel_rfl) rfl rfl rfl rfl) ?_)|refine tr_at 11 ?_;(first|refine yyp ?_;try refine s_bu ?_ ?_<;>intro hb|refine yy2 ?_ ?_<;>intro hcmp);all_goals try refine z_sh true 11 19 qo27_0 ?_|refine tr_at 19 ?_;refine yyp ?_;try refine s_bu ?_ ?_<;>intro hb|refine yyp ?_|refine yy ?_|refine at_nil ?_;refine z_nil qo27_0 ?_|refine tc_seq fun K hK=>?_|refine j5 6 ?_;refine j2 [] mh5 ?_|apply_assumption -exfalso -symm)
   refine k9 [4,5,20,21,22,23,24,25,26,27,28,29,30,31,32,33,34,35,36,37,38,39,40,41,42,43,44,45,46,47,48,49,50,51,52,53,54,55] [] (fun k:Nat=>[(5,.d (.int .i64 k))]) (fun _=>[]) (fun k=>k<=xl.length/\xl.take k=yl.take k) (fun k=>xl.length - k) 0 ⟨Nat.zero_le _,rfl⟩ fun k ⟨hk,hi⟩=>?_
   dsimp only[List.cons_append,List.nil_append]
   rcases Nat.lt_or_ge k xl.length with hk2|hk2
   ·have hk3:k<yl.length:=by omega
    have hone:=ma4 gl xl[k].items yl[k].items
    have hv:=ra3 (a:=xl[k]) (b:=yl[k])
    (repeat' first|refine yyp ?_;try refine s_bu ?_ ?_<;>intro hb|refine yy ?_|refine yy2 ?_ ?_<;>intro hcmp|refine at_call 123 ?_;refine y_call (hc:=hone) ?_;try refine s_bu ?_ ?_<;>intro hb|refine at_nil ?_;refine z_nil qo27_0 ?_|refine tc_seq fun K hK=>?_|refine j5 6 ?_;refine j2 [] mh5 ?_|apply_assumption -exfalso -symm)
    all_goals (repeat (rename (∀ S:Sd,TC _ _ _ S->_)=>hX;clear hX))
    all_goals try simp only[Decidable.not_not,ne_eq,Bool.not_eq_true',Bool.not_eq_false']at *
    all_goals first
     |(refine⟨k+1,⟨by omega,x6 hk2 hk3 hi (hv.2 ⟨by assumption,j9.1 (by assumption)⟩)⟩,by omega,v7⟩)
     |((refine j0 (j6 ?_))
       simp only[oneOf,V.d.injEq,D.bool.injEq]
       refine(r8.2 fun e=>?_).symm
       have e2:=(hxy.1 e).2
       refine y8 hk2 hk3 (fun e3=>?_) e2
       have e4:=hv.1 e3
       first
        |exact absurd e4.1 (by assumption)
        |exact absurd e4.2 (r8.1 (by assumption)))
   ·(repeat' first|refine yyp ?_;try refine s_bu ?_ ?_<;>intro hb|refine yy ?_|refine at_nil ?_;refine z_nil qo27_0 ?_|refine tc_seq fun K hK=>?_|refine j5 6 ?_;refine j2 [] mh5 ?_|apply_assumption -exfalso -symm)
    (refine j0 (j6 ?_))
    simp only[oneOf,V.d.injEq,D.bool.injEq]
    exact(j9.2 (hxy.2 ⟨rfl,y3 hk2 (by omega) hi⟩)).symm
 ·have hf:eqB (Pt.mk xc xl) (Pt.mk yc yl)=false:=r8.2 fun e=>hc ⟨(hxy.1 e).1,by rw[(hxy.1 e).2]⟩
  rw[hf]
  cases xc<;>cases yc
  all_goals (refine j4 func83 ntmps83 results83 fun w M=>?_)
  all_goals refine v6 0 1 rfl rfl fun hna=>?_
  all_goals refine v6 1 1 rfl rfl fun hnb=>?_
  all_goals simp only[List.length_map]at hna hnb
  all_goals (repeat' first|refine tr_at 2 ?_;(refine k7 2 ?_)|refine tr_at 3 ?_;(refine k7 3 ?_)|refine tr_at 10 ?_;(refine z_p (km8 (by kernel_rfl) rfl rfl rfl rfl) ?_)|refine tr_at 11 ?_;(first|refine yyp ?_;try refine s_bu ?_ ?_<;>intro hb|refine yy2 ?_ ?_<;>intro hcmp);all_goals try refine z_sh true 11 19 qo27_0 ?_|refine tr_at 19 ?_;refine yyp ?_;try refine s_bu ?_ ?_<;>intro hb|refine yyp ?_|refine yy ?_|refine yy2 ?_ ?_<;>intro hcmp|refine at_nil ?_;refine z_nil qo27_0 ?_|refine tc_seq fun K hK=>?_|refine j5 6 ?_;refine j2 [] mh5 ?_|apply_assumption -exfalso -symm)
  all_goals first
   |(exfalso;exact hc ⟨rfl,by omega⟩)
   |((refine j0 (j6 ?_))
     rfl)
theorem kg3 (gl:List (Nat × List D))(x y:Gu)(h:∀ a∈x.body,∀ b,FnD prog gl 19 [.d (dPr a),.d (dPr b)] (fun v=>v=.d (.bool (eqB a b)))):
 FnD prog gl 81 [.d (dGu x),.d (dGu y)] (fun v=>v=.d (.bool (eqB x y))):=by
 have h1:=jc9 gl x.cond y.cond
 have h2:=jc9 gl x.chan y.chan
 have h3:=jc9 gl x.time y.time
 have h4:=jk9 gl x.targets y.targets fun a _ b=>jc9 gl a b
 have h5:=jk9 gl x.values y.values fun a _ b=>jc9 gl a b
 have h6:=kd5 gl x.body y.body h
 have e1:=rb0 (a:=x) (b:=y)
 clear h
 simp only[r9]at h1 h2 h3
 rw[jg4]
 (refine j4 func81 ntmps81 results81 fun w M=>?_)
 (repeat' first|refine tr_at 2 ?_;(refine k7 2 ?_)|refine tr_at 3 ?_;(refine k7 3 ?_)|refine tr_at 10 ?_;(first|refine yyp ?_;try refine s_bu ?_ ?_<;>intro hb|refine yy2 ?_ ?_<;>intro hcmp);all_goals try refine z_sh false 10 4 qo27_1 ?_|refine tr_at 17 ?_;(first|refine yyp ?_;try refine s_bu ?_ ?_<;>intro hb|refine yy2 ?_ ?_<;>intro hcmp);all_goals try refine z_sh false 17 4 qo27_1 ?_|refine tr_at 24 ?_;(first|refine yyp ?_;try refine s_bu ?_ ?_<;>intro hb|refine yy2 ?_ ?_<;>intro hcmp);all_goals try refine z_sh false 24 4 qo27_1 ?_|refine tr_at 31 ?_;(first|refine yyp ?_;try refine s_bu ?_ ?_<;>intro hb|refine yy2 ?_ ?_<;>intro hcmp);all_goals try refine z_sh false 31 4 qo27_1 ?_|refine tr_at 38 ?_;(first|refine yyp ?_;try refine s_bu ?_ ?_<;>intro hb|refine yy2 ?_ ?_<;>intro hcmp);all_goals try refine z_sh false 38 4 qo27_1 ?_|refine tr_at 45 ?_;(first|refine yyp ?_;try refine s_bu ?_ ?_<;>intro hb|refine yy2 ?_ ?_<;>intro hcmp);all_goals try refine z_sh false 45 4 qo27_1 ?_|refine tr_at 52 ?_;(first|refine yyp ?_;try refine s_bu ?_ ?_<;>intro hb|refine yy2 ?_ ?_<;>intro hcmp);all_goals try refine z_sh false 52 4 qo27_1 ?_|refine yyp ?_;try refine s_bu ?_ ?_<;>intro hb|refine yy ?_|refine yy2 ?_ ?_<;>intro hcmp|refine at_call 44 ?_;refine y_call (hc:=(by first|exact h1|exact h2|exact h3)) ?_;try refine s_bu ?_ ?_<;>intro hb|refine at_call 45 ?_;refine y_call (hc:=(by first|exact h4|exact h5)) ?_;try refine s_bu ?_ ?_<;>intro hb|refine at_call 47 ?_;refine y_call (hc:=h6) ?_;try refine s_bu ?_ ?_<;>intro hb|refine at_nil ?_;refine z_nil qo27_1 ?_|refine tc_seq fun K hK=>?_|apply_assumption -exfalso -symm)
 all_goals
  (refine j0 (j6 ?_))
  simp only[oneOf,V.d.injEq,D.bool.injEq]
  (repeat (rename (∀ S:Sd,TC _ _ _ S->_)=>hX;clear hX))
  clear h1 h2 h3 h4 h5 h6
  symm
  simp only[j9,r8,ne_eq]at *
  grind
end
section
def qo28_0:List Nat:=[0,1,2,3,4,5,6,7,26,31,44]
def qo28_1:List Nat:=[0,1,2,3,4,5,6,7,13,18,31]
def jz2:Plan:=lin [0,8,20,28,5,12,17,25,32,37,40]
attribute [local irreducible] TR TC
theorem kg4 (gl:List (Nat × List D))(x y:Sp)(h:∀ a∈x.body,∀ b,FnD prog gl 19 [.d (dPr a),.d (dPr b)] (fun v=>v=.d (.bool (eqB a b)))):
 FnD prog gl 48 [.d (dSp x),.d (dSp y)] (fun v=>v=.d (.bool (eqB x y))):=by
 have h1:=ma3 gl x.names y.names
 have h2:=jc9 gl x.e y.e
 have h3:=kj3 gl x.proto y.proto
 have h6:=kd5 gl x.body y.body h
 have e1:=ra9 (a:=x) (b:=y)
 have e2:=ra6 (a:=x.type) (b:=y.type)
 clear h
 simp only[r9]at h2
 by_cases hc:x.kind=y.kind/\x.type=y.type/\x.formals.length=y.formals.length
 ·obtain⟨hc1,hc2,hlen⟩:=hc
  have hle1:x.formals.length<=y.formals.length:=Nat.le_of_eq hlen
  have hle2:y.formals.length<=x.formals.length:=Nat.le_of_eq hlen.symm
  have hty:=e2.1 hc2
  clear hlen e2
  (refine j4 func48 ntmps48 results48 fun w M=>?_)
  refine v6 0 14 rfl rfl fun hna=>?_
  refine v6 1 14 rfl rfl fun hnb=>?_
  simp only[List.length_map]at hna hnb
  (repeat' first|refine tr_at 2 ?_;(refine k7 2 ?_)|refine tr_at 3 ?_;(refine k7 3 ?_)|refine tr_at 11 ?_;(first|refine yyp ?_;try refine s_bu ?_ ?_<;>intro hb|refine yy2 ?_ ?_<;>intro hcmp);all_goals try refine z_sh true 11 26 qo28_0 ?_|refine tr_at 18 ?_;(first|refine yyp ?_;try refine s_bu ?_ ?_<;>intro hb|refine yy2 ?_ ?_<;>intro hcmp);all_goals try refine z_sh true 18 26 qo28_0 ?_|refine yyp ?_;try refine s_bu ?_ ?_<;>intro hb|refine yy ?_|refine yy2 ?_ ?_<;>intro hcmp|refine at_nil ?_;refine z_nil qo28_0 ?_|refine tc_seq fun K hK=>?_|refine j5 6 ?_;refine j2 [] jz2 ?_|apply_assumption -exfalso -symm)
  all_goals first
   |(exfalso;omega)
   |(exfalso;exact absurd hty (by assumption))
   |(exfalso;simp_all;done)
   |skip
  refine k9 [4,5,27,28,29,30,31,32,33,34,35,36,37,38,39,40,41,42,43,44] [] (fun k:Nat=>[(5,.d (.int .i64 k))]) (fun _=>[]) (fun k=>k<=x.formals.length/\x.formals.take k=y.formals.take k) (fun k=>x.formals.length - k) 0 ⟨Nat.zero_le _,rfl⟩ fun k ⟨hk,hi⟩=>?_
  dsimp only[List.cons_append,List.nil_append]
  rcases Nat.lt_or_ge k x.formals.length with hk2|hk2
  ·have hk3:k<y.formals.length:=by omega
   have hv:=ms9 (a:=x.formals[k]) (b:=y.formals[k])
   (repeat' first|refine yyp ?_;try refine s_bu ?_ ?_<;>intro hb|refine yy ?_|refine yy2 ?_ ?_<;>intro hcmp|refine at_nil ?_;refine z_nil qo28_0 ?_|refine tc_seq fun K hK=>?_|refine j5 6 ?_;refine j2 [] jz2 ?_|apply_assumption -exfalso -symm)
   all_goals first
    |(refine⟨k+1,⟨by omega,x6 hk2 hk3 hi (hv.2 (by assumption))⟩,by omega,v7⟩)
    |((refine j0 (j6 ?_))
      simp only[oneOf,V.d.injEq,D.bool.injEq]
      refine(r8.2 fun e=>?_).symm
      have e3:=(e1.1 e).2.2.2.2.2.1
      refine y8 hk2 hk3 (fun e4=>?_) e3
      exact absurd (hv.1 e4) (by assumption))
  ·have hfo:=y3 hk2 (by omega) hi
   (repeat' first|refine tr_at 50 ?_;(first|refine yyp ?_;try refine s_bu ?_ ?_<;>intro hb|refine yy2 ?_ ?_<;>intro hcmp);all_goals try refine z_sh false 50 4 qo28_0 ?_|refine tr_at 57 ?_;(first|refine yyp ?_;try refine s_bu ?_ ?_<;>intro hb|refine yy2 ?_ ?_<;>intro hcmp);all_goals try refine z_sh false 57 4 qo28_0 ?_|refine tr_at 64 ?_;(first|refine yyp ?_;try refine s_bu ?_ ?_<;>intro hb|refine yy2 ?_ ?_<;>intro hcmp);all_goals try refine z_sh false 64 4 qo28_0 ?_|refine yyp ?_;try refine s_bu ?_ ?_<;>intro hb|refine yy ?_|refine at_call 82 ?_;refine y_call (hc:=h1) ?_;try refine s_bu ?_ ?_<;>intro hb|refine at_call 44 ?_;refine y_call (hc:=h2) ?_;try refine s_bu ?_ ?_<;>intro hb|refine at_call 83 ?_;refine y_call (hc:=h3) ?_;try refine s_bu ?_ ?_<;>intro hb|refine at_call 47 ?_;refine y_call (hc:=h6) ?_;try refine s_bu ?_ ?_<;>intro hb|refine at_nil ?_;refine z_nil qo28_0 ?_|refine tc_seq fun K hK=>?_|refine j5 6 ?_;refine j2 [] jz2 ?_|apply_assumption -exfalso -symm)
   all_goals
    (refine j0 (j6 ?_))
    simp only[oneOf,V.d.injEq,D.bool.injEq]
    (repeat (rename (∀ S:Sd,TC _ _ _ S->_)=>hX;clear hX))
    clear h1 h2 h3 h6 hi hty
    symm
    simp only[j9,r8,ne_eq]at *
    grind
 ·have hf:eqB x y=false:=r8.2 fun e=>hc ⟨(e1.1 e).1,(e1.1 e).2.1,by rw[(e1.1 e).2.2.2.2.2.1]⟩
  rw[hf]
  (refine j4 func48 ntmps48 results48 fun w M=>?_)
  refine v6 0 14 rfl rfl fun hna=>?_
  refine v6 1 14 rfl rfl fun hnb=>?_
  simp only[List.length_map]at hna hnb
  (repeat' first|refine tr_at 2 ?_;(refine k7 2 ?_)|refine tr_at 3 ?_;(refine k7 3 ?_)|refine tr_at 11 ?_;(first|refine yyp ?_;try refine s_bu ?_ ?_<;>intro hb|refine yy2 ?_ ?_<;>intro hcmp);all_goals try refine z_sh true 11 26 qo28_0 ?_|refine tr_at 18 ?_;(first|refine yyp ?_;try refine s_bu ?_ ?_<;>intro hb|refine yy2 ?_ ?_<;>intro hcmp);all_goals try refine z_sh true 18 26 qo28_0 ?_|refine yyp ?_;try refine s_bu ?_ ?_<;>intro hb|refine yy ?_|refine yy2 ?_ ?_<;>intro hcmp|refine at_nil ?_;refine z_nil qo28_0 ?_|refine tc_seq fun K hK=>?_|refine j5 6 ?_;refine j2 [] jz2 ?_|apply_assumption -exfalso -symm)
  all_goals first
   |((refine j0 (j6 ?_))
     rfl)
   |(exfalso;refine hc ⟨by omega,e2.2 (by assumption),by omega⟩)
   |(exfalso;(repeat (rename (∀ S:Sd,TC _ _ _ S->_)=>hX;clear hX));simp_all;done)
theorem ml9 (gl:List (Nat × List D))(x y:Pr)(hl:∀ a∈x.l,∀ b,FnD prog gl 19 [.d (dPr a),.d (dPr b)] (fun v=>v=.d (.bool (eqB a b))))
 (hg:∀ g∈x.guards,∀ a∈g.body,∀ b,FnD prog gl 19 [.d (dPr a),.d (dPr b)] (fun v=>v=.d (.bool (eqB a b))))
 (hb':∀ a∈x.spec.body,∀ b,FnD prog gl 19 [.d (dPr a),.d (dPr b)] (fun v=>v=.d (.bool (eqB a b)))):
 FnD prog gl 19 [.d (dPr x),.d (dPr y)] (fun v=>v=.d (.bool (eqB x y))):=by
 have h1:=jc9 gl x.chan y.chan
 have h2:=jc9 gl x.rep.base y.rep.base
 have h3:=jc9 gl x.rep.count y.rep.count
 have h4:=jk9 gl x.targets y.targets fun a _ b=>jc9 gl a b
 have h5:=jk9 gl x.exprs y.exprs fun a _ b=>jc9 gl a b
 have h6:=kd5 gl x.l y.l hl
 have h7:=kv8 gl x.guards y.guards fun g hm k=>kg3 gl g k (hg g hm)
 have h8:=kg4 gl x.spec y.spec hb'
 have e1:=rb1 (a:=x) (b:=y)
 have e2:=ra8 (a:=x.rep) (b:=y.rep)
 clear hl hg hb'
 simp only[r9]at h1 h2 h3
 rw[x5]
 by_cases hlen:x.procs.length=y.procs.length
 ·have hle1:x.procs.length<=y.procs.length:=Nat.le_of_eq hlen
  have hle2:y.procs.length<=x.procs.length:=Nat.le_of_eq hlen.symm
  clear hlen
  (refine j4 func19 ntmps19 results19 fun w M=>?_)
  refine v6 0 25 rfl rfl fun hna=>?_
  refine v6 1 25 rfl rfl fun hnb=>?_
  simp only[List.length_map]at hna hnb
  (repeat' first|refine tr_at 2 ?_;(refine k7 2 ?_)|refine tr_at 3 ?_;(refine k7 3 ?_)|refine yyp ?_;try refine s_bu ?_ ?_<;>intro hb|refine yy ?_|refine at_nil ?_;refine z_nil qo28_1 ?_|refine tc_seq fun K hK=>?_|refine j5 6 ?_;refine j2 [] jz2 ?_|apply_assumption -exfalso -symm)
  refine k9 [4,5,14,15,16,17,18,19,20,21,22,23,24,25,26,27,28,29,30,31] [] (fun k:Nat=>[(5,.d (.int .i64 k))]) (fun _=>[]) (fun k=>k<=x.procs.length/\x.procs.take k=y.procs.take k) (fun k=>x.procs.length - k) 0 ⟨Nat.zero_le _,rfl⟩ fun k ⟨hk,hi⟩=>?_
  dsimp only[List.cons_append,List.nil_append]
  rcases Nat.lt_or_ge k x.procs.length with hk2|hk2
  ·have hk3:k<y.procs.length:=by omega
   (repeat' first|refine yyp ?_;try refine s_bu ?_ ?_<;>intro hb|refine yy ?_|refine yy2 ?_ ?_<;>intro hcmp|refine at_nil ?_;refine z_nil qo28_1 ?_|refine tc_seq fun K hK=>?_|refine j5 6 ?_;refine j2 [] jz2 ?_|apply_assumption -exfalso -symm)
   all_goals try simp only[Decidable.not_not,ne_eq]at hcmp
   all_goals first
    |(refine⟨k+1,⟨by omega,x6 hk2 hk3 hi hcmp⟩,by omega,v7⟩)
    |((refine j0 (j6 ?_))
      simp only[oneOf,V.d.injEq,D.bool.injEq]
      refine(r8.2 fun e=>?_).symm
      exact y8 hk2 hk3 (by assumption) (e1.1 e).2.2.2.2.2.2.2.2.1)
  ·have hfo:=y3 hk2 (by omega) hi
   (repeat' first|refine tr_at 39 ?_;(first|refine yyp ?_;try refine s_bu ?_ ?_<;>intro hb|refine yy2 ?_ ?_<;>intro hcmp);all_goals try refine z_sh false 39 6 qo28_1 ?_|refine tr_at 48 ?_;(first|refine yyp ?_;try refine s_bu ?_ ?_<;>intro hb|refine yy2 ?_ ?_<;>intro hcmp);all_goals try refine z_sh false 48 6 qo28_1 ?_|refine tr_at 62 ?_;(first|refine yyp ?_;try refine s_bu ?_ ?_<;>intro hb|refine yy2 ?_ ?_<;>intro hcmp);all_goals try refine z_sh false 62 4 qo28_1 ?_|refine tr_at 69 ?_;(first|refine yyp ?_;try refine s_bu ?_ ?_<;>intro hb|refine yy2 ?_ ?_<;>intro hcmp);all_goals try refine z_sh false 69 4 qo28_1 ?_|refine tr_at 72 ?_;(first|refine yyp ?_;try refine s_bu ?_ ?_<;>intro hb|refine yy2 ?_ ?_<;>intro hcmp);all_goals try refine z_sh false 72 4 qo28_1 ?_|refine tr_at 79 ?_;(first|refine yyp ?_;try refine s_bu ?_ ?_<;>intro hb|refine yy2 ?_ ?_<;>intro hcmp);all_goals try refine z_sh false 79 4 qo28_1 ?_|refine tr_at 86 ?_;(first|refine yyp ?_;try refine s_bu ?_ ?_<;>intro hb|refine yy2 ?_ ?_<;>intro hcmp);all_goals try refine z_sh false 86 4 qo28_1 ?_|refine tr_at 93 ?_;(first|refine yyp ?_;try refine s_bu ?_ ?_<;>intro hb|refine yy2 ?_ ?_<;>intro hcmp);all_goals try refine z_sh false 93 4 qo28_1 ?_|refine tr_at 100 ?_;(first|refine yyp ?_;try refine s_bu ?_ ?_<;>intro hb|refine yy2 ?_ ?_<;>intro hcmp);all_goals try refine z_sh false 100 4 qo28_1 ?_|refine tr_at 107 ?_;(first|refine yyp ?_;try refine s_bu ?_ ?_<;>intro hb|refine yy2 ?_ ?_<;>intro hcmp);all_goals try refine z_sh false 107 4 qo28_1 ?_|refine yyp ?_;try refine s_bu ?_ ?_<;>intro hb|refine yy ?_|refine yy2 ?_ ?_<;>intro hcmp|refine at_call 44 ?_;refine y_call (hc:=(by first|exact h1|exact h2|exact h3)) ?_;try refine s_bu ?_ ?_<;>intro hb|refine at_call 45 ?_;refine y_call (hc:=(by first|exact h4|exact h5)) ?_;try refine s_bu ?_ ?_<;>intro hb|refine at_call 46 ?_;refine y_call (hc:=h7) ?_;try refine s_bu ?_ ?_<;>intro hb|refine at_call 47 ?_;refine y_call (hc:=h6) ?_;try refine s_bu ?_ ?_<;>intro hb|refine at_call 48 ?_;refine y_call (hc:=h8) ?_;try refine s_bu ?_ ?_<;>intro hb|refine at_nil ?_;refine z_nil qo28_1 ?_|refine tc_seq fun K hK=>?_|refine j5 6 ?_;refine j2 [] jz2 ?_|apply_assumption -exfalso -symm)
   all_goals
    (refine j0 (j6 ?_))
    simp only[oneOf,V.d.injEq,D.bool.injEq]
    (repeat (rename (∀ S:Sd,TC _ _ _ S->_)=>hX;clear hX))
    clear h1 h2 h3 h4 h5 h6 h7 h8 hi
    symm
    simp only[j9,r8,ne_eq]at *
    grind
 ·have hf:eqB x y=false:=r8.2 fun e=>hlen (by rw[(e1.1 e).2.2.2.2.2.2.2.2.1])
  rw[hf]
  (refine j4 func19 ntmps19 results19 fun w M=>?_)
  refine v6 0 25 rfl rfl fun hna=>?_
  refine v6 1 25 rfl rfl fun hnb=>?_
  simp only[List.length_map]at hna hnb
  (repeat' first|refine tr_at 2 ?_;(refine k7 2 ?_)|refine tr_at 3 ?_;(refine k7 3 ?_)|refine yyp ?_;try refine s_bu ?_ ?_<;>intro hb|refine yy ?_|refine at_nil ?_;refine z_nil qo28_1 ?_|refine tc_seq fun K hK=>?_|refine j5 6 ?_;refine j2 [] jz2 ?_|apply_assumption -exfalso -symm)
  all_goals first
   |((refine j0 (j6 ?_))
     rfl)
   |(exfalso;exact hlen (by omega))
theorem my2 (gl:List (Nat × List D)):∀ (m:Nat) (x y:Pr),SizeOf.sizeOf x<=m->FnD prog gl 19 [.d (dPr x),.d (dPr y)] (fun v=>v=.d (.bool (eqB x y))):=by
 intro m
 induction m with
 |zero=>intro x y h;cases x;simp only[Pr.mk.sizeOf_spec]at h;omega
 |succ m ih=>
  intro x y hm
  exact ml9 gl x y (fun a ha b=>ih a b (by have:=qn9 ha;omega)) (fun g hg a ha b=>ih a b (by have:=qo0 hg ha;omega)) fun a ha b=>ih a b (by have:=qo1 ha;omega)
theorem ju2 (gl:List (Nat × List D))(x y:Pr):FnD prog gl 19 [.d (dPr x),.d (dPr y)] (fun v=>v=.d (.bool (eqB x y))):=my2 gl _ x y (Nat.le_refl _)
theorem kb1 (gl:List (Nat × List D))(x y:Sp):FnD prog gl 48 [.d (dSp x),.d (dSp y)] (fun v=>v=.d (.bool (eqB x y))):=kg4 gl x y fun a _ b=>ju2 gl a b
theorem jp4 (gl:List (Nat × List D))(x y:Gu):FnD prog gl 81 [.d (dGu x),.d (dGu y)] (fun v=>v=.d (.bool (eqB x y))):=kg3 gl x y fun a _ b=>ju2 gl a b
end
end Go.Proofs.YtdopmfifmgkmoaaGreatDoor
