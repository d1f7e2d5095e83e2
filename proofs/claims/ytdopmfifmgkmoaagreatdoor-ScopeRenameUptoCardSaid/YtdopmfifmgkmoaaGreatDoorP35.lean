/- Parts: O14, O17, O25, O27, O28. -/
import Derived.Test.YtdopmfifmgkmoaaGreatDoorP16
set_option linter.all false
set_option maxRecDepth 100000
set_option maxHeartbeats 16000000
namespace Go.Proofs.YtdopmfifmgkmoaaGreatDoor
open Go.RowKit Go.Proofs.Tryz
section
attribute [local irreducible] TR TC
theorem qr3 (gl:List (Nat × List D))(e:Ex):FnD prog gl 217 [.d (dE e)] (fun v=>v=.d (.bool (Lx.Lg e))):=by
 (refine j3 func217 ntmps217 results217 fun w M=>?_)
 (repeat' first|refine Ca 1 ?_;(refine j6 1 ?_)|refine Ca 8 ?_;refine z_p Cr ?_|refine Ca 3 ?_;(refine Cj 3 ?_)|refine yyp ?_;try refine Cc ?_ ?_<;>intro hb|refine yy ?_|refine yy2 ?_ ?_<;>intro hcmp|refine Cf 130 ?_;refine Cg (hc:=(y3 gl e.s)) ?_;try refine Cc ?_ ?_<;>intro hb|refine Cf 229 ?_;refine Cg (hc:=(me4 gl e.ty)) ?_;try refine Cc ?_ ?_<;>intro hb|refine at_nil ?_;refine Ce [0,1,2,3,4,5,6,10,11,16,29,42,51,59,72,85] ?_|refine Cb fun K hK=>?_|apply_assumption -exfalso -symm)
 all_goals
  (refine j0 (j5 ?_))
  simp only[oneOf,Ax,An,Lx.Lg,Lx.Ka]
  (repeat (rename (∀ S:Sd,TC _ _ _ S->_)=>hX;clear hX))
  simp only[jf0,Aa]at *
  grind
end
section
def Vp:List Nat:=[0,1,2,3,6,7,8,18,25,38]
theorem mr0 (inside left:Int)(e:Ex)(l:List Ex):Lx.Jg inside left (e::l)=if Lx.Iy inside left e<0 then -1 else Lx.Jg inside (Lx.Iy inside left e) l:=by rw[Lx.Jg]
theorem qd5 (inside left:Int)(e:Ex):Lx.Iy inside left e=if inside=32\/left=0\/Lx.Lg e=false then -1 else Lx.Jg (inside+1) (left - 1) e.l:=by
 cases e;rw[Lx.Iy];rfl
attribute [local irreducible] TR TC
theorem qd6 (gl:List (Nat × List D)):∀ (m:Nat) (e:Ex) (inside left:Int),exN e<=m->0<=inside->inside<=32->0<=left->left<=256->
 FnD prog gl 192 [.d (dEx e),.d (.int .i64 inside),.d (.int .i64 left)] (fun v=>v=.d (.int .i64 (Lx.Iy inside left e))):=by
 intro m
 induction m with
 |zero=>intro e i l h;have:=jm4 e;omega
 |succ m ih=>
  intro e inside left hm h1 h2 h3 h4;rw[mx9]at hm;have hl:∀ z∈e.l,∀ i r:Int,0<=i->i<=32->0<=r->r<=256->FnD prog gl 192 [.d (dEx z),.d (.int .i64 i),.d (.int .i64 r)] (fun v=>v=.d (.int .i64 (Lx.Iy i r z))):=fun z hz i r=>ih z i r (by have:=ju7 hz;omega);have hle:∀ z i r,Lx.Iy i r z<=r - 1\/Lx.Iy i r z<0\/r<0\/i<0\/32<i:=fun z i r=>by
   by_cases hr:0<=r
   ·by_cases hi:0<=i/\i<=32
    ·by_cases h0:0<=Lx.Iy i r z
     ·exact .inl ((Lx.Pj z i r hr hi.1 hi.2).2 h0).2
     ·exact .inr (.inl (by omega))
    ·omega
   ·omega
  have hown:=qr3 gl e;have heq:=qd5 inside left e;clear ih hm;generalize hr:Lx.Iy inside left e=res at heq ⊢;simp only[r9]at hl ⊢;rw[km9 e]at hown ⊢
  (refine j3 func192 ntmps192 results192 fun w M=>?_)
  (repeat' first|refine Ca 3 ?_;(refine j6 3 ?_)|refine yyp ?_;try refine Cc ?_ ?_<;>intro hb|refine yy ?_|refine yy2 ?_ ?_<;>intro hcmp|refine Cf 217 ?_;refine Cg (hc:=hown) ?_;try refine Cc ?_ ?_<;>intro hb|refine at_nil ?_;refine Ce Vp ?_|refine Cb fun K hK=>?_|apply_assumption -exfalso -symm)
  ·(refine j0 (j5 ?_))
   rw[heq,Ae (.inl (by omega))];rfl
  ·(refine j0 (j5 ?_))
   rw[heq,Ae (.inr (.inl (by omega)))];rfl
  ·rw[Af (by simp only[hb,Bool.true_eq_false,or_false];omega)]at heq;refine k9 0 5 rfl rfl fun hn=>?_;simp only[Aa]at hn;refine j8 [2,6,7,21,22,23,24,25,26,27,28,29,30,31,32,33,34,35,36,37,38] [] (fun x:Nat × Int=>[(7,.d (.int .i64 x.1)),(2,.d (.int .i64 x.2))]) (fun _=>[]) (fun x=>x.1<=e.l.length/\0<=x.2/\x.2<=256/\res=Lx.Jg (inside+1) x.2 (e.l.drop x.1)) (fun x=>e.l.length - x.1) (0,left - 1) ⟨by omega,by omega,by omega,heq⟩ fun⟨k,cur⟩ ⟨hk,hc0,hc1,hi⟩=>?_;dsimp only[Ac,Ad]at *;rcases Ah k e.l.length with hk2|hk2
   ·rw[Bd hk2,mr0]at hi;have hone:=hl e.l[k] (Ar _) (inside+1) cur (by omega) (by omega) hc0 hc1;have hle1:=hle e.l[k] (inside+1) cur
    (repeat' first|refine yyp ?_;try refine Cc ?_ ?_<;>intro hb|refine yy ?_|refine yy2 ?_ ?_<;>intro hcmp|refine Cf 192 ?_;refine Cg (hc:=hone) ?_|refine at_nil ?_;refine Ce Vp ?_|refine Cb fun K hK=>?_|apply_assumption -exfalso -symm)
    ·(refine j0 (j5 ?_))
     rw[hi,Ae hcmp];rfl
    ·refine⟨(k+1,Lx.Iy (inside+1) cur e.l[k]),⟨by dsimp only;omega,by dsimp only;omega,by dsimp only;omega,?_⟩,by dsimp only;omega,v6⟩;rw[hi,Af hcmp]
   ·rw[Br hk2,Lx.Jg]at hi
    (repeat' first|refine yyp ?_;try refine Cc ?_ ?_<;>intro hb|refine yy ?_|refine at_nil ?_;refine Ce Vp ?_|refine Cb fun K hK=>?_|apply_assumption -exfalso -symm)
    (refine j0 (j5 ?_))
    rw[hi];rfl
  ·(refine j0 (j5 ?_))
   rw[heq,Ae (.inr (.inr hb))];rfl
theorem jf5 (gl:List (Nat × List D))(e:Ex):FnD prog gl 160 [.d (dEx e)] (fun v=>v=.d (.bool (Lx.Gr e))):=by
 have h:=qd6 gl _ e 0 256 (As _) (by omega) (by omega) (by omega) (by omega);have hm:=Lx.Wi e;simp only[r9]at h ⊢
 (refine j3 func160 ntmps160 results160 fun w M=>?_)
 (repeat' first|refine Ca 1 ?_;(refine j6 1 ?_)|refine yyp ?_;try refine Cc ?_ ?_<;>intro hb|refine yy ?_|refine yy2 ?_ ?_<;>intro hcmp|refine Cf 192 ?_;refine Cg (hc:=h) ?_|refine at_nil ?_;refine Ce [0,1,2,3,4,5] ?_|refine Cb fun K hK=>?_|apply_assumption -exfalso -symm)
 all_goals
  (refine j0 (j5 ?_))
  simp only[oneOf,Ax,An];cases hb:Lx.Gr e with
  |true=>first|rfl|(exfalso;have:=hm.1 hb;omega)
  |false=>first|rfl|(exfalso;rw[hb]at hm;have:=hm.2 (by omega);cases this)
end
section
def Uk:List Nat:=[0,1,2,3,4,5,6]
def Pq:List Nat:=[0,1,2,6,7,8,17,21,29]
def qd7:List Nat:=[6,7,18,19,20,21,22,23,24,25,26,27,28,29]
theorem jc7 (gl:List (Nat × List D))(x y:Ex):FnD prog gl 44 [.d (dEx x),.d (dEx y)] (fun v=>v=.d (.bool (eqB x y))):=me6 gl _ x y (As _)
theorem rp1:dEx ex0=.agg [.int .u8 0,.int .u8 0,.int .u8 0,.int .i32 0,.str ⟨#[]⟩,.list 6 []]:=by
 rw[r9];rfl
attribute [local irreducible] TR TC
theorem kh9 (gl:List (Nat × List D))(e:Ex):FnD prog gl 170 [.d (dEx e)] (fun v=>v=.d (.bool (Lx.Jm e))):=by
 have h:=jc7 gl e ex0;unfold Lx.Jm;rw[rp1]at h;simp only[r9]at h ⊢
 (refine j3 func170 ntmps170 results170 fun w M=>?_)
 (repeat' first|refine Ca 1 ?_;(refine j6 1 ?_)|refine yyp ?_;try refine Cc ?_ ?_<;>intro hb|refine yy ?_|refine Cf 44 ?_;refine Cg (hc:=h) ?_;try refine Cc ?_ ?_<;>intro hb|refine at_nil ?_;refine Ce [0,1,2,3,4,5] ?_|refine Cb fun K hK=>?_|apply_assumption -exfalso -symm)
 all_goals
  (refine j0 (j5 ?_))
  simp only[oneOf, *]
theorem x6 (gl:List (Nat × List D))(e:Ex):FnD prog gl 128 [.d (dEx e)] (fun v=>v=.d (.bool (Lx.Hf e))):=by
 have h:=jf5 gl e;unfold Lx.Hf;simp only[r9]at h ⊢
 (refine j3 func128 ntmps128 results128 fun w M=>?_)
 (repeat' first|refine Ca 1 ?_;(refine j6 1 ?_)|refine yyp ?_;try refine Cc ?_ ?_<;>intro hb|refine yy ?_|refine yy2 ?_ ?_<;>intro hcmp|refine Cf 160 ?_;refine Cg (hc:=h) ?_;try refine Cc ?_ ?_<;>intro hb|refine at_nil ?_;refine Ce Uk ?_|refine Cb fun K hK=>?_|apply_assumption -exfalso -symm)
 all_goals
  (refine j0 (j5 ?_))
  simp only[oneOf, *,decide_true,decide_false,Ee,Eh,Ea,Bc,Av]
  try rfl
theorem ko6 (gl:List (Nat × List D))(t:Ty):FnD prog gl 167 [.d (dTy t)] (fun v=>v=.d (.bool (Lx.Ru t))):=by
 have h:=jx9 gl t;have h2:=ju9 gl t.kind
 (refine j3 func167 ntmps167 results167 fun w M=>?_)
 (repeat' first|refine Ca 1 ?_;(refine j6 1 ?_)|refine yyp ?_;try refine Cc ?_ ?_<;>intro hb|refine yy ?_|refine yy2 ?_ ?_<;>intro hcmp|refine Cf 165 ?_;refine Cg (hc:=h) ?_;try refine Cc ?_ ?_<;>intro hb|refine Cf 196 ?_;refine Cg (hc:=h2) ?_;try refine Cc ?_ ?_<;>intro hb|refine at_nil ?_;refine Ce Uk ?_|refine Cb fun K hK=>?_|apply_assumption -exfalso -symm)
 all_goals
  (refine j0 (j5 ?_))
  simp only[oneOf,Ax,An,Lx.Ru]
  (repeat (rename (∀ S:Sd,TC _ _ _ S->_)=>hX;clear hX))
  clear h h2
  grind
theorem mg8 (gl:List (Nat × List D))(f:Fo):FnD prog gl 169 [.d (dFo f)] (fun v=>v=.d (.bool (Lx.Mg f))):=by
 have h:=jx9 gl f.type;have h2:=ko6 gl f.type
 (refine j3 func169 ntmps169 results169 fun w M=>?_)
 (repeat' first|refine Ca 1 ?_;(refine j6 1 ?_)|refine yyp ?_;try refine Cc ?_ ?_<;>intro hb|refine yy ?_|refine Cf 130 ?_;refine Cg (hc:=(y3 gl f.name)) ?_;try refine Cc ?_ ?_<;>intro hb|refine Cf 165 ?_;refine Cg (hc:=h) ?_;try refine Cc ?_ ?_<;>intro hb|refine Cf 167 ?_;refine Cg (hc:=h2) ?_;try refine Cc ?_ ?_<;>intro hb|refine at_nil ?_;refine Ce Uk ?_|refine Cb fun K hK=>?_|apply_assumption -exfalso -symm)
 all_goals
  (refine j0 (j5 ?_))
  simp only[oneOf,Ax,An,Lx.Mg]
  (repeat (rename (∀ S:Sd,TC _ _ _ S->_)=>hX;clear hX))
  clear h h2
  grind
theorem qr4 (gl:List (Nat × List D))(r:Rp):FnD prog gl 132 [.d (dRp r)] (fun v=>v=.d (.bool (Lx.Iz r))):=by
 have h1:=kh9 gl r.base;have h2:=kh9 gl r.count;have h3:=jf5 gl r.base;have h4:=jf5 gl r.count;simp only[r9]at h1 h2 h3 h4
 (refine j3 func132 ntmps132 results132 fun w M=>?_)
 (repeat' first|refine Ca 1 ?_;(refine j6 1 ?_)|refine yyp ?_;try refine Cc ?_ ?_<;>intro hb|refine yy ?_|refine yy2 ?_ ?_<;>intro hcmp|refine Cf 170 ?_;refine Cg (hc:=(by first|exact h1|exact h2)) ?_;try refine Cc ?_ ?_<;>intro hb|refine Cf 130 ?_;refine Cg (hc:=(y3 gl r.name)) ?_;try refine Cc ?_ ?_<;>intro hb|refine Cf 160 ?_;refine Cg (hc:=(by first|exact h3|exact h4)) ?_;try refine Cc ?_ ?_<;>intro hb|refine at_nil ?_;refine Ce Uk ?_|refine Cb fun K hK=>?_|apply_assumption -exfalso -symm)
 all_goals
  (refine j0 (j5 ?_))
  simp only[oneOf,Ax,An,Lx.Iz]
  (repeat (rename (∀ S:Sd,TC _ _ _ S->_)=>hX;clear hX))
  clear h1 h2 h3 h4;simp only[jf0]at *
  grind
theorem x3 (gl:List (Nat × List D))(l:List Ex)(a b:Int):FnD prog gl 126 [.d (.list 6 (l.map (fun x=>dEx (x)))),.d (.int .i64 a),.d (.int .i64 b)] (fun v=>v=.d (.bool (Lx.Da l a b Lx.Hf))):=by
 have hall:∀ x:Ex,FnD prog gl 128 [.d (dEx (x))] (fun v=>v=.d (.bool (Lx.Hf x))):=fun x=>x6 gl x;simp only[r9]at hall ⊢
 (refine j3 func126 ntmps126 results126 fun w M=>?_)
 refine r7 0 rfl fun hn=>?_;simp only[Aa]at hn
 (repeat' first|refine yyp ?_;try refine Cc ?_ ?_<;>intro hb|refine yy ?_|refine yy2 ?_ ?_<;>intro hcmp|refine at_nil ?_;refine Ce Pq ?_|refine Cb fun K hK=>?_|apply_assumption -exfalso -symm)
 ·(refine j0 (j5 ?_))
  simp only[oneOf,Lx.Da,Lx.hasB,Bq (by omega:¬a<=(l.length:Int)),Av]
 ·(refine j0 (j5 ?_))
  simp only[oneOf,Lx.Da,Lx.hasB,Bq (by omega:¬(l.length:Int)<=b),Av,Az]
 have hd:Lx.hasB a b l.length=true:=by
  unfold Lx.hasB;rw[Bt (by omega),Bt (by omega)];rfl
 refine j8 qd7 [] (fun k:Nat=>[(7,.d (.int .i64 k))]) (fun _=>[]) (fun k=>k<=l.length/\l.all Lx.Hf=(l.drop k).all Lx.Hf) (fun k=>l.length - k) 0 ⟨by omega,rfl⟩ fun k ⟨hk,hi⟩=>?_;dsimp only[Ac,Ad];rcases Ah k l.length with hk2|hk2
 ·rw[Bd hk2,Ei]at hi;have hone:=hall l[k]
  (repeat' first|refine yyp ?_;try refine Cc ?_ ?_<;>intro hb|refine yy ?_|refine Cf 128 ?_;refine Cg (hc:=hone) ?_;try refine Cc ?_ ?_<;>intro hb|refine at_nil ?_;refine Ce Pq ?_|refine Cb fun K hK=>?_|apply_assumption -exfalso -symm)
  ·refine⟨k+1,⟨by omega,?_⟩,by omega,v6⟩;rw[hi,hb];rfl
  ·(refine j0 (j5 ?_))
   rw[hb,Av]at hi;simp only[oneOf,Lx.Da,hi,Az]
 ·rw[Br hk2]at hi
  (repeat' first|refine yyp ?_;try refine Cc ?_ ?_<;>intro hb|refine yy ?_|refine at_nil ?_;refine Ce Pq ?_|refine Cb fun K hK=>?_|apply_assumption -exfalso -symm)
  (refine j0 (j5 ?_))
  simp only[oneOf,Lx.Da,hi,hd,List.all_nil,Bool.and_self]
theorem y8 (gl:List (Nat × List D))(l:List Ex)(a b:Int):FnD prog gl 127 [.d (.list 6 (l.map (fun x=>dEx (x)))),.d (.int .i64 a),.d (.int .i64 b)] (fun v=>v=.d (.bool (Lx.Da l a b Lx.Gr))):=by
 have hall:∀ x:Ex,FnD prog gl 160 [.d (dEx (x))] (fun v=>v=.d (.bool (Lx.Gr x))):=fun x=>jf5 gl x;simp only[r9]at hall ⊢
 (refine j3 func127 ntmps127 results127 fun w M=>?_)
 refine r7 0 rfl fun hn=>?_;simp only[Aa]at hn
 (repeat' first|refine yyp ?_;try refine Cc ?_ ?_<;>intro hb|refine yy ?_|refine yy2 ?_ ?_<;>intro hcmp|refine at_nil ?_;refine Ce Pq ?_|refine Cb fun K hK=>?_|apply_assumption -exfalso -symm)
 ·(refine j0 (j5 ?_))
  simp only[oneOf,Lx.Da,Lx.hasB,Bq (by omega:¬a<=(l.length:Int)),Av]
 ·(refine j0 (j5 ?_))
  simp only[oneOf,Lx.Da,Lx.hasB,Bq (by omega:¬(l.length:Int)<=b),Av,Az]
 have hd:Lx.hasB a b l.length=true:=by
  unfold Lx.hasB;rw[Bt (by omega),Bt (by omega)];rfl
 refine j8 qd7 [] (fun k:Nat=>[(7,.d (.int .i64 k))]) (fun _=>[]) (fun k=>k<=l.length/\l.all Lx.Gr=(l.drop k).all Lx.Gr) (fun k=>l.length - k) 0 ⟨by omega,rfl⟩ fun k ⟨hk,hi⟩=>?_;dsimp only[Ac,Ad];rcases Ah k l.length with hk2|hk2
 ·rw[Bd hk2,Ei]at hi;have hone:=hall l[k]
  (repeat' first|refine yyp ?_;try refine Cc ?_ ?_<;>intro hb|refine yy ?_|refine Cf 160 ?_;refine Cg (hc:=hone) ?_;try refine Cc ?_ ?_<;>intro hb|refine at_nil ?_;refine Ce Pq ?_|refine Cb fun K hK=>?_|apply_assumption -exfalso -symm)
  ·refine⟨k+1,⟨by omega,?_⟩,by omega,v6⟩;rw[hi,hb];rfl
  ·(refine j0 (j5 ?_))
   rw[hb,Av]at hi;simp only[oneOf,Lx.Da,hi,Az]
 ·rw[Br hk2]at hi
  (repeat' first|refine yyp ?_;try refine Cc ?_ ?_<;>intro hb|refine yy ?_|refine at_nil ?_;refine Ce Pq ?_|refine Cb fun K hK=>?_|apply_assumption -exfalso -symm)
  (refine j0 (j5 ?_))
  simp only[oneOf,Lx.Da,hi,hd,List.all_nil,Bool.and_self]
theorem ko7 (gl:List (Nat × List D))(l:List ByteArray)(a b:Int):FnD prog gl 166 [.d (.list 1 (l.map (fun x=>.str (x)))),.d (.int .i64 a),.d (.int .i64 b)] (fun v=>v=.d (.bool (Lx.Da l a b Lx.Dg))):=by
 have hall:∀ x:ByteArray,FnD prog gl 130 [.d (.str (x))] (fun v=>v=.d (.bool (Lx.Dg x))):=fun x=>y3 gl x
 (refine j3 func166 ntmps166 results166 fun w M=>?_)
 refine r7 0 rfl fun hn=>?_;simp only[Aa]at hn
 (repeat' first|refine yyp ?_;try refine Cc ?_ ?_<;>intro hb|refine yy ?_|refine yy2 ?_ ?_<;>intro hcmp|refine at_nil ?_;refine Ce Pq ?_|refine Cb fun K hK=>?_|apply_assumption -exfalso -symm)
 ·(refine j0 (j5 ?_))
  simp only[oneOf,Lx.Da,Lx.hasB,Bq (by omega:¬a<=(l.length:Int)),Av]
 ·(refine j0 (j5 ?_))
  simp only[oneOf,Lx.Da,Lx.hasB,Bq (by omega:¬(l.length:Int)<=b),Av,Az]
 have hd:Lx.hasB a b l.length=true:=by
  unfold Lx.hasB;rw[Bt (by omega),Bt (by omega)];rfl
 refine j8 qd7 [] (fun k:Nat=>[(7,.d (.int .i64 k))]) (fun _=>[]) (fun k=>k<=l.length/\l.all Lx.Dg=(l.drop k).all Lx.Dg) (fun k=>l.length - k) 0 ⟨by omega,rfl⟩ fun k ⟨hk,hi⟩=>?_;dsimp only[Ac,Ad];rcases Ah k l.length with hk2|hk2
 ·rw[Bd hk2,Ei]at hi;have hone:=hall l[k]
  (repeat' first|refine yyp ?_;try refine Cc ?_ ?_<;>intro hb|refine yy ?_|refine Cf 130 ?_;refine Cg (hc:=hone) ?_;try refine Cc ?_ ?_<;>intro hb|refine at_nil ?_;refine Ce Pq ?_|refine Cb fun K hK=>?_|apply_assumption -exfalso -symm)
  ·refine⟨k+1,⟨by omega,?_⟩,by omega,v6⟩;rw[hi,hb];rfl
  ·(refine j0 (j5 ?_))
   rw[hb,Av]at hi;simp only[oneOf,Lx.Da,hi,Az]
 ·rw[Br hk2]at hi
  (repeat' first|refine yyp ?_;try refine Cc ?_ ?_<;>intro hb|refine yy ?_|refine at_nil ?_;refine Ce Pq ?_|refine Cb fun K hK=>?_|apply_assumption -exfalso -symm)
  (refine j0 (j5 ?_))
  simp only[oneOf,Lx.Da,hi,hd,List.all_nil,Bool.and_self]
end
section
def Si:List Nat:=[0,1,2,3,4,5,6,7,19,24,55]
def Qi:List Nat:=[0,1,2,3,4,5,6,7]
def mm0:Plan:=lin [0,8,24,32,5,12,16,21,29,36,40,45,48,52,56,64,80,88,61,68,72,77,85,92,96,101,106,108,112]
section
variable {E:Set}{S:Sd}{dst:Option Tmp}{ty:TypeId}{pos:String}{af:Array Edge}{gd:Option (Nat × Bool)}
theorem ko8 {xt yt:TypeId}{x y:Operand}{s t:Bool}[ht:TCell E.P xt](hu:E.P.underlying xt=some .bool)(hx:S.ev x=some (.d (.bool s)))(hy:S.ev y=some (.d (.bool t)))(hox:Cw x=true)(hoy:Cw y=true):
 Swift E S ⟨dst,.binOp .neq xt x y yt,ty,pos,af,gd⟩ (.d (.bool (!(s == t)))):=Swift.mk fun β a w h=>by
 have h1:a.eval x=.bool s:=h.ev hx hox;have h2:a.eval y=.bool t:=h.ev hy hoy;refine⟨.bool (!(s == t)),fun w' _=>?_,rfl⟩;have he:(Op.equal xt (.bool s) (.bool t)).run E.P w'=.ok (s == t) w':=by
  unfold Op.equal;rw[show Op.maxDepth=9999+1 from rfl,Op.equalIn];simp only[Sem.run_bind,run_underlying hu,Result.andThen_ok,Sem.run_pure]
 have hb:(binOp .neq xt (.bool s) (.bool t)).run E.P w'=.ok (.bool (!(s == t))) w':=by
  show(do pure (Value.bool !(<-Op.equal xt (.bool s) (.bool t))):Sem Value).run E.P w'=_;simp only[Sem.run_bind,he,Result.andThen_ok,Sem.run_pure]
 simp[execOp,h1,h2,eqGuard,hb]
end
attribute [local irreducible] TR TC
theorem kl5 (gl:List (Nat × List D))(x y:Pt):FnD prog gl 83 [.d (dPt x),.d (dPt y)] (fun v=>v=.d (.bool (eqB x y))):=by
 have hxy:=rj9 (a:=x) (b:=y);obtain⟨xc,xl⟩:=x;obtain⟨yc,yl⟩:=y;dsimp only at hxy;dsimp only[dPt];by_cases hc:xc=yc/\xl.length=yl.length
 ·obtain⟨hc1,hlen⟩:=hc;subst hc1;have hle1:xl.length<=yl.length:=Fq hlen;have hle2:yl.length<=xl.length:=Fq hlen.symm;clear hlen;cases xc
  all_goals
   (refine j3 func83 ntmps83 results83 fun w M=>?_)
   refine k9 0 1 rfl rfl fun hna=>?_;refine k9 1 1 rfl rfl fun hnb=>?_;simp only[Aa]at hna hnb
   (repeat' first|refine Ca 2 ?_;(refine j6 2 ?_)|refine Ca 3 ?_;(refine j6 3 ?_)|refine Ca 10 ?_;(refine z_p (ko8 (by kernel_rfl) rfl rfl rfl rfl) ?_)|refine Ca 11 ?_;(first|refine yyp ?_;try refine Cc ?_ ?_<;>intro hb|refine yy2 ?_ ?_<;>intro hcmp);all_goals try refine Db true 11 19 Si ?_|refine Ca 19 ?_;refine yyp ?_;try refine Cc ?_ ?_<;>intro hb|refine yyp ?_|refine yy ?_|refine at_nil ?_;refine Ce Si ?_|refine Cb fun K hK=>?_|refine Ck 6 ?_;refine j1 [] mm0 ?_|apply_assumption -exfalso -symm)
   refine j8 [4,5,20,21,22,23,24,25,26,27,28,29,30,31,32,33,34,35,36,37,38,39,40,41,42,43,44,45,46,47,48,49,50,51,52,53,54,55] [] (fun k:Nat=>[(5,.d (.int .i64 k))]) (fun _=>[]) (fun k=>k<=xl.length/\xl.take k=yl.take k) (fun k=>xl.length - k) 0 ⟨Ak _,rfl⟩ fun k ⟨hk,hi⟩=>?_;dsimp only[Ac,Ad];rcases Ah k xl.length with hk2|hk2
   ·have hk3:k<yl.length:=by omega
    have hone:=me3 gl xl[k].items yl[k].items;have hv:=rj5 (a:=xl[k]) (b:=yl[k])
    (repeat' first|refine yyp ?_;try refine Cc ?_ ?_<;>intro hb|refine yy ?_|refine yy2 ?_ ?_<;>intro hcmp|refine Cf 123 ?_;refine Cg (hc:=hone) ?_;try refine Cc ?_ ?_<;>intro hb|refine at_nil ?_;refine Ce Si ?_|refine Cb fun K hK=>?_|refine Ck 6 ?_;refine j1 [] mm0 ?_|apply_assumption -exfalso -symm)
    all_goals (repeat (rename (∀ S:Sd,TC _ _ _ S->_)=>hX;clear hX))
    all_goals try simp only[Bv,ne_eq,By,Fp]at *
    all_goals first
     |(refine⟨k+1,⟨by omega,x8 hk2 hk3 hi (hv.2 ⟨by assumption,k7.1 (by assumption)⟩)⟩,by omega,v6⟩)
     |((refine j0 (j5 ?_))
       simp only[oneOf,Ax,An];refine(v7.2 fun e=>?_).symm;have e2:=(hxy.1 e).2;refine y9 hk2 hk3 (fun e3=>?_) e2;have e4:=hv.1 e3
       first
        |exact absurd e4.1 (by assumption)
        |exact absurd e4.2 (v7.1 (by assumption)))
   ·(repeat' first|refine yyp ?_;try refine Cc ?_ ?_<;>intro hb|refine yy ?_|refine at_nil ?_;refine Ce Si ?_|refine Cb fun K hK=>?_|refine Ck 6 ?_;refine j1 [] mm0 ?_|apply_assumption -exfalso -symm)
    (refine j0 (j5 ?_))
    simp only[oneOf,Ax,An];exact(k7.2 (hxy.2 ⟨rfl,y5 hk2 (by omega) hi⟩)).symm
 ·have hf:eqB (Pt.mk xc xl) (Pt.mk yc yl)=false:=v7.2 fun e=>hc ⟨(hxy.1 e).1,by rw[(hxy.1 e).2]⟩;rw[hf];cases xc<;>cases yc
  all_goals (refine j3 func83 ntmps83 results83 fun w M=>?_)
  all_goals refine k9 0 1 rfl rfl fun hna=>?_
  all_goals refine k9 1 1 rfl rfl fun hnb=>?_
  all_goals simp only[Aa]at hna hnb
  all_goals (repeat' first|refine Ca 2 ?_;(refine j6 2 ?_)|refine Ca 3 ?_;(refine j6 3 ?_)|refine Ca 10 ?_;(refine z_p (ko8 (by kernel_rfl) rfl rfl rfl rfl) ?_)|refine Ca 11 ?_;(first|refine yyp ?_;try refine Cc ?_ ?_<;>intro hb|refine yy2 ?_ ?_<;>intro hcmp);all_goals try refine Db true 11 19 Si ?_|refine Ca 19 ?_;refine yyp ?_;try refine Cc ?_ ?_<;>intro hb|refine yyp ?_|refine yy ?_|refine yy2 ?_ ?_<;>intro hcmp|refine at_nil ?_;refine Ce Si ?_|refine Cb fun K hK=>?_|refine Ck 6 ?_;refine j1 [] mm0 ?_|apply_assumption -exfalso -symm)
  all_goals first
   |(exfalso;exact hc ⟨rfl,by omega⟩)
   |((refine j0 (j5 ?_))
     rfl)
theorem ki0 (gl:List (Nat × List D))(x y:Gu)(h:∀ a∈x.body,∀ b,FnD prog gl 19 [.d (dPr a),.d (dPr b)] (fun v=>v=.d (.bool (eqB a b)))):
 FnD prog gl 81 [.d (dGu x),.d (dGu y)] (fun v=>v=.d (.bool (eqB x y))):=by
 have h1:=jc7 gl x.cond y.cond;have h2:=jc7 gl x.chan y.chan;have h3:=jc7 gl x.time y.time;have h4:=jm5 gl x.targets y.targets fun a _ b=>jc7 gl a b;have h5:=jm5 gl x.values y.values fun a _ b=>jc7 gl a b;have h6:=ke8 gl x.body y.body h;have e1:=rk2 (a:=x) (b:=y);clear h;simp only[r9]at h1 h2 h3;rw[je9]
 (refine j3 func81 ntmps81 results81 fun w M=>?_)
 (repeat' first|refine Ca 2 ?_;(refine j6 2 ?_)|refine Ca 3 ?_;(refine j6 3 ?_)|refine Ca 10 ?_;(first|refine yyp ?_;try refine Cc ?_ ?_<;>intro hb|refine yy2 ?_ ?_<;>intro hcmp);all_goals try refine Db false 10 4 Qi ?_|refine Ca 17 ?_;(first|refine yyp ?_;try refine Cc ?_ ?_<;>intro hb|refine yy2 ?_ ?_<;>intro hcmp);all_goals try refine Db false 17 4 Qi ?_|refine Ca 24 ?_;(first|refine yyp ?_;try refine Cc ?_ ?_<;>intro hb|refine yy2 ?_ ?_<;>intro hcmp);all_goals try refine Db false 24 4 Qi ?_|refine Ca 31 ?_;(first|refine yyp ?_;try refine Cc ?_ ?_<;>intro hb|refine yy2 ?_ ?_<;>intro hcmp);all_goals try refine Db false 31 4 Qi ?_|refine Ca 38 ?_;(first|refine yyp ?_;try refine Cc ?_ ?_<;>intro hb|refine yy2 ?_ ?_<;>intro hcmp);all_goals try refine Db false 38 4 Qi ?_|refine Ca 45 ?_;(first|refine yyp ?_;try refine Cc ?_ ?_<;>intro hb|refine yy2 ?_ ?_<;>intro hcmp);all_goals try refine Db false 45 4 Qi ?_|refine Ca 52 ?_;(first|refine yyp ?_;try refine Cc ?_ ?_<;>intro hb|refine yy2 ?_ ?_<;>intro hcmp);all_goals try refine Db false 52 4 Qi ?_|refine yyp ?_;try refine Cc ?_ ?_<;>intro hb|refine yy ?_|refine yy2 ?_ ?_<;>intro hcmp|refine Cf 44 ?_;refine Cg (hc:=(by first|exact h1|exact h2|exact h3)) ?_;try refine Cc ?_ ?_<;>intro hb|refine Cf 45 ?_;refine Cg (hc:=(by first|exact h4|exact h5)) ?_;try refine Cc ?_ ?_<;>intro hb|refine Cf 47 ?_;refine Cg (hc:=h6) ?_;try refine Cc ?_ ?_<;>intro hb|refine at_nil ?_;refine Ce Qi ?_|refine Cb fun K hK=>?_|apply_assumption -exfalso -symm)
 all_goals
  (refine j0 (j5 ?_))
  simp only[oneOf,Ax,An]
  (repeat (rename (∀ S:Sd,TC _ _ _ S->_)=>hX;clear hX))
  clear h1 h2 h3 h4 h5 h6;symm;simp only[k7,v7,ne_eq]at *
  grind
end
section
def Nu:List Nat:=[0,1,2,3,4,5,6,7,26,31,44]
def Mf:List Nat:=[0,1,2,3,4,5,6,7,13,18,31]
def kb2:Plan:=lin [0,8,20,28,5,12,17,25,32,37,40]
attribute [local irreducible] TR TC
theorem ki1 (gl:List (Nat × List D))(x y:Sp)(h:∀ a∈x.body,∀ b,FnD prog gl 19 [.d (dPr a),.d (dPr b)] (fun v=>v=.d (.bool (eqB a b)))):
 FnD prog gl 48 [.d (dSp x),.d (dSp y)] (fun v=>v=.d (.bool (eqB x y))):=by
 have h1:=me2 gl x.names y.names;have h2:=jc7 gl x.e y.e;have h3:=kl5 gl x.proto y.proto;have h6:=ke8 gl x.body y.body h;have e1:=rk1 (a:=x) (b:=y);have e2:=rj8 (a:=x.type) (b:=y.type);clear h;simp only[r9]at h2;by_cases hc:x.kind=y.kind/\x.type=y.type/\x.formals.length=y.formals.length
 ·obtain⟨hc1,hc2,hlen⟩:=hc;have hle1:x.formals.length<=y.formals.length:=Fq hlen;have hle2:y.formals.length<=x.formals.length:=Fq hlen.symm;have hty:=e2.1 hc2;clear hlen e2
  (refine j3 func48 ntmps48 results48 fun w M=>?_)
  refine k9 0 14 rfl rfl fun hna=>?_;refine k9 1 14 rfl rfl fun hnb=>?_;simp only[Aa]at hna hnb
  (repeat' first|refine Ca 2 ?_;(refine j6 2 ?_)|refine Ca 3 ?_;(refine j6 3 ?_)|refine Ca 11 ?_;(first|refine yyp ?_;try refine Cc ?_ ?_<;>intro hb|refine yy2 ?_ ?_<;>intro hcmp);all_goals try refine Db true 11 26 Nu ?_|refine Ca 18 ?_;(first|refine yyp ?_;try refine Cc ?_ ?_<;>intro hb|refine yy2 ?_ ?_<;>intro hcmp);all_goals try refine Db true 18 26 Nu ?_|refine yyp ?_;try refine Cc ?_ ?_<;>intro hb|refine yy ?_|refine yy2 ?_ ?_<;>intro hcmp|refine at_nil ?_;refine Ce Nu ?_|refine Cb fun K hK=>?_|refine Ck 6 ?_;refine j1 [] kb2 ?_|apply_assumption -exfalso -symm)
  all_goals first
   |(exfalso;omega)
   |(exfalso;exact absurd hty (by assumption))
   |(exfalso;simp_all;done)
   |skip
  refine j8 [4,5,27,28,29,30,31,32,33,34,35,36,37,38,39,40,41,42,43,44] [] (fun k:Nat=>[(5,.d (.int .i64 k))]) (fun _=>[]) (fun k=>k<=x.formals.length/\x.formals.take k=y.formals.take k) (fun k=>x.formals.length - k) 0 ⟨Ak _,rfl⟩ fun k ⟨hk,hi⟩=>?_;dsimp only[Ac,Ad];rcases Ah k x.formals.length with hk2|hk2
  ·have hk3:k<y.formals.length:=by omega
   have hv:=my0 (a:=x.formals[k]) (b:=y.formals[k])
   (repeat' first|refine yyp ?_;try refine Cc ?_ ?_<;>intro hb|refine yy ?_|refine yy2 ?_ ?_<;>intro hcmp|refine at_nil ?_;refine Ce Nu ?_|refine Cb fun K hK=>?_|refine Ck 6 ?_;refine j1 [] kb2 ?_|apply_assumption -exfalso -symm)
   all_goals first
    |(refine⟨k+1,⟨by omega,x8 hk2 hk3 hi (hv.2 (by assumption))⟩,by omega,v6⟩)
    |((refine j0 (j5 ?_))
      simp only[oneOf,Ax,An];refine(v7.2 fun e=>?_).symm;have e3:=(e1.1 e).2.2.2.2.2.1;refine y9 hk2 hk3 (fun e4=>?_) e3;exact absurd (hv.1 e4) (by assumption))
  ·have hfo:=y5 hk2 (by omega) hi
   (repeat' first|refine Ca 50 ?_;(first|refine yyp ?_;try refine Cc ?_ ?_<;>intro hb|refine yy2 ?_ ?_<;>intro hcmp);all_goals try refine Db false 50 4 Nu ?_|refine Ca 57 ?_;(first|refine yyp ?_;try refine Cc ?_ ?_<;>intro hb|refine yy2 ?_ ?_<;>intro hcmp);all_goals try refine Db false 57 4 Nu ?_|refine Ca 64 ?_;(first|refine yyp ?_;try refine Cc ?_ ?_<;>intro hb|refine yy2 ?_ ?_<;>intro hcmp);all_goals try refine Db false 64 4 Nu ?_|refine yyp ?_;try refine Cc ?_ ?_<;>intro hb|refine yy ?_|refine Cf 82 ?_;refine Cg (hc:=h1) ?_;try refine Cc ?_ ?_<;>intro hb|refine Cf 44 ?_;refine Cg (hc:=h2) ?_;try refine Cc ?_ ?_<;>intro hb|refine Cf 83 ?_;refine Cg (hc:=h3) ?_;try refine Cc ?_ ?_<;>intro hb|refine Cf 47 ?_;refine Cg (hc:=h6) ?_;try refine Cc ?_ ?_<;>intro hb|refine at_nil ?_;refine Ce Nu ?_|refine Cb fun K hK=>?_|refine Ck 6 ?_;refine j1 [] kb2 ?_|apply_assumption -exfalso -symm)
   all_goals
    (refine j0 (j5 ?_))
    simp only[oneOf,Ax,An]
    (repeat (rename (∀ S:Sd,TC _ _ _ S->_)=>hX;clear hX))
    clear h1 h2 h3 h6 hi hty;symm;simp only[k7,v7,ne_eq]at *
    grind
 ·have hf:eqB x y=false:=v7.2 fun e=>hc ⟨(e1.1 e).1,(e1.1 e).2.1,by rw[(e1.1 e).2.2.2.2.2.1]⟩;rw[hf]
  (refine j3 func48 ntmps48 results48 fun w M=>?_)
  refine k9 0 14 rfl rfl fun hna=>?_;refine k9 1 14 rfl rfl fun hnb=>?_;simp only[Aa]at hna hnb
  (repeat' first|refine Ca 2 ?_;(refine j6 2 ?_)|refine Ca 3 ?_;(refine j6 3 ?_)|refine Ca 11 ?_;(first|refine yyp ?_;try refine Cc ?_ ?_<;>intro hb|refine yy2 ?_ ?_<;>intro hcmp);all_goals try refine Db true 11 26 Nu ?_|refine Ca 18 ?_;(first|refine yyp ?_;try refine Cc ?_ ?_<;>intro hb|refine yy2 ?_ ?_<;>intro hcmp);all_goals try refine Db true 18 26 Nu ?_|refine yyp ?_;try refine Cc ?_ ?_<;>intro hb|refine yy ?_|refine yy2 ?_ ?_<;>intro hcmp|refine at_nil ?_;refine Ce Nu ?_|refine Cb fun K hK=>?_|refine Ck 6 ?_;refine j1 [] kb2 ?_|apply_assumption -exfalso -symm)
  all_goals first
   |((refine j0 (j5 ?_))
     rfl)
   |(exfalso;refine hc ⟨by omega,e2.2 (by assumption),by omega⟩)
   |(exfalso;(repeat (rename (∀ S:Sd,TC _ _ _ S->_)=>hX;clear hX));simp_all;done)
theorem mr1 (gl:List (Nat × List D))(x y:Pr)(hl:∀ a∈x.l,∀ b,FnD prog gl 19 [.d (dPr a),.d (dPr b)] (fun v=>v=.d (.bool (eqB a b))))
 (hg:∀ g∈x.guards,∀ a∈g.body,∀ b,FnD prog gl 19 [.d (dPr a),.d (dPr b)] (fun v=>v=.d (.bool (eqB a b))))
 (hb':∀ a∈x.spec.body,∀ b,FnD prog gl 19 [.d (dPr a),.d (dPr b)] (fun v=>v=.d (.bool (eqB a b)))):
 FnD prog gl 19 [.d (dPr x),.d (dPr y)] (fun v=>v=.d (.bool (eqB x y))):=by
 have h1:=jc7 gl x.chan y.chan;have h2:=jc7 gl x.rep.base y.rep.base;have h3:=jc7 gl x.rep.count y.rep.count;have h4:=jm5 gl x.targets y.targets fun a _ b=>jc7 gl a b;have h5:=jm5 gl x.exprs y.exprs fun a _ b=>jc7 gl a b;have h6:=ke8 gl x.l y.l hl;have h7:=ky1 gl x.guards y.guards fun g hm k=>ki0 gl g k (hg g hm);have h8:=ki1 gl x.spec y.spec hb';have e1:=rk3 (a:=x) (b:=y);have e2:=rk0 (a:=x.rep) (b:=y.rep);clear hl hg hb';simp only[r9]at h1 h2 h3;rw[v8];by_cases hlen:x.procs.length=y.procs.length
 ·have hle1:x.procs.length<=y.procs.length:=Fq hlen;have hle2:y.procs.length<=x.procs.length:=Fq hlen.symm;clear hlen
  (refine j3 func19 ntmps19 results19 fun w M=>?_)
  refine k9 0 25 rfl rfl fun hna=>?_;refine k9 1 25 rfl rfl fun hnb=>?_;simp only[Aa]at hna hnb
  (repeat' first|refine Ca 2 ?_;(refine j6 2 ?_)|refine Ca 3 ?_;(refine j6 3 ?_)|refine yyp ?_;try refine Cc ?_ ?_<;>intro hb|refine yy ?_|refine at_nil ?_;refine Ce Mf ?_|refine Cb fun K hK=>?_|refine Ck 6 ?_;refine j1 [] kb2 ?_|apply_assumption -exfalso -symm)
  refine j8 [4,5,14,15,16,17,18,19,20,21,22,23,24,25,26,27,28,29,30,31] [] (fun k:Nat=>[(5,.d (.int .i64 k))]) (fun _=>[]) (fun k=>k<=x.procs.length/\x.procs.take k=y.procs.take k) (fun k=>x.procs.length - k) 0 ⟨Ak _,rfl⟩ fun k ⟨hk,hi⟩=>?_;dsimp only[Ac,Ad];rcases Ah k x.procs.length with hk2|hk2
  ·have hk3:k<y.procs.length:=by omega
   (repeat' first|refine yyp ?_;try refine Cc ?_ ?_<;>intro hb|refine yy ?_|refine yy2 ?_ ?_<;>intro hcmp|refine at_nil ?_;refine Ce Mf ?_|refine Cb fun K hK=>?_|refine Ck 6 ?_;refine j1 [] kb2 ?_|apply_assumption -exfalso -symm)
   all_goals try simp only[Bv,ne_eq]at hcmp
   all_goals first
    |(refine⟨k+1,⟨by omega,x8 hk2 hk3 hi hcmp⟩,by omega,v6⟩)
    |((refine j0 (j5 ?_))
      simp only[oneOf,Ax,An];refine(v7.2 fun e=>?_).symm;exact y9 hk2 hk3 (by assumption) (e1.1 e).2.2.2.2.2.2.2.2.1)
  ·have hfo:=y5 hk2 (by omega) hi
   (repeat' first|refine Ca 39 ?_;(first|refine yyp ?_;try refine Cc ?_ ?_<;>intro hb|refine yy2 ?_ ?_<;>intro hcmp);all_goals try refine Db false 39 6 Mf ?_|refine Ca 48 ?_;(first|refine yyp ?_;try refine Cc ?_ ?_<;>intro hb|refine yy2 ?_ ?_<;>intro hcmp);all_goals try refine Db false 48 6 Mf ?_|refine Ca 62 ?_;(first|refine yyp ?_;try refine Cc ?_ ?_<;>intro hb|refine yy2 ?_ ?_<;>intro hcmp);all_goals try refine Db false 62 4 Mf ?_|refine Ca 69 ?_;(first|refine yyp ?_;try refine Cc ?_ ?_<;>intro hb|refine yy2 ?_ ?_<;>intro hcmp);all_goals try refine Db false 69 4 Mf ?_|refine Ca 72 ?_;(first|refine yyp ?_;try refine Cc ?_ ?_<;>intro hb|refine yy2 ?_ ?_<;>intro hcmp);all_goals try refine Db false 72 4 Mf ?_|refine Ca 79 ?_;(first|refine yyp ?_;try refine Cc ?_ ?_<;>intro hb|refine yy2 ?_ ?_<;>intro hcmp);all_goals try refine Db false 79 4 Mf ?_|refine Ca 86 ?_;(first|refine yyp ?_;try refine Cc ?_ ?_<;>intro hb|refine yy2 ?_ ?_<;>intro hcmp);all_goals try refine Db false 86 4 Mf ?_|refine Ca 93 ?_;(first|refine yyp ?_;try refine Cc ?_ ?_<;>intro hb|refine yy2 ?_ ?_<;>intro hcmp);all_goals try refine Db false 93 4 Mf ?_|refine Ca 100 ?_;(first|refine yyp ?_;try refine Cc ?_ ?_<;>intro hb|refine yy2 ?_ ?_<;>intro hcmp);all_goals try refine Db false 100 4 Mf ?_|refine Ca 107 ?_;(first|refine yyp ?_;try refine Cc ?_ ?_<;>intro hb|refine yy2 ?_ ?_<;>intro hcmp);all_goals try refine Db false 107 4 Mf ?_|refine yyp ?_;try refine Cc ?_ ?_<;>intro hb|refine yy ?_|refine yy2 ?_ ?_<;>intro hcmp|refine Cf 44 ?_;refine Cg (hc:=(by first|exact h1|exact h2|exact h3)) ?_;try refine Cc ?_ ?_<;>intro hb|refine Cf 45 ?_;refine Cg (hc:=(by first|exact h4|exact h5)) ?_;try refine Cc ?_ ?_<;>intro hb|refine Cf 46 ?_;refine Cg (hc:=h7) ?_;try refine Cc ?_ ?_<;>intro hb|refine Cf 47 ?_;refine Cg (hc:=h6) ?_;try refine Cc ?_ ?_<;>intro hb|refine Cf 48 ?_;refine Cg (hc:=h8) ?_;try refine Cc ?_ ?_<;>intro hb|refine at_nil ?_;refine Ce Mf ?_|refine Cb fun K hK=>?_|refine Ck 6 ?_;refine j1 [] kb2 ?_|apply_assumption -exfalso -symm)
   all_goals
    (refine j0 (j5 ?_))
    simp only[oneOf,Ax,An]
    (repeat (rename (∀ S:Sd,TC _ _ _ S->_)=>hX;clear hX))
    clear h1 h2 h3 h4 h5 h6 h7 h8 hi;symm;simp only[k7,v7,ne_eq]at *
    grind
 ·have hf:eqB x y=false:=v7.2 fun e=>hlen (by rw[(e1.1 e).2.2.2.2.2.2.2.2.1]);rw[hf]
  (refine j3 func19 ntmps19 results19 fun w M=>?_)
  refine k9 0 25 rfl rfl fun hna=>?_;refine k9 1 25 rfl rfl fun hnb=>?_;simp only[Aa]at hna hnb
  (repeat' first|refine Ca 2 ?_;(refine j6 2 ?_)|refine Ca 3 ?_;(refine j6 3 ?_)|refine yyp ?_;try refine Cc ?_ ?_<;>intro hb|refine yy ?_|refine at_nil ?_;refine Ce Mf ?_|refine Cb fun K hK=>?_|refine Ck 6 ?_;refine j1 [] kb2 ?_|apply_assumption -exfalso -symm)
  all_goals first
   |((refine j0 (j5 ?_))
     rfl)
   |(exfalso;exact hlen (by omega))
theorem qd8 (gl:List (Nat × List D)):∀ (m:Nat) (x y:Pr),SizeOf.sizeOf x<=m->FnD prog gl 19 [.d (dPr x),.d (dPr y)] (fun v=>v=.d (.bool (eqB x y))):=by
 intro m
 induction m with
 |zero=>intro x y h;cases x;simp only[Pr.mk.sizeOf_spec]at h;omega
 |succ m ih=>
  intro x y hm;exact mr1 gl x y (fun a ha b=>ih a b (by have:=mv0 ha;omega)) (fun g hg a ha b=>ih a b (by have:=mv1 hg ha;omega)) fun a ha b=>ih a b (by have:=mv2 ha;omega)
theorem jq3 (gl:List (Nat × List D))(x y:Pr):FnD prog gl 19 [.d (dPr x),.d (dPr y)] (fun v=>v=.d (.bool (eqB x y))):=qd8 gl _ x y (As _)
theorem kc9 (gl:List (Nat × List D))(x y:Sp):FnD prog gl 48 [.d (dSp x),.d (dSp y)] (fun v=>v=.d (.bool (eqB x y))):=ki1 gl x y fun a _ b=>jq3 gl a b
theorem jq4 (gl:List (Nat × List D))(x y:Gu):FnD prog gl 81 [.d (dGu x),.d (dGu y)] (fun v=>v=.d (.bool (eqB x y))):=ki0 gl x y fun a _ b=>jq3 gl a b
end
end Go.Proofs.YtdopmfifmgkmoaaGreatDoor
