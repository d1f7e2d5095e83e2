/- Parts. -/
import Derived.Test.YtklklgfpkpglgaaGreatDoorW18
set_option linter.all false
set_option maxRecDepth 100000
set_option maxHeartbeats 0
namespace Go.Proofs.YtklklgfpkpglgaaGreatDoor
open Go.RowKit Go.Proofs.Tryz Lx
variable (gl:List (Nat × List D))
section
attribute [local irreducible] TR TC
theorem qz2 (e:Ex):FnD prog gl 68 [.d (dE e)] (λv=>v=.d (.bool (Kt e))):=by
 (refine j5 func68 ntmps68 results68 λw M=>?_)
 (repeat' first|apply Ca 1;(refine Cm 1 ?_)|apply Ca 8;refine z_p Cq ?_|apply Ca 3;(refine j3 3 ?_)|refine yyp ?_;try refine Ce ?_ ?_<;>intro hb|refine yy ?_|refine yy2 ?_ ?_<;>intro hcmp|apply Cg 112;refine Ci (hc:=(x9 gl e.s)) ?_;try refine Ce ?_ ?_<;>intro hb|apply Cg 116;refine Ci (hc:=(mj5 gl e.ty)) ?_;try refine Ce ?_ ?_<;>intro hb|apply ah;refine Cc [0,1,2,3,4,5,6,10,11,16,29,42,51,59,72,85] ?_|refine Cb λK hK=>?_|apply_assumption -exfalso -symm)
 all_goals
  (refine j1 (j8 ?_))
  simp only[aF,Aw,Aq,Kt,Jf]
  (repeat (rename (∀ S,TC _ _ _ S->_)=>hX;clear hX))
  simp only[jf7,Aa]at *
  grind
end
section
def Wo:List Nat:=[0,1,2,3,6,7,8,18,25,38]
theorem mw7 (inside left:Int)(e:Ex)(l:List Ex):Iu inside left (e::l)=if Ip inside left e<0 then -1 else Iu inside (Ip inside left e) l:=by rw[Iu]
theorem qj3 (inside left:Int)(e:Ex):Ip inside left e=if inside=32\/left=0\/Kt e=false then -1 else Iu (inside+1) (left - 1) e.l:=by
 cases e;rw[Ip];rfl
attribute [local irreducible] TR TC
theorem qj4:∀ (m:Nat) (e:Ex) (inside left:Int),exN e<=m->0<=inside->inside<=32->0<=left->left<=256->
 FnD prog gl 39 [.d (dEx e),.d (.int .i64 inside),.d (.int .i64 left)] (λv=>v=.d (.int .i64 (Ip inside left e))):=by
 intro m
 induction m with
 |zero=>intro e i l h;have:=jn7 e;omega
 |succ m ih=>
  intro e inside left hm h1 h2 h3 h4;rw[mj1]at hm;have hl:∀ z∈e.l,∀ i r:Int,0<=i->i<=32->0<=r->r<=256->FnD prog gl 39 [.d (dEx z),.d (.int .i64 i),.d (.int .i64 r)] (λv=>v=.d (.int .i64 (Ip i r z))):=λz hz i r=>ih z i r (by have:=ji5 hz;omega);have hle:∀ z i r,Ip i r z<=r - 1\/Ip i r z<0\/r<0\/i<0\/32<i:=λz i r=>by
   by_cases hr:0<=r
   ·by_cases hi:0<=i/\i<=32
    ·by_cases h0:0<=Ip i r z
     ·exact .inl ((Qa z i r hr hi.1 hi.2).2 h0).2
     ·exact .inr (.inl (by omega))
    ·omega
   ·omega
  have hown:=qz2 gl e;have heq:=qj3 inside left e;clear ih hm;generalize hr:Ip inside left e=res at heq ⊢;simp only[k9]at hl ⊢;rw[kp4 e]at hown ⊢
  (refine j5 func39 ntmps39 results39 λw M=>?_)
  (repeat' first|apply Ca 3;(refine Cm 3 ?_)|refine yyp ?_;try refine Ce ?_ ?_<;>intro hb|refine yy ?_|refine yy2 ?_ ?_<;>intro hcmp|apply Cg 68;refine Ci (hc:=hown) ?_;try refine Ce ?_ ?_<;>intro hb|apply ah;refine Cc Wo ?_|refine Cb λK hK=>?_|apply_assumption -exfalso -symm)
  ·(refine j1 (j8 ?_))
   rw[heq,Ae (.inl (by omega))];rfl
  ·(refine j1 (j8 ?_))
   rw[heq,Ae (.inr (.inl (by omega)))];rfl
  ·rw[Af (by simp only[hb,Bool.true_eq_false,or_false];omega)]at heq;refine x4 0 5 rfl rfl λhn=>?_;simp only[Aa]at hn;refine j9 [2,6,7,21,22,23,24,25,26,27,28,29,30,31,32,33,34,35,36,37,38] [] (λx:Nat × Int=>[(7,.d (.int .i64 x.1)),(2,.d (.int .i64 x.2))]) (λ_=>[]) (λx=>x.1<=e.l.length/\0<=x.2/\x.2<=256/\res=Iu (inside+1) x.2 (e.l.drop x.1)) (λx=>e.l.length - x.1) (0,left - 1) ⟨by omega,by omega,by omega,heq⟩ λ⟨k,cur⟩ ⟨hk,hc0,hc1,hi⟩=>?_;dsimp only[Ac,Ad]at *;rcases Ah k e.l.length with hk2|hk2
   ·rw[Bo hk2,mw7]at hi;have hone:=hl e.l[k] (At _) (inside+1) cur (by omega) (by omega) hc0 hc1;have hle1:=hle e.l[k] (inside+1) cur
    (repeat' first|refine yyp ?_;try refine Ce ?_ ?_<;>intro hb|refine yy ?_|refine yy2 ?_ ?_<;>intro hcmp|apply Cg 39;refine Ci (hc:=hone) ?_|apply ah;refine Cc Wo ?_|refine Cb λK hK=>?_|apply_assumption -exfalso -symm)
    ·(refine j1 (j8 ?_))
     rw[hi,Ae hcmp];rfl
    ·refine⟨(k+1,Ip (inside+1) cur e.l[k]),⟨by dsimp only;omega,by dsimp only;omega,by dsimp only;omega,?_⟩,by dsimp only;omega,r9⟩;rw[hi,Af hcmp]
   ·rw[Br hk2,Iu]at hi
    (repeat' first|refine yyp ?_;try refine Ce ?_ ?_<;>intro hb|refine yy ?_|apply ah;refine Cc Wo ?_|refine Cb λK hK=>?_|apply_assumption -exfalso -symm)
    (refine j1 (j8 ?_))
    rw[hi];rfl
  ·(refine j1 (j8 ?_))
   rw[heq,Ae (.inr (.inr hb))];rfl
theorem je4 (e:Ex):FnD prog gl 16 [.d (dEx e)] (λv=>v=.d (.bool (Gc e))):=by
 have h:=qj4 gl _ e 0 256 (Au _) (by omega) (by omega) (by omega) (by omega);have hm:=Vy e;simp only[k9]at h ⊢
 (refine j5 func16 ntmps16 results16 λw M=>?_)
 (repeat' first|apply Ca 1;(refine Cm 1 ?_)|refine yyp ?_;try refine Ce ?_ ?_<;>intro hb|refine yy ?_|refine yy2 ?_ ?_<;>intro hcmp|apply Cg 39;refine Ci (hc:=h) ?_|apply ah;refine Cc [0,1,2,3,4,5] ?_|refine Cb λK hK=>?_|apply_assumption -exfalso -symm)
 all_goals
  (refine j1 (j8 ?_))
  simp only[aF,Aw,Aq];cases hb:Gc e with
  |true=>first|rfl|(exfalso;have:=hm.1 hb;omega)
  |false=>first|rfl|(exfalso;rw[hb]at hm;have:=hm.2 (by omega);cases this)
end
section
def Vf:List Nat:=[0,1,2,3,4,5,6]
def Pp:List Nat:=[0,1,2,6,7,8,17,21,29]
def qj5:List Nat:=[6,7,18,19,20,21,22,23,24,25,26,27,28,29]
theorem jd6 (x y:Ex):FnD prog gl 154 [.d (dEx x),.d (dEx y)] (λv=>v=.d (.bool (eqB x y))):=mj7 gl _ x y (Au _)
theorem ve7:dEx ex0=.agg [.int .u8 0,.int .u8 0,.int .u8 0,.int .i32 0,.str ⟨#[]⟩,.list 6 []]:=by
 rw[k9];rfl
attribute [local irreducible] TR TC
theorem kk8 (e:Ex):FnD prog gl 153 [.d (dEx e)] (λv=>v=.d (.bool (Iy e))):=by
 have h:=jd6 gl e ex0;unfold Iy;rw[ve7]at h;simp only[k9]at h ⊢
 (refine j5 func153 ntmps153 results153 λw M=>?_)
 (repeat' first|apply Ca 1;(refine Cm 1 ?_)|refine yyp ?_;try refine Ce ?_ ?_<;>intro hb|refine yy ?_|apply Cg 154;refine Ci (hc:=h) ?_;try refine Ce ?_ ?_<;>intro hb|apply ah;refine Cc [0,1,2,3,4,5] ?_|refine Cb λK hK=>?_|apply_assumption -exfalso -symm)
 all_goals
  (refine j1 (j8 ?_))
  simp only[aF, *]
theorem x3 (e:Ex):FnD prog gl 110 [.d (dEx e)] (λv=>v=.d (.bool (Gd e))):=by
 have h:=je4 gl e;unfold Gd;simp only[k9]at h ⊢
 (refine j5 func110 ntmps110 results110 λw M=>?_)
 (repeat' first|apply Ca 1;(refine Cm 1 ?_)|refine yyp ?_;try refine Ce ?_ ?_<;>intro hb|refine yy ?_|refine yy2 ?_ ?_<;>intro hcmp|apply Cg 16;refine Ci (hc:=h) ?_;try refine Ce ?_ ?_<;>intro hb|apply ah;refine Cc Vf ?_|refine Cb λK hK=>?_|apply_assumption -exfalso -symm)
 all_goals
  (refine j1 (j8 ?_))
  simp only[aF, *,decide_true,decide_false,Eg,Eh,Ed,Bf,Ay]
  try rfl
theorem kr5 (t:Ty):FnD prog gl 149 [.d (dTy t)] (λv=>v=.d (.bool (Qp t))):=by
 have h:=ka6 gl t;have h2:=jw5 gl t.kind
 (refine j5 func149 ntmps149 results149 λw M=>?_)
 (repeat' first|apply Ca 1;(refine Cm 1 ?_)|refine yyp ?_;try refine Ce ?_ ?_<;>intro hb|refine yy ?_|refine yy2 ?_ ?_<;>intro hcmp|apply Cg 147;refine Ci (hc:=h) ?_;try refine Ce ?_ ?_<;>intro hb|apply Cg 187;refine Ci (hc:=h2) ?_;try refine Ce ?_ ?_<;>intro hb|apply ah;refine Cc Vf ?_|refine Cb λK hK=>?_|apply_assumption -exfalso -symm)
 all_goals
  (refine j1 (j8 ?_))
  simp only[aF,Aw,Aq,Qp]
  (repeat (rename (∀ S,TC _ _ _ S->_)=>hX;clear hX))
  clear h h2
  grind
theorem ml9 (f:Fo):FnD prog gl 151 [.d (dFo f)] (λv=>v=.d (.bool (Md f))):=by
 have h:=ka6 gl f.type;have h2:=kr5 gl f.type
 (refine j5 func151 ntmps151 results151 λw M=>?_)
 (repeat' first|apply Ca 1;(refine Cm 1 ?_)|refine yyp ?_;try refine Ce ?_ ?_<;>intro hb|refine yy ?_|apply Cg 112;refine Ci (hc:=(x9 gl f.name)) ?_;try refine Ce ?_ ?_<;>intro hb|apply Cg 147;refine Ci (hc:=h) ?_;try refine Ce ?_ ?_<;>intro hb|apply Cg 149;refine Ci (hc:=h2) ?_;try refine Ce ?_ ?_<;>intro hb|apply ah;refine Cc Vf ?_|refine Cb λK hK=>?_|apply_assumption -exfalso -symm)
 all_goals
  (refine j1 (j8 ?_))
  simp only[aF,Aw,Aq,Md]
  (repeat (rename (∀ S,TC _ _ _ S->_)=>hX;clear hX))
  clear h h2
  grind
theorem qz3 (r:Rp):FnD prog gl 114 [.d (dRp r)] (λv=>v=.d (.bool (Ii r))):=by
 have h1:=kk8 gl r.base;have h2:=kk8 gl r.count;have h3:=je4 gl r.base;have h4:=je4 gl r.count;simp only[k9]at h1 h2 h3 h4
 (refine j5 func114 ntmps114 results114 λw M=>?_)
 (repeat' first|apply Ca 1;(refine Cm 1 ?_)|refine yyp ?_;try refine Ce ?_ ?_<;>intro hb|refine yy ?_|refine yy2 ?_ ?_<;>intro hcmp|apply Cg 153;refine Ci (hc:=(by first|exact h1|exact h2)) ?_;try refine Ce ?_ ?_<;>intro hb|apply Cg 112;refine Ci (hc:=(x9 gl r.name)) ?_;try refine Ce ?_ ?_<;>intro hb|apply Cg 16;refine Ci (hc:=(by first|exact h3|exact h4)) ?_;try refine Ce ?_ ?_<;>intro hb|apply ah;refine Cc Vf ?_|refine Cb λK hK=>?_|apply_assumption -exfalso -symm)
 all_goals
  (refine j1 (j8 ?_))
  simp only[aF,Aw,Aq,Ii]
  (repeat (rename (∀ S,TC _ _ _ S->_)=>hX;clear hX))
  clear h1 h2 h3 h4;simp only[jf7]at *
  grind
theorem v8 (l:List Ex)(a b:Int):FnD prog gl 108 [.d (.list 6 (l.map (λx=>dEx (x)))),.d (.int .i64 a),.d (.int .i64 b)] (λv=>v=.d (.bool (Co l a b Gd))):=by
 have hall:∀ x:Ex,FnD prog gl 110 [.d (dEx (x))] (λv=>v=.d (.bool (Gd x))):=λx=>x3 gl x;simp only[k9]at hall ⊢
 (refine j5 func108 ntmps108 results108 λw M=>?_)
 refine k7 0 rfl λhn=>?_;simp only[Aa]at hn
 (repeat' first|refine yyp ?_;try refine Ce ?_ ?_<;>intro hb|refine yy ?_|refine yy2 ?_ ?_<;>intro hcmp|apply ah;refine Cc Pp ?_|refine Cb λK hK=>?_|apply_assumption -exfalso -symm)
 ·(refine j1 (j8 ?_))
  simp only[aF,Co,Lx.hasB,Bn (by omega:¬a<=(l.length:Int)),Ay]
 ·(refine j1 (j8 ?_))
  simp only[aF,Co,Lx.hasB,Bn (by omega:¬(l.length:Int)<=b),Ay,Bc]
 have hd:Lx.hasB a b l.length=true:=by
  unfold Lx.hasB;rw[Bm (by omega),Bm (by omega)];rfl
 refine j9 qj5 [] (λk:Nat=>[(7,.d (.int .i64 k))]) (λ_=>[]) (λk=>k<=l.length/\l.all Gd=(l.drop k).all Gd) (λk=>l.length - k) 0 ⟨by omega,rfl⟩ λk ⟨hk,hi⟩=>?_;dsimp only[Ac,Ad];rcases Ah k l.length with hk2|hk2
 ·rw[Bo hk2,Ei]at hi;have hone:=hall l[k]
  (repeat' first|refine yyp ?_;try refine Ce ?_ ?_<;>intro hb|refine yy ?_|apply Cg 110;refine Ci (hc:=hone) ?_;try refine Ce ?_ ?_<;>intro hb|apply ah;refine Cc Pp ?_|refine Cb λK hK=>?_|apply_assumption -exfalso -symm)
  ·refine⟨k+1,⟨by omega,?_⟩,by omega,r9⟩;rw[hi,hb];rfl
  ·(refine j1 (j8 ?_))
   rw[hb,Ay]at hi;simp only[aF,Co,hi,Bc]
 ·rw[Br hk2]at hi
  (repeat' first|refine yyp ?_;try refine Ce ?_ ?_<;>intro hb|refine yy ?_|apply ah;refine Cc Pp ?_|refine Cb λK hK=>?_|apply_assumption -exfalso -symm)
  (refine j1 (j8 ?_))
  simp only[aF,Co,hi,hd,List.all_nil,Bool.and_self]
theorem y6 (l:List Ex)(a b:Int):FnD prog gl 109 [.d (.list 6 (l.map (λx=>dEx (x)))),.d (.int .i64 a),.d (.int .i64 b)] (λv=>v=.d (.bool (Co l a b Gc))):=by
 have hall:∀ x:Ex,FnD prog gl 16 [.d (dEx (x))] (λv=>v=.d (.bool (Gc x))):=λx=>je4 gl x;simp only[k9]at hall ⊢
 (refine j5 func109 ntmps109 results109 λw M=>?_)
 refine k7 0 rfl λhn=>?_;simp only[Aa]at hn
 (repeat' first|refine yyp ?_;try refine Ce ?_ ?_<;>intro hb|refine yy ?_|refine yy2 ?_ ?_<;>intro hcmp|apply ah;refine Cc Pp ?_|refine Cb λK hK=>?_|apply_assumption -exfalso -symm)
 ·(refine j1 (j8 ?_))
  simp only[aF,Co,Lx.hasB,Bn (by omega:¬a<=(l.length:Int)),Ay]
 ·(refine j1 (j8 ?_))
  simp only[aF,Co,Lx.hasB,Bn (by omega:¬(l.length:Int)<=b),Ay,Bc]
 have hd:Lx.hasB a b l.length=true:=by
  unfold Lx.hasB;rw[Bm (by omega),Bm (by omega)];rfl
 refine j9 qj5 [] (λk:Nat=>[(7,.d (.int .i64 k))]) (λ_=>[]) (λk=>k<=l.length/\l.all Gc=(l.drop k).all Gc) (λk=>l.length - k) 0 ⟨by omega,rfl⟩ λk ⟨hk,hi⟩=>?_;dsimp only[Ac,Ad];rcases Ah k l.length with hk2|hk2
 ·rw[Bo hk2,Ei]at hi;have hone:=hall l[k]
  (repeat' first|refine yyp ?_;try refine Ce ?_ ?_<;>intro hb|refine yy ?_|apply Cg 16;refine Ci (hc:=hone) ?_;try refine Ce ?_ ?_<;>intro hb|apply ah;refine Cc Pp ?_|refine Cb λK hK=>?_|apply_assumption -exfalso -symm)
  ·refine⟨k+1,⟨by omega,?_⟩,by omega,r9⟩;rw[hi,hb];rfl
  ·(refine j1 (j8 ?_))
   rw[hb,Ay]at hi;simp only[aF,Co,hi,Bc]
 ·rw[Br hk2]at hi
  (repeat' first|refine yyp ?_;try refine Ce ?_ ?_<;>intro hb|refine yy ?_|apply ah;refine Cc Pp ?_|refine Cb λK hK=>?_|apply_assumption -exfalso -symm)
  (refine j1 (j8 ?_))
  simp only[aF,Co,hi,hd,List.all_nil,Bool.and_self]
theorem kr6 (l:List ByteArray)(a b:Int):FnD prog gl 148 [.d (.list 1 (l.map (λx=>.str (x)))),.d (.int .i64 a),.d (.int .i64 b)] (λv=>v=.d (.bool (Co l a b Cy))):=by
 have hall:∀ x:ByteArray,FnD prog gl 112 [.d (.str (x))] (λv=>v=.d (.bool (Cy x))):=λx=>x9 gl x
 (refine j5 func148 ntmps148 results148 λw M=>?_)
 refine k7 0 rfl λhn=>?_;simp only[Aa]at hn
 (repeat' first|refine yyp ?_;try refine Ce ?_ ?_<;>intro hb|refine yy ?_|refine yy2 ?_ ?_<;>intro hcmp|apply ah;refine Cc Pp ?_|refine Cb λK hK=>?_|apply_assumption -exfalso -symm)
 ·(refine j1 (j8 ?_))
  simp only[aF,Co,Lx.hasB,Bn (by omega:¬a<=(l.length:Int)),Ay]
 ·(refine j1 (j8 ?_))
  simp only[aF,Co,Lx.hasB,Bn (by omega:¬(l.length:Int)<=b),Ay,Bc]
 have hd:Lx.hasB a b l.length=true:=by
  unfold Lx.hasB;rw[Bm (by omega),Bm (by omega)];rfl
 refine j9 qj5 [] (λk:Nat=>[(7,.d (.int .i64 k))]) (λ_=>[]) (λk=>k<=l.length/\l.all Cy=(l.drop k).all Cy) (λk=>l.length - k) 0 ⟨by omega,rfl⟩ λk ⟨hk,hi⟩=>?_;dsimp only[Ac,Ad];rcases Ah k l.length with hk2|hk2
 ·rw[Bo hk2,Ei]at hi;have hone:=hall l[k]
  (repeat' first|refine yyp ?_;try refine Ce ?_ ?_<;>intro hb|refine yy ?_|apply Cg 112;refine Ci (hc:=hone) ?_;try refine Ce ?_ ?_<;>intro hb|apply ah;refine Cc Pp ?_|refine Cb λK hK=>?_|apply_assumption -exfalso -symm)
  ·refine⟨k+1,⟨by omega,?_⟩,by omega,r9⟩;rw[hi,hb];rfl
  ·(refine j1 (j8 ?_))
   rw[hb,Ay]at hi;simp only[aF,Co,hi,Bc]
 ·rw[Br hk2]at hi
  (repeat' first|refine yyp ?_;try refine Ce ?_ ?_<;>intro hb|refine yy ?_|apply ah;refine Cc Pp ?_|refine Cb λK hK=>?_|apply_assumption -exfalso -symm)
  (refine j1 (j8 ?_))
  simp only[aF,Co,hi,hd,List.all_nil,Bool.and_self]
end
section
def Sr:List Nat:=[0,1,2,3,4,5,6,7,19,24,55]
def Qt:List Nat:=[0,1,2,3,4,5,6,7]
def mr9:Plan:=lin [0,8,24,32,5,12,16,21,29,36,40,45,48,52,56,64,80,88,61,68,72,77,85,92,96,101,106,108,112]
section
variable {E:Set}{S:Sd}{dst:Option Tmp}{ty:TypeId}{pos:String}{af:Array Edge}{gd:Option (Nat × Bool)}
theorem kr7 {xt yt:TypeId}{x y:Operand}{s t:Bool}[ht:TCell E.P xt](hu:E.P.underlying xt=some .bool)(hx:S.ev x=some (.d (.bool s)))(hy:S.ev y=some (.d (.bool t)))(hox:Cn x=true)(hoy:Cn y=true):
 aH E S ⟨dst,.binOp .neq xt x y yt,ty,pos,af,gd⟩ (.d (.bool (!(s == t)))):=aH.mk λβ a w h=>by
 have h1:a.eval x=.bool s:=h.ev hx hox;have h2:a.eval y=.bool t:=h.ev hy hoy;refine⟨.bool (!(s == t)),λw' _=>?_,rfl⟩;have he:(Op.equal xt (.bool s) (.bool t)).run E.P w'=.ok (s == t) w':=by
  unfold Op.equal;rw[show Op.maxDepth=9999+1 from rfl,Op.equalIn];simp only[Sem.run_bind,run_underlying hu,Result.andThen_ok,Sem.run_pure]
 have hb:(binOp .neq xt (.bool s) (.bool t)).run E.P w'=.ok (.bool (!(s == t))) w':=by
  show(do pure (Value.bool !(<-Op.equal xt (.bool s) (.bool t))):Sem Value).run E.P w'=_;simp only[Sem.run_bind,he,Result.andThen_ok,Sem.run_pure]
 simp[execOp,h1,h2,eqGuard,hb]
end
attribute [local irreducible] TR TC
theorem ko5 (x y:Pt):FnD prog gl 190 [.d (dPt x),.d (dPt y)] (λv=>v=.d (.bool (eqB x y))):=by
 have hxy:=rv7 (a:=x) (b:=y);obtain⟨xc,xl⟩:=x;obtain⟨yc,yl⟩:=y;dsimp only at hxy;dsimp only[dPt];by_cases hc:xc=yc/\xl.length=yl.length
 ·obtain⟨hc1,hlen⟩:=hc;subst hc1;have hle1:xl.length<=yl.length:=Fq hlen;have hle2:yl.length<=xl.length:=Fq hlen.symm;clear hlen;cases xc
  all_goals
   (refine j5 func190 ntmps190 results190 λw M=>?_)
   refine x4 0 1 rfl rfl λhna=>?_;refine x4 1 1 rfl rfl λhnb=>?_;simp only[Aa]at hna hnb
   (repeat' first|apply Ca 2;(refine Cm 2 ?_)|apply Ca 3;(refine Cm 3 ?_)|apply Ca 10;(refine z_p (kr7 (by kernel_rfl) rfl rfl rfl rfl) ?_)|apply Ca 11;(first|refine yyp ?_;try refine Ce ?_ ?_<;>intro hb|refine yy2 ?_ ?_<;>intro hcmp);all_goals try refine Dl true 11 19 Sr ?_|apply Ca 19;refine yyp ?_;try refine Ce ?_ ?_<;>intro hb|refine yyp ?_|refine yy ?_|apply ah;refine Cc Sr ?_|refine Cb λK hK=>?_|apply Cf 6;refine j0 [] mr9 ?_|apply_assumption -exfalso -symm)
   refine j9 [4,5,20,21,22,23,24,25,26,27,28,29,30,31,32,33,34,35,36,37,38,39,40,41,42,43,44,45,46,47,48,49,50,51,52,53,54,55] [] (λk:Nat=>[(5,.d (.int .i64 k))]) (λ_=>[]) (λk=>k<=xl.length/\xl.take k=yl.take k) (λk=>xl.length - k) 0 ⟨Ai _,rfl⟩ λk ⟨hk,hi⟩=>?_;dsimp only[Ac,Ad];rcases Ah k xl.length with hk2|hk2
   ·have hk3:k<yl.length:=by omega
    have hone:=mj4 gl xl[k].items yl[k].items;have hv:=rv3 (a:=xl[k]) (b:=yl[k])
    (repeat' first|refine yyp ?_;try refine Ce ?_ ?_<;>intro hb|refine yy ?_|refine yy2 ?_ ?_<;>intro hcmp|apply Cg 217;refine Ci (hc:=hone) ?_;try refine Ce ?_ ?_<;>intro hb|apply ah;refine Cc Sr ?_|refine Cb λK hK=>?_|apply Cf 6;refine j0 [] mr9 ?_|apply_assumption -exfalso -symm)
    all_goals (repeat (rename (∀ S,TC _ _ _ S->_)=>hX;clear hX))
    all_goals try simp only[Ec,ne_eq,Eb,Bool.not_eq_false']at *
    all_goals first
     |(refine⟨k+1,⟨by omega,x7 hk2 hk3 hi (hv.2 ⟨by assumption,r8.1 (by assumption)⟩)⟩,by omega,r9⟩)
     |((refine j1 (j8 ?_))
       simp only[aF,Aw,Aq];refine(v7.2 λe=>?_).symm;have e2:=(hxy.1 e).2;refine y7 hk2 hk3 (λe3=>?_) e2;have e4:=hv.1 e3
       first
        |exact absurd e4.1 (by assumption)
        |exact absurd e4.2 (v7.1 (by assumption)))
   ·(repeat' first|refine yyp ?_;try refine Ce ?_ ?_<;>intro hb|refine yy ?_|apply ah;refine Cc Sr ?_|refine Cb λK hK=>?_|apply Cf 6;refine j0 [] mr9 ?_|apply_assumption -exfalso -symm)
    (refine j1 (j8 ?_))
    simp only[aF,Aw,Aq];exact(r8.2 (hxy.2 ⟨rfl,y3 hk2 (by omega) hi⟩)).symm
 ·have hf:eqB (Pt.mk xc xl) (Pt.mk yc yl)=false:=v7.2 λe=>hc ⟨(hxy.1 e).1,by rw[(hxy.1 e).2]⟩;rw[hf];cases xc<;>cases yc
  all_goals (refine j5 func190 ntmps190 results190 λw M=>?_)
  all_goals refine x4 0 1 rfl rfl λhna=>?_
  all_goals refine x4 1 1 rfl rfl λhnb=>?_
  all_goals simp only[Aa]at hna hnb
  all_goals (repeat' first|apply Ca 2;(refine Cm 2 ?_)|apply Ca 3;(refine Cm 3 ?_)|apply Ca 10;(refine z_p (kr7 (by kernel_rfl) rfl rfl rfl rfl) ?_)|apply Ca 11;(first|refine yyp ?_;try refine Ce ?_ ?_<;>intro hb|refine yy2 ?_ ?_<;>intro hcmp);all_goals try refine Dl true 11 19 Sr ?_|apply Ca 19;refine yyp ?_;try refine Ce ?_ ?_<;>intro hb|refine yyp ?_|refine yy ?_|refine yy2 ?_ ?_<;>intro hcmp|apply ah;refine Cc Sr ?_|refine Cb λK hK=>?_|apply Cf 6;refine j0 [] mr9 ?_|apply_assumption -exfalso -symm)
  all_goals first
   |(exfalso;exact hc ⟨rfl,by omega⟩)
   |((refine j1 (j8 ?_))
     rfl)
theorem kk9 (x y:Gu)(h:∀ a∈x.body,∀ b,FnD prog gl 115 [.d (dPr a),.d (dPr b)] (λv=>v=.d (.bool (eqB a b)))):
 FnD prog gl 183 [.d (dGu x),.d (dGu y)] (λv=>v=.d (.bool (eqB x y))):=by
 have h1:=jd6 gl x.cond y.cond;have h2:=jd6 gl x.av y.av;have h3:=jd6 gl x.time y.time;have h4:=jn9 gl x.aj y.aj λa _ b=>jd6 gl a b;have h5:=jn9 gl x.values y.values λa _ b=>jd6 gl a b;have h6:=kh7 gl x.body y.body h;have e1:=rw0 (a:=x) (b:=y);clear h;simp only[k9]at h1 h2 h3;rw[jb9]
 (refine j5 func183 ntmps183 results183 λw M=>?_)
 (repeat' first|apply Ca 2;(refine Cm 2 ?_)|apply Ca 3;(refine Cm 3 ?_)|refine zas [10,17,24,31,38,45,52] ?_;(first|refine yyp ?_;try refine Ce ?_ ?_<;>intro hb|refine yy2 ?_ ?_<;>intro hcmp);all_goals try (first|refine Dl false 10 4 Qt ?_|refine Dl false 17 4 Qt ?_|refine Dl false 24 4 Qt ?_|refine Dl false 31 4 Qt ?_|refine Dl false 38 4 Qt ?_|refine Dl false 45 4 Qt ?_|refine Dl false 52 4 Qt ?_)|refine yyp ?_;try refine Ce ?_ ?_<;>intro hb|refine yy ?_|refine yy2 ?_ ?_<;>intro hcmp|apply Cg 154;refine Ci (hc:=(by first|exact h1|exact h2|exact h3)) ?_;try refine Ce ?_ ?_<;>intro hb|apply Cg 155;refine Ci (hc:=(by first|exact h4|exact h5)) ?_;try refine Ce ?_ ?_<;>intro hb|apply Cg 157;refine Ci (hc:=h6) ?_;try refine Ce ?_ ?_<;>intro hb|apply ah;refine Cc Qt ?_|refine Cb λK hK=>?_|apply_assumption -exfalso -symm)
 all_goals
  (refine j1 (j8 ?_))
  simp only[aF,Aw,Aq]
  (repeat (rename (∀ S,TC _ _ _ S->_)=>hX;clear hX))
  clear h1 h2 h3 h4 h5 h6;symm;simp only[r8,v7,ne_eq]at *
  grind
end
section
def Od:List Nat:=[0,1,2,3,4,5,6,7,26,31,44]
def Mi:List Nat:=[0,1,2,3,4,5,6,7,13,18,31]
def kd6:Plan:=lin [0,8,20,28,5,12,17,25,32,37,40]
attribute [local irreducible] TR TC
theorem kl0 (x y:Sp)(h:∀ a∈x.body,∀ b,FnD prog gl 115 [.d (dPr a),.d (dPr b)] (λv=>v=.d (.bool (eqB a b)))):
 FnD prog gl 152 [.d (dSp x),.d (dSp y)] (λv=>v=.d (.bool (eqB x y))):=by
 have h1:=mj3 gl x.names y.names;have h2:=jd6 gl x.e y.e;have h3:=ko5 gl x.aN y.aN;have h6:=kh7 gl x.body y.body h;have e1:=rv9 (a:=x) (b:=y);have e2:=rv6 (a:=x.type) (b:=y.type);clear h;simp only[k9]at h2;by_cases hc:x.kind=y.kind/\x.type=y.type/\x.ax.length=y.ax.length
 ·obtain⟨hc1,hc2,hlen⟩:=hc;have hle1:x.ax.length<=y.ax.length:=Fq hlen;have hle2:y.ax.length<=x.ax.length:=Fq hlen.symm;have hty:=e2.1 hc2;clear hlen e2
  (refine j5 func152 ntmps152 results152 λw M=>?_)
  refine x4 0 14 rfl rfl λhna=>?_;refine x4 1 14 rfl rfl λhnb=>?_;simp only[Aa]at hna hnb
  (repeat' first|apply Ca 2;(refine Cm 2 ?_)|apply Ca 3;(refine Cm 3 ?_)|refine zas [11,18] ?_;(first|refine yyp ?_;try refine Ce ?_ ?_<;>intro hb|refine yy2 ?_ ?_<;>intro hcmp);all_goals try (first|refine Dl true 11 26 Od ?_|refine Dl true 18 26 Od ?_)|refine yyp ?_;try refine Ce ?_ ?_<;>intro hb|refine yy ?_|refine yy2 ?_ ?_<;>intro hcmp|apply ah;refine Cc Od ?_|refine Cb λK hK=>?_|apply Cf 6;refine j0 [] kd6 ?_|apply_assumption -exfalso -symm)
  all_goals first
   |(exfalso;omega)
   |(exfalso;exact absurd hty (by assumption))
   |(exfalso;simp_all;done)
   |skip
  refine j9 [4,5,27,28,29,30,31,32,33,34,35,36,37,38,39,40,41,42,43,44] [] (λk:Nat=>[(5,.d (.int .i64 k))]) (λ_=>[]) (λk=>k<=x.ax.length/\x.ax.take k=y.ax.take k) (λk=>x.ax.length - k) 0 ⟨Ai _,rfl⟩ λk ⟨hk,hi⟩=>?_;dsimp only[Ac,Ad];rcases Ah k x.ax.length with hk2|hk2
  ·have hk3:k<y.ax.length:=by omega
   have hv:=qc6 (a:=x.ax[k]) (b:=y.ax[k])
   (repeat' first|refine yyp ?_;try refine Ce ?_ ?_<;>intro hb|refine yy ?_|refine yy2 ?_ ?_<;>intro hcmp|apply ah;refine Cc Od ?_|refine Cb λK hK=>?_|apply Cf 6;refine j0 [] kd6 ?_|apply_assumption -exfalso -symm)
   all_goals first
    |(refine⟨k+1,⟨by omega,x7 hk2 hk3 hi (hv.2 (by assumption))⟩,by omega,r9⟩)
    |((refine j1 (j8 ?_))
      simp only[aF,Aw,Aq];refine(v7.2 λe=>?_).symm;have e3:=(e1.1 e).2.2.2.2.2.1;refine y7 hk2 hk3 (λe4=>?_) e3;exact absurd (hv.1 e4) (by assumption))
  ·have hfo:=y3 hk2 (by omega) hi
   (repeat' first|refine zas [50,57,64] ?_;(first|refine yyp ?_;try refine Ce ?_ ?_<;>intro hb|refine yy2 ?_ ?_<;>intro hcmp);all_goals try (first|refine Dl false 50 4 Od ?_|refine Dl false 57 4 Od ?_|refine Dl false 64 4 Od ?_)|refine yyp ?_;try refine Ce ?_ ?_<;>intro hb|refine yy ?_|apply Cg 189;refine Ci (hc:=h1) ?_;try refine Ce ?_ ?_<;>intro hb|apply Cg 154;refine Ci (hc:=h2) ?_;try refine Ce ?_ ?_<;>intro hb|apply Cg 190;refine Ci (hc:=h3) ?_;try refine Ce ?_ ?_<;>intro hb|apply Cg 157;refine Ci (hc:=h6) ?_;try refine Ce ?_ ?_<;>intro hb|apply ah;refine Cc Od ?_|refine Cb λK hK=>?_|apply Cf 6;refine j0 [] kd6 ?_|apply_assumption -exfalso -symm)
   all_goals
    (refine j1 (j8 ?_))
    simp only[aF,Aw,Aq]
    (repeat (rename (∀ S,TC _ _ _ S->_)=>hX;clear hX))
    clear h1 h2 h3 h6 hi hty;symm;simp only[r8,v7,ne_eq]at *
    grind
 ·have hf:eqB x y=false:=v7.2 λe=>hc ⟨(e1.1 e).1,(e1.1 e).2.1,by rw[(e1.1 e).2.2.2.2.2.1]⟩;rw[hf]
  (refine j5 func152 ntmps152 results152 λw M=>?_)
  refine x4 0 14 rfl rfl λhna=>?_;refine x4 1 14 rfl rfl λhnb=>?_;simp only[Aa]at hna hnb
  (repeat' first|apply Ca 2;(refine Cm 2 ?_)|apply Ca 3;(refine Cm 3 ?_)|refine zas [11,18] ?_;(first|refine yyp ?_;try refine Ce ?_ ?_<;>intro hb|refine yy2 ?_ ?_<;>intro hcmp);all_goals try (first|refine Dl true 11 26 Od ?_|refine Dl true 18 26 Od ?_)|refine yyp ?_;try refine Ce ?_ ?_<;>intro hb|refine yy ?_|refine yy2 ?_ ?_<;>intro hcmp|apply ah;refine Cc Od ?_|refine Cb λK hK=>?_|apply Cf 6;refine j0 [] kd6 ?_|apply_assumption -exfalso -symm)
  all_goals first
   |((refine j1 (j8 ?_))
     rfl)
   |(exfalso;refine hc ⟨by omega,e2.2 (by assumption),by omega⟩)
   |(exfalso;(repeat (rename (∀ S,TC _ _ _ S->_)=>hX;clear hX));simp_all;done)
theorem mw8 (x y:Pr)(hl:∀ a∈x.l,∀ b,FnD prog gl 115 [.d (dPr a),.d (dPr b)] (λv=>v=.d (.bool (eqB a b))))
 (hg:∀ g∈x.ak,∀ a∈g.body,∀ b,FnD prog gl 115 [.d (dPr a),.d (dPr b)] (λv=>v=.d (.bool (eqB a b))))
 (hb':∀ a∈x.spec.body,∀ b,FnD prog gl 115 [.d (dPr a),.d (dPr b)] (λv=>v=.d (.bool (eqB a b)))):
 FnD prog gl 115 [.d (dPr x),.d (dPr y)] (λv=>v=.d (.bool (eqB x y))):=by
 have h1:=jd6 gl x.av y.av;have h2:=jd6 gl x.rep.base y.rep.base;have h3:=jd6 gl x.rep.count y.rep.count;have h4:=jn9 gl x.aj y.aj λa _ b=>jd6 gl a b;have h5:=jn9 gl x.au y.au λa _ b=>jd6 gl a b;have h6:=kh7 gl x.l y.l hl;have h7:=mb7 gl x.ak y.ak λg hm k=>kk9 gl g k (hg g hm);have h8:=kl0 gl x.spec y.spec hb';have e1:=rw1 (a:=x) (b:=y);have e2:=rv8 (a:=x.rep) (b:=y.rep);clear hl hg hb';simp only[k9]at h1 h2 h3;rw[v6];by_cases hlen:x.ay.length=y.ay.length
 ·have hle1:x.ay.length<=y.ay.length:=Fq hlen;have hle2:y.ay.length<=x.ay.length:=Fq hlen.symm;clear hlen
  (refine j5 func115 ntmps115 results115 λw M=>?_)
  refine x4 0 25 rfl rfl λhna=>?_;refine x4 1 25 rfl rfl λhnb=>?_;simp only[Aa]at hna hnb
  (repeat' first|apply Ca 2;(refine Cm 2 ?_)|apply Ca 3;(refine Cm 3 ?_)|refine yyp ?_;try refine Ce ?_ ?_<;>intro hb|refine yy ?_|apply ah;refine Cc Mi ?_|refine Cb λK hK=>?_|apply Cf 6;refine j0 [] kd6 ?_|apply_assumption -exfalso -symm)
  refine j9 [4,5,14,15,16,17,18,19,20,21,22,23,24,25,26,27,28,29,30,31] [] (λk:Nat=>[(5,.d (.int .i64 k))]) (λ_=>[]) (λk=>k<=x.ay.length/\x.ay.take k=y.ay.take k) (λk=>x.ay.length - k) 0 ⟨Ai _,rfl⟩ λk ⟨hk,hi⟩=>?_;dsimp only[Ac,Ad];rcases Ah k x.ay.length with hk2|hk2
  ·have hk3:k<y.ay.length:=by omega
   (repeat' first|refine yyp ?_;try refine Ce ?_ ?_<;>intro hb|refine yy ?_|refine yy2 ?_ ?_<;>intro hcmp|apply ah;refine Cc Mi ?_|refine Cb λK hK=>?_|apply Cf 6;refine j0 [] kd6 ?_|apply_assumption -exfalso -symm)
   all_goals try simp only[Ec,ne_eq]at hcmp
   all_goals first
    |(refine⟨k+1,⟨by omega,x7 hk2 hk3 hi hcmp⟩,by omega,r9⟩)
    |((refine j1 (j8 ?_))
      simp only[aF,Aw,Aq];refine(v7.2 λe=>?_).symm;exact y7 hk2 hk3 (by assumption) (e1.1 e).2.2.2.2.2.2.2.2.1)
  ·have hfo:=y3 hk2 (by omega) hi
   (repeat' first|refine zas [39,48,62,69,72,79,86,93,100,107] ?_;(first|refine yyp ?_;try refine Ce ?_ ?_<;>intro hb|refine yy2 ?_ ?_<;>intro hcmp);all_goals try (first|refine Dl false 39 6 Mi ?_|refine Dl false 48 6 Mi ?_|refine Dl false 62 4 Mi ?_|refine Dl false 69 4 Mi ?_|refine Dl false 72 4 Mi ?_|refine Dl false 79 4 Mi ?_|refine Dl false 86 4 Mi ?_|refine Dl false 93 4 Mi ?_|refine Dl false 100 4 Mi ?_|refine Dl false 107 4 Mi ?_)|refine yyp ?_;try refine Ce ?_ ?_<;>intro hb|refine yy ?_|refine yy2 ?_ ?_<;>intro hcmp|apply Cg 154;refine Ci (hc:=(by first|exact h1|exact h2|exact h3)) ?_;try refine Ce ?_ ?_<;>intro hb|apply Cg 155;refine Ci (hc:=(by first|exact h4|exact h5)) ?_;try refine Ce ?_ ?_<;>intro hb|apply Cg 156;refine Ci (hc:=h7) ?_;try refine Ce ?_ ?_<;>intro hb|apply Cg 157;refine Ci (hc:=h6) ?_;try refine Ce ?_ ?_<;>intro hb|apply Cg 152;refine Ci (hc:=h8) ?_;try refine Ce ?_ ?_<;>intro hb|apply ah;refine Cc Mi ?_|refine Cb λK hK=>?_|apply Cf 6;refine j0 [] kd6 ?_|apply_assumption -exfalso -symm)
   all_goals
    (refine j1 (j8 ?_))
    simp only[aF,Aw,Aq]
    (repeat (rename (∀ S,TC _ _ _ S->_)=>hX;clear hX))
    clear h1 h2 h3 h4 h5 h6 h7 h8 hi;symm;simp only[r8,v7,ne_eq]at *
    grind
 ·have hf:eqB x y=false:=v7.2 λe=>hlen (by rw[(e1.1 e).2.2.2.2.2.2.2.2.1]);rw[hf]
  (refine j5 func115 ntmps115 results115 λw M=>?_)
  refine x4 0 25 rfl rfl λhna=>?_;refine x4 1 25 rfl rfl λhnb=>?_;simp only[Aa]at hna hnb
  (repeat' first|apply Ca 2;(refine Cm 2 ?_)|apply Ca 3;(refine Cm 3 ?_)|refine yyp ?_;try refine Ce ?_ ?_<;>intro hb|refine yy ?_|apply ah;refine Cc Mi ?_|refine Cb λK hK=>?_|apply Cf 6;refine j0 [] kd6 ?_|apply_assumption -exfalso -symm)
  all_goals first
   |((refine j1 (j8 ?_))
     rfl)
   |(exfalso;exact hlen (by omega))
theorem qj6:∀ (m:Nat) (x y:Pr),SizeOf.sizeOf x<=m->FnD prog gl 115 [.d (dPr x),.d (dPr y)] (λv=>v=.d (.bool (eqB x y))):=by
 intro m
 induction m with
 |zero=>intro x y h;cases x;simp only[Pr.mk.sizeOf_spec]at h;omega
 |succ m ih=>
  intro x y hm;exact mw8 gl x y (λa ha b=>ih a b (by have:=rk7 ha;omega)) (λg hg a ha b=>ih a b (by have:=rk8 hg ha;omega)) λa ha b=>ih a b (by have:=rk9 ha;omega)
theorem kw5 (x y:Pr):FnD prog gl 115 [.d (dPr x),.d (dPr y)] (λv=>v=.d (.bool (eqB x y))):=qj6 gl _ x y (Au _)
theorem kf7 (x y:Sp):FnD prog gl 152 [.d (dSp x),.d (dSp y)] (λv=>v=.d (.bool (eqB x y))):=kl0 gl x y λa _ b=>kw5 gl a b
theorem js7 (x y:Gu):FnD prog gl 183 [.d (dGu x),.d (dGu y)] (λv=>v=.d (.bool (eqB x y))):=kk9 gl x y λa _ b=>kw5 gl a b
end
end Go.Proofs.YtklklgfpkpglgaaGreatDoor
