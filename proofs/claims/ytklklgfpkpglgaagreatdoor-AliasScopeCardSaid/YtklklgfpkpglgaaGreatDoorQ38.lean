/- Parts. -/
import Derived.Test.YtklklgfpkpglgaaGreatDoorQ19
set_option linter.all false
set_option maxRecDepth 100000
set_option maxHeartbeats 0
namespace Go.Proofs.YtklklgfpkpglgaaGreatDoor
open Go.RowKit Go.Proofs.Tryz Lx
variable (gl:List (Nat × List D))
section
attribute [local irreducible] TR TC
theorem rg6 (e:Ex):FnD prog gl 68 [.d (dE e)] (λv=>v=.d (.bool (Kn e))):=by
 (refine j4 func68 ntmps68 results68 λw M=>?_)
 (repeat' first|apply Ca 1;(refine Ck 1 ?_)|apply Ca 8;refine z_p Cu ?_|apply Ca 3;(refine j2 3 ?_)|refine yyp ?_;try refine Ce ?_ ?_<;>intro hb|refine yy ?_|refine yy2 ?_ ?_<;>intro hcmp|apply Cf 112;refine Ci (hc:=(x7 gl e.s)) ?_;try refine Ce ?_ ?_<;>intro hb|apply Cf 116;refine Ci (hc:=(mm7 gl e.ty)) ?_;try refine Ce ?_ ?_<;>intro hb|apply ah;refine Cc [0,1,2,3,4,5,6,10,11,16,29,42,51,59,72,85] ?_|refine Cb λK hK=>?_|apply_assumption -exfalso -symm)
 all_goals
  (refine j1 (j7 ?_))
  simp only[aF,At,Am,Kn,Jf]
  (repeat (rename (∀ S,TC _ _ _ S->_)=>hX;clear hX))
  simp only[jf5,Ab]at *
  grind
end
section
def Wq:List Nat:=[0,1,2,3,6,7,8,18,25,38]
theorem qb2 (inside left:Int)(e:Ex)(l:List Ex):Io inside left (e::l)=if Ig inside left e<0 then -1 else Io inside (Ig inside left e) l:=by rw[Io]
theorem qo3 (inside left:Int)(e:Ex):Ig inside left e=if inside=32\/left=0\/Kn e=false then -1 else Io (inside+1) (left - 1) e.l:=by
 cases e;rw[Ig];rfl
attribute [local irreducible] TR TC
theorem qo4:∀ (m:Nat) (e:Ex) (inside left:Int),exN e<=m->0<=inside->inside<=32->0<=left->left<=256->
 FnD prog gl 39 [.d (dEx e),.d (.int .i64 inside),.d (.int .i64 left)] (λv=>v=.d (.int .i64 (Ig inside left e))):=by
 intro m
 induction m with
 |zero=>intro e i l h;have:=jo4 e;omega
 |succ m ih=>
  intro e inside left hm h1 h2 h3 h4;rw[my7]at hm;have hl:∀ z∈e.l,∀ i r:Int,0<=i->i<=32->0<=r->r<=256->FnD prog gl 39 [.d (dEx z),.d (.int .i64 i),.d (.int .i64 r)] (λv=>v=.d (.int .i64 (Ig i r z))):=λz hz i r=>ih z i r (by have:=jh8 hz;omega);have hle:∀ z i r,Ig i r z<=r - 1\/Ig i r z<0\/r<0\/i<0\/32<i:=λz i r=>by
   by_cases hr:0<=r
   ·by_cases hi:0<=i/\i<=32
    ·by_cases h0:0<=Ig i r z
     ·exact .inl ((Pk z i r hr hi.1 hi.2).2 h0).2
     ·exact .inr (.inl (by omega))
    ·omega
   ·omega
  have hown:=rg6 gl e;have heq:=qo3 inside left e;clear ih hm;generalize hr:Ig inside left e=res at heq ⊢;simp only[r8]at hl ⊢;rw[kq7 e]at hown ⊢
  (refine j4 func39 ntmps39 results39 λw M=>?_)
  (repeat' first|apply Ca 3;(refine Ck 3 ?_)|refine yyp ?_;try refine Ce ?_ ?_<;>intro hb|refine yy ?_|refine yy2 ?_ ?_<;>intro hcmp|apply Cf 68;refine Ci (hc:=hown) ?_;try refine Ce ?_ ?_<;>intro hb|apply ah;refine Cc Wq ?_|refine Cb λK hK=>?_|apply_assumption -exfalso -symm)
  ·(refine j1 (j7 ?_))
   rw[heq,Ad (.inl (by omega))];rfl
  ·(refine j1 (j7 ?_))
   rw[heq,Ad (.inr (.inl (by omega)))];rfl
  ·rw[Af (by simp only[hb,Bool.true_eq_false,or_false];omega)]at heq;refine x4 0 5 rfl rfl λhn=>?_;simp only[Ab]at hn;refine k9 [2,6,7,21,22,23,24,25,26,27,28,29,30,31,32,33,34,35,36,37,38] [] (λx:Nat × Int=>[(7,.d (.int .i64 x.1)),(2,.d (.int .i64 x.2))]) (λ_=>[]) (λx=>x.1<=e.l.length/\0<=x.2/\x.2<=256/\res=Io (inside+1) x.2 (e.l.drop x.1)) (λx=>e.l.length - x.1) (0,left - 1) ⟨by omega,by omega,by omega,heq⟩ λ⟨k,cur⟩ ⟨hk,hc0,hc1,hi⟩=>?_;dsimp only[Ac,Ae]at *;rcases Ai k e.l.length with hk2|hk2
   ·rw[Bk hk2,qb2]at hi;have hone:=hl e.l[k] (Ao _) (inside+1) cur (by omega) (by omega) hc0 hc1;have hle1:=hle e.l[k] (inside+1) cur
    (repeat' first|refine yyp ?_;try refine Ce ?_ ?_<;>intro hb|refine yy ?_|refine yy2 ?_ ?_<;>intro hcmp|apply Cf 39;refine Ci (hc:=hone) ?_|apply ah;refine Cc Wq ?_|refine Cb λK hK=>?_|apply_assumption -exfalso -symm)
    ·(refine j1 (j7 ?_))
     rw[hi,Ad hcmp];rfl
    ·refine⟨(k+1,Ig (inside+1) cur e.l[k]),⟨by dsimp only;omega,by dsimp only;omega,by dsimp only;omega,?_⟩,by dsimp only;omega,v6⟩;rw[hi,Af hcmp]
   ·rw[Bq hk2,Io]at hi
    (repeat' first|refine yyp ?_;try refine Ce ?_ ?_<;>intro hb|refine yy ?_|apply ah;refine Cc Wq ?_|refine Cb λK hK=>?_|apply_assumption -exfalso -symm)
    (refine j1 (j7 ?_))
    rw[hi];rfl
  ·(refine j1 (j7 ?_))
   rw[heq,Ad (.inr (.inr hb))];rfl
theorem jf9 (e:Ex):FnD prog gl 16 [.d (dEx e)] (λv=>v=.d (.bool (Gd e))):=by
 have h:=qo4 gl _ e 0 256 (Ap _) (by omega) (by omega) (by omega) (by omega);have hm:=Vz e;simp only[r8]at h ⊢
 (refine j4 func16 ntmps16 results16 λw M=>?_)
 (repeat' first|apply Ca 1;(refine Ck 1 ?_)|refine yyp ?_;try refine Ce ?_ ?_<;>intro hb|refine yy ?_|refine yy2 ?_ ?_<;>intro hcmp|apply Cf 39;refine Ci (hc:=h) ?_|apply ah;refine Cc [0,1,2,3,4,5] ?_|refine Cb λK hK=>?_|apply_assumption -exfalso -symm)
 all_goals
  (refine j1 (j7 ?_))
  simp only[aF,At,Am];cases hb:Gd e with
  |true=>first|rfl|(exfalso;have:=hm.1 hb;omega)
  |false=>first|rfl|(exfalso;rw[hb]at hm;have:=hm.2 (by omega);cases this)
end
section
def Ve:List Nat:=[0,1,2,3,4,5,6]
def Pf:List Nat:=[0,1,2,6,7,8,17,21,29]
def qo5:List Nat:=[6,7,18,19,20,21,22,23,24,25,26,27,28,29]
theorem jd1 (x y:Ex):FnD prog gl 154 [.d (dEx x),.d (dEx y)] (λv=>v=.d (.bool (eqB x y))):=mm9 gl _ x y (Ap _)
theorem vq8:dEx ex0=.agg [.int .u8 0,.int .u8 0,.int .u8 0,.int .i32 0,.str ⟨#[]⟩,.list 6 []]:=by
 rw[r8];rfl
attribute [local irreducible] TR TC
theorem kl4 (e:Ex):FnD prog gl 153 [.d (dEx e)] (λv=>v=.d (.bool (Ip e))):=by
 have h:=jd1 gl e ex0;unfold Ip;rw[vq8]at h;simp only[r8]at h ⊢
 (refine j4 func153 ntmps153 results153 λw M=>?_)
 (repeat' first|apply Ca 1;(refine Ck 1 ?_)|refine yyp ?_;try refine Ce ?_ ?_<;>intro hb|refine yy ?_|apply Cf 154;refine Ci (hc:=h) ?_;try refine Ce ?_ ?_<;>intro hb|apply ah;refine Cc [0,1,2,3,4,5] ?_|refine Cb λK hK=>?_|apply_assumption -exfalso -symm)
 all_goals
  (refine j1 (j7 ?_))
  simp only[aF, *]
theorem x3 (e:Ex):FnD prog gl 110 [.d (dEx e)] (λv=>v=.d (.bool (Ga e))):=by
 have h:=jf9 gl e;unfold Ga;simp only[r8]at h ⊢
 (refine j4 func110 ntmps110 results110 λw M=>?_)
 (repeat' first|apply Ca 1;(refine Ck 1 ?_)|refine yyp ?_;try refine Ce ?_ ?_<;>intro hb|refine yy ?_|refine yy2 ?_ ?_<;>intro hcmp|apply Cf 16;refine Ci (hc:=h) ?_;try refine Ce ?_ ?_<;>intro hb|apply ah;refine Cc Ve ?_|refine Cb λK hK=>?_|apply_assumption -exfalso -symm)
 all_goals
  (refine j1 (j7 ?_))
  simp only[aF, *,decide_true,decide_false,Ef,Eh,Ec,Bf,As]
  try rfl
theorem ks8 (t:Ty):FnD prog gl 149 [.d (dTy t)] (λv=>v=.d (.bool (Qe t))):=by
 have h:=ka4 gl t;have h2:=jv9 gl t.kind
 (refine j4 func149 ntmps149 results149 λw M=>?_)
 (repeat' first|apply Ca 1;(refine Ck 1 ?_)|refine yyp ?_;try refine Ce ?_ ?_<;>intro hb|refine yy ?_|refine yy2 ?_ ?_<;>intro hcmp|apply Cf 147;refine Ci (hc:=h) ?_;try refine Ce ?_ ?_<;>intro hb|apply Cf 187;refine Ci (hc:=h2) ?_;try refine Ce ?_ ?_<;>intro hb|apply ah;refine Cc Ve ?_|refine Cb λK hK=>?_|apply_assumption -exfalso -symm)
 all_goals
  (refine j1 (j7 ?_))
  simp only[aF,At,Am,Qe]
  (repeat (rename (∀ S,TC _ _ _ S->_)=>hX;clear hX))
  clear h h2
  grind
theorem mo7 (f:Fo):FnD prog gl 151 [.d (dFo f)] (λv=>v=.d (.bool (Lr f))):=by
 have h:=ka4 gl f.type;have h2:=ks8 gl f.type
 (refine j4 func151 ntmps151 results151 λw M=>?_)
 (repeat' first|apply Ca 1;(refine Ck 1 ?_)|refine yyp ?_;try refine Ce ?_ ?_<;>intro hb|refine yy ?_|apply Cf 112;refine Ci (hc:=(x7 gl f.name)) ?_;try refine Ce ?_ ?_<;>intro hb|apply Cf 147;refine Ci (hc:=h) ?_;try refine Ce ?_ ?_<;>intro hb|apply Cf 149;refine Ci (hc:=h2) ?_;try refine Ce ?_ ?_<;>intro hb|apply ah;refine Cc Ve ?_|refine Cb λK hK=>?_|apply_assumption -exfalso -symm)
 all_goals
  (refine j1 (j7 ?_))
  simp only[aF,At,Am,Lr]
  (repeat (rename (∀ S,TC _ _ _ S->_)=>hX;clear hX))
  clear h h2
  grind
theorem rg7 (r:Rp):FnD prog gl 114 [.d (dRp r)] (λv=>v=.d (.bool (Hw r))):=by
 have h1:=kl4 gl r.base;have h2:=kl4 gl r.count;have h3:=jf9 gl r.base;have h4:=jf9 gl r.count;simp only[r8]at h1 h2 h3 h4
 (refine j4 func114 ntmps114 results114 λw M=>?_)
 (repeat' first|apply Ca 1;(refine Ck 1 ?_)|refine yyp ?_;try refine Ce ?_ ?_<;>intro hb|refine yy ?_|refine yy2 ?_ ?_<;>intro hcmp|apply Cf 153;refine Ci (hc:=(by first|exact h1|exact h2)) ?_;try refine Ce ?_ ?_<;>intro hb|apply Cf 112;refine Ci (hc:=(x7 gl r.name)) ?_;try refine Ce ?_ ?_<;>intro hb|apply Cf 16;refine Ci (hc:=(by first|exact h3|exact h4)) ?_;try refine Ce ?_ ?_<;>intro hb|apply ah;refine Cc Ve ?_|refine Cb λK hK=>?_|apply_assumption -exfalso -symm)
 all_goals
  (refine j1 (j7 ?_))
  simp only[aF,At,Am,Hw]
  (repeat (rename (∀ S,TC _ _ _ S->_)=>hX;clear hX))
  clear h1 h2 h3 h4;simp only[jf5]at *
  grind
theorem v8 (l:List Ex)(a b:Int):FnD prog gl 108 [.d (.list 6 (l.map (λx=>dEx (x)))),.d (.int .i64 a),.d (.int .i64 b)] (λv=>v=.d (.bool (Cq l a b Ga))):=by
 have hall:∀ x:Ex,FnD prog gl 110 [.d (dEx (x))] (λv=>v=.d (.bool (Ga x))):=λx=>x3 gl x;simp only[r8]at hall ⊢
 (refine j4 func108 ntmps108 results108 λw M=>?_)
 refine k7 0 rfl λhn=>?_;simp only[Ab]at hn
 (repeat' first|refine yyp ?_;try refine Ce ?_ ?_<;>intro hb|refine yy ?_|refine yy2 ?_ ?_<;>intro hcmp|apply ah;refine Cc Pf ?_|refine Cb λK hK=>?_|apply_assumption -exfalso -symm)
 ·(refine j1 (j7 ?_))
  simp only[aF,Cq,Lx.hasB,Bl (by omega:¬a<=(l.length:Int)),As]
 ·(refine j1 (j7 ?_))
  simp only[aF,Cq,Lx.hasB,Bl (by omega:¬(l.length:Int)<=b),As,Be]
 have hd:Lx.hasB a b l.length=true:=by
  unfold Lx.hasB;rw[Bm (by omega),Bm (by omega)];rfl
 refine k9 qo5 [] (λk:Nat=>[(7,.d (.int .i64 k))]) (λ_=>[]) (λk=>k<=l.length/\l.all Ga=(l.drop k).all Ga) (λk=>l.length - k) 0 ⟨by omega,rfl⟩ λk ⟨hk,hi⟩=>?_;dsimp only[Ac,Ae];rcases Ai k l.length with hk2|hk2
 ·rw[Bk hk2,Ei]at hi;have hone:=hall l[k]
  (repeat' first|refine yyp ?_;try refine Ce ?_ ?_<;>intro hb|refine yy ?_|apply Cf 110;refine Ci (hc:=hone) ?_;try refine Ce ?_ ?_<;>intro hb|apply ah;refine Cc Pf ?_|refine Cb λK hK=>?_|apply_assumption -exfalso -symm)
  ·refine⟨k+1,⟨by omega,?_⟩,by omega,v6⟩;rw[hi,hb];rfl
  ·(refine j1 (j7 ?_))
   rw[hb,As]at hi;simp only[aF,Cq,hi,Be]
 ·rw[Bq hk2]at hi
  (repeat' first|refine yyp ?_;try refine Ce ?_ ?_<;>intro hb|refine yy ?_|apply ah;refine Cc Pf ?_|refine Cb λK hK=>?_|apply_assumption -exfalso -symm)
  (refine j1 (j7 ?_))
  simp only[aF,Cq,hi,hd,List.all_nil,Bool.and_self]
theorem y5 (l:List Ex)(a b:Int):FnD prog gl 109 [.d (.list 6 (l.map (λx=>dEx (x)))),.d (.int .i64 a),.d (.int .i64 b)] (λv=>v=.d (.bool (Cq l a b Gd))):=by
 have hall:∀ x:Ex,FnD prog gl 16 [.d (dEx (x))] (λv=>v=.d (.bool (Gd x))):=λx=>jf9 gl x;simp only[r8]at hall ⊢
 (refine j4 func109 ntmps109 results109 λw M=>?_)
 refine k7 0 rfl λhn=>?_;simp only[Ab]at hn
 (repeat' first|refine yyp ?_;try refine Ce ?_ ?_<;>intro hb|refine yy ?_|refine yy2 ?_ ?_<;>intro hcmp|apply ah;refine Cc Pf ?_|refine Cb λK hK=>?_|apply_assumption -exfalso -symm)
 ·(refine j1 (j7 ?_))
  simp only[aF,Cq,Lx.hasB,Bl (by omega:¬a<=(l.length:Int)),As]
 ·(refine j1 (j7 ?_))
  simp only[aF,Cq,Lx.hasB,Bl (by omega:¬(l.length:Int)<=b),As,Be]
 have hd:Lx.hasB a b l.length=true:=by
  unfold Lx.hasB;rw[Bm (by omega),Bm (by omega)];rfl
 refine k9 qo5 [] (λk:Nat=>[(7,.d (.int .i64 k))]) (λ_=>[]) (λk=>k<=l.length/\l.all Gd=(l.drop k).all Gd) (λk=>l.length - k) 0 ⟨by omega,rfl⟩ λk ⟨hk,hi⟩=>?_;dsimp only[Ac,Ae];rcases Ai k l.length with hk2|hk2
 ·rw[Bk hk2,Ei]at hi;have hone:=hall l[k]
  (repeat' first|refine yyp ?_;try refine Ce ?_ ?_<;>intro hb|refine yy ?_|apply Cf 16;refine Ci (hc:=hone) ?_;try refine Ce ?_ ?_<;>intro hb|apply ah;refine Cc Pf ?_|refine Cb λK hK=>?_|apply_assumption -exfalso -symm)
  ·refine⟨k+1,⟨by omega,?_⟩,by omega,v6⟩;rw[hi,hb];rfl
  ·(refine j1 (j7 ?_))
   rw[hb,As]at hi;simp only[aF,Cq,hi,Be]
 ·rw[Bq hk2]at hi
  (repeat' first|refine yyp ?_;try refine Ce ?_ ?_<;>intro hb|refine yy ?_|apply ah;refine Cc Pf ?_|refine Cb λK hK=>?_|apply_assumption -exfalso -symm)
  (refine j1 (j7 ?_))
  simp only[aF,Cq,hi,hd,List.all_nil,Bool.and_self]
theorem ks9 (l:List ByteArray)(a b:Int):FnD prog gl 148 [.d (.list 1 (l.map (λx=>.str (x)))),.d (.int .i64 a),.d (.int .i64 b)] (λv=>v=.d (.bool (Cq l a b Cw))):=by
 have hall:∀ x:ByteArray,FnD prog gl 112 [.d (.str (x))] (λv=>v=.d (.bool (Cw x))):=λx=>x7 gl x
 (refine j4 func148 ntmps148 results148 λw M=>?_)
 refine k7 0 rfl λhn=>?_;simp only[Ab]at hn
 (repeat' first|refine yyp ?_;try refine Ce ?_ ?_<;>intro hb|refine yy ?_|refine yy2 ?_ ?_<;>intro hcmp|apply ah;refine Cc Pf ?_|refine Cb λK hK=>?_|apply_assumption -exfalso -symm)
 ·(refine j1 (j7 ?_))
  simp only[aF,Cq,Lx.hasB,Bl (by omega:¬a<=(l.length:Int)),As]
 ·(refine j1 (j7 ?_))
  simp only[aF,Cq,Lx.hasB,Bl (by omega:¬(l.length:Int)<=b),As,Be]
 have hd:Lx.hasB a b l.length=true:=by
  unfold Lx.hasB;rw[Bm (by omega),Bm (by omega)];rfl
 refine k9 qo5 [] (λk:Nat=>[(7,.d (.int .i64 k))]) (λ_=>[]) (λk=>k<=l.length/\l.all Cw=(l.drop k).all Cw) (λk=>l.length - k) 0 ⟨by omega,rfl⟩ λk ⟨hk,hi⟩=>?_;dsimp only[Ac,Ae];rcases Ai k l.length with hk2|hk2
 ·rw[Bk hk2,Ei]at hi;have hone:=hall l[k]
  (repeat' first|refine yyp ?_;try refine Ce ?_ ?_<;>intro hb|refine yy ?_|apply Cf 112;refine Ci (hc:=hone) ?_;try refine Ce ?_ ?_<;>intro hb|apply ah;refine Cc Pf ?_|refine Cb λK hK=>?_|apply_assumption -exfalso -symm)
  ·refine⟨k+1,⟨by omega,?_⟩,by omega,v6⟩;rw[hi,hb];rfl
  ·(refine j1 (j7 ?_))
   rw[hb,As]at hi;simp only[aF,Cq,hi,Be]
 ·rw[Bq hk2]at hi
  (repeat' first|refine yyp ?_;try refine Ce ?_ ?_<;>intro hb|refine yy ?_|apply ah;refine Cc Pf ?_|refine Cb λK hK=>?_|apply_assumption -exfalso -symm)
  (refine j1 (j7 ?_))
  simp only[aF,Cq,hi,hd,List.all_nil,Bool.and_self]
end
section
def Sj:List Nat:=[0,1,2,3,4,5,6,7,19,24,55]
def Qi:List Nat:=[0,1,2,3,4,5,6,7]
def mu8:Plan:=lin [0,8,24,32,5,12,16,21,29,36,40,45,48,52,56,64,80,88,61,68,72,77,85,92,96,101,106,108,112]
section
variable {E:Set}{S:Sd}{dst:Option Tmp}{ty:TypeId}{pos:String}{af:Array Edge}{gd:Option (Nat × Bool)}
theorem kt0 {xt yt:TypeId}{x y:Operand}{s t:Bool}[ht:TCell E.P xt](hu:E.P.underlying xt=some .bool)(hx:S.ev x=some (.d (.bool s)))(hy:S.ev y=some (.d (.bool t)))(hox:Cm x=true)(hoy:Cm y=true):
 aH E S ⟨dst,.binOp .neq xt x y yt,ty,pos,af,gd⟩ (.d (.bool (!(s == t)))):=aH.mk λβ a w h=>by
 have h1:a.eval x=.bool s:=h.ev hx hox;have h2:a.eval y=.bool t:=h.ev hy hoy;refine⟨.bool (!(s == t)),λw' _=>?_,rfl⟩;have he:(Op.equal xt (.bool s) (.bool t)).run E.P w'=.ok (s == t) w':=by
  unfold Op.equal;rw[show Op.maxDepth=9999+1 from rfl,Op.equalIn];simp only[Sem.run_bind,run_underlying hu,Result.andThen_ok,Sem.run_pure]
 have hb:(binOp .neq xt (.bool s) (.bool t)).run E.P w'=.ok (.bool (!(s == t))) w':=by
  show(do pure (Value.bool !(<-Op.equal xt (.bool s) (.bool t))):Sem Value).run E.P w'=_;simp only[Sem.run_bind,he,Result.andThen_ok,Sem.run_pure]
 simp[execOp,h1,h2,eqGuard,hb]
end
attribute [local irreducible] TR TC
theorem kp8 (x y:Pt):FnD prog gl 190 [.d (dPt x),.d (dPt y)] (λv=>v=.d (.bool (eqB x y))):=by
 have hxy:=vg3 (a:=x) (b:=y);obtain⟨xc,xl⟩:=x;obtain⟨yc,yl⟩:=y;dsimp only at hxy;dsimp only[dPt];by_cases hc:xc=yc/\xl.length=yl.length
 ·obtain⟨hc1,hlen⟩:=hc;subst hc1;have hle1:xl.length<=yl.length:=Nat.le_of_eq hlen;have hle2:yl.length<=xl.length:=Nat.le_of_eq hlen.symm;clear hlen;cases xc
  all_goals
   (refine j4 func190 ntmps190 results190 λw M=>?_)
   refine x4 0 1 rfl rfl λhna=>?_;refine x4 1 1 rfl rfl λhnb=>?_;simp only[Ab]at hna hnb
   (repeat' first|apply Ca 2;(refine Ck 2 ?_)|apply Ca 3;(refine Ck 3 ?_)|apply Ca 10;(refine z_p (kt0 (by kernel_rfl) rfl rfl rfl rfl) ?_)|apply Ca 11;(first|refine yyp ?_;try refine Ce ?_ ?_<;>intro hb|refine yy2 ?_ ?_<;>intro hcmp);all_goals try refine Dj true 11 19 Sj ?_|apply Ca 19;refine yyp ?_;try refine Ce ?_ ?_<;>intro hb|refine yyp ?_|refine yy ?_|apply ah;refine Cc Sj ?_|refine Cb λK hK=>?_|apply Cg 6;refine j0 [] mu8 ?_|apply_assumption -exfalso -symm)
   refine k9 [4,5,20,21,22,23,24,25,26,27,28,29,30,31,32,33,34,35,36,37,38,39,40,41,42,43,44,45,46,47,48,49,50,51,52,53,54,55] [] (λk:Nat=>[(5,.d (.int .i64 k))]) (λ_=>[]) (λk=>k<=xl.length/\xl.take k=yl.take k) (λk=>xl.length - k) 0 ⟨Ak _,rfl⟩ λk ⟨hk,hi⟩=>?_;dsimp only[Ac,Ae];rcases Ai k xl.length with hk2|hk2
   ·have hk3:k<yl.length:=by omega
    have hone:=mm6 gl xl[k].items yl[k].items;have hv:=vf9 (a:=xl[k]) (b:=yl[k])
    (repeat' first|refine yyp ?_;try refine Ce ?_ ?_<;>intro hb|refine yy ?_|refine yy2 ?_ ?_<;>intro hcmp|apply Cf 217;refine Ci (hc:=hone) ?_;try refine Ce ?_ ?_<;>intro hb|apply ah;refine Cc Sj ?_|refine Cb λK hK=>?_|apply Cg 6;refine j0 [] mu8 ?_|apply_assumption -exfalso -symm)
    all_goals (repeat (rename (∀ S,TC _ _ _ S->_)=>hX;clear hX))
    all_goals try simp only[Eb,ne_eq,Bz,Bool.not_eq_false']at *
    all_goals first
     |(refine⟨k+1,⟨by omega,x6 hk2 hk3 hi (hv.2 ⟨by assumption,j9.1 (by assumption)⟩)⟩,by omega,v6⟩)
     |((refine j1 (j7 ?_))
       simp only[aF,At,Am];refine(r9.2 λe=>?_).symm;have e2:=(hxy.1 e).2;refine y7 hk2 hk3 (λe3=>?_) e2;have e4:=hv.1 e3
       first
        |exact absurd e4.1 (by assumption)
        |exact absurd e4.2 (r9.1 (by assumption)))
   ·(repeat' first|refine yyp ?_;try refine Ce ?_ ?_<;>intro hb|refine yy ?_|apply ah;refine Cc Sj ?_|refine Cb λK hK=>?_|apply Cg 6;refine j0 [] mu8 ?_|apply_assumption -exfalso -symm)
    (refine j1 (j7 ?_))
    simp only[aF,At,Am];exact(j9.2 (hxy.2 ⟨rfl,x8 hk2 (by omega) hi⟩)).symm
 ·have hf:eqB (Pt.mk xc xl) (Pt.mk yc yl)=false:=r9.2 λe=>hc ⟨(hxy.1 e).1,by rw[(hxy.1 e).2]⟩;rw[hf];cases xc<;>cases yc
  all_goals (refine j4 func190 ntmps190 results190 λw M=>?_)
  all_goals refine x4 0 1 rfl rfl λhna=>?_
  all_goals refine x4 1 1 rfl rfl λhnb=>?_
  all_goals simp only[Ab]at hna hnb
  all_goals (repeat' first|apply Ca 2;(refine Ck 2 ?_)|apply Ca 3;(refine Ck 3 ?_)|apply Ca 10;(refine z_p (kt0 (by kernel_rfl) rfl rfl rfl rfl) ?_)|apply Ca 11;(first|refine yyp ?_;try refine Ce ?_ ?_<;>intro hb|refine yy2 ?_ ?_<;>intro hcmp);all_goals try refine Dj true 11 19 Sj ?_|apply Ca 19;refine yyp ?_;try refine Ce ?_ ?_<;>intro hb|refine yyp ?_|refine yy ?_|refine yy2 ?_ ?_<;>intro hcmp|apply ah;refine Cc Sj ?_|refine Cb λK hK=>?_|apply Cg 6;refine j0 [] mu8 ?_|apply_assumption -exfalso -symm)
  all_goals first
   |(exfalso;exact hc ⟨rfl,by omega⟩)
   |((refine j1 (j7 ?_))
     rfl)
theorem kl5 (x y:Gu)(h:∀ a∈x.body,∀ b,FnD prog gl 115 [.d (dPr a),.d (dPr b)] (λv=>v=.d (.bool (eqB a b)))):
 FnD prog gl 183 [.d (dGu x),.d (dGu y)] (λv=>v=.d (.bool (eqB x y))):=by
 have h1:=jd1 gl x.cond y.cond;have h2:=jd1 gl x.av y.av;have h3:=jd1 gl x.time y.time;have h4:=jm8 gl x.aj y.aj λa _ b=>jd1 gl a b;have h5:=jm8 gl x.values y.values λa _ b=>jd1 gl a b;have h6:=kh9 gl x.body y.body h;have e1:=vg6 (a:=x) (b:=y);clear h;simp only[r8]at h1 h2 h3;rw[jb7]
 (refine j4 func183 ntmps183 results183 λw M=>?_)
 (repeat' first|apply Ca 2;(refine Ck 2 ?_)|apply Ca 3;(refine Ck 3 ?_)|refine zas [10,17,24,31,38,45,52] ?_;(first|refine yyp ?_;try refine Ce ?_ ?_<;>intro hb|refine yy2 ?_ ?_<;>intro hcmp);all_goals try (first|refine Dj false 10 4 Qi ?_|refine Dj false 17 4 Qi ?_|refine Dj false 24 4 Qi ?_|refine Dj false 31 4 Qi ?_|refine Dj false 38 4 Qi ?_|refine Dj false 45 4 Qi ?_|refine Dj false 52 4 Qi ?_)|refine yyp ?_;try refine Ce ?_ ?_<;>intro hb|refine yy ?_|refine yy2 ?_ ?_<;>intro hcmp|apply Cf 154;refine Ci (hc:=(by first|exact h1|exact h2|exact h3)) ?_;try refine Ce ?_ ?_<;>intro hb|apply Cf 155;refine Ci (hc:=(by first|exact h4|exact h5)) ?_;try refine Ce ?_ ?_<;>intro hb|apply Cf 157;refine Ci (hc:=h6) ?_;try refine Ce ?_ ?_<;>intro hb|apply ah;refine Cc Qi ?_|refine Cb λK hK=>?_|apply_assumption -exfalso -symm)
 all_goals
  (refine j1 (j7 ?_))
  simp only[aF,At,Am]
  (repeat (rename (∀ S,TC _ _ _ S->_)=>hX;clear hX))
  clear h1 h2 h3 h4 h5 h6;symm;simp only[j9,r9,ne_eq]at *
  grind
end
section
def Nu:List Nat:=[0,1,2,3,4,5,6,7,26,31,44]
def Ma:List Nat:=[0,1,2,3,4,5,6,7,13,18,31]
def kd7:Plan:=lin [0,8,20,28,5,12,17,25,32,37,40]
attribute [local irreducible] TR TC
theorem kl6 (x y:Sp)(h:∀ a∈x.body,∀ b,FnD prog gl 115 [.d (dPr a),.d (dPr b)] (λv=>v=.d (.bool (eqB a b)))):
 FnD prog gl 152 [.d (dSp x),.d (dSp y)] (λv=>v=.d (.bool (eqB x y))):=by
 have h1:=mm5 gl x.names y.names;have h2:=jd1 gl x.e y.e;have h3:=kp8 gl x.aN y.aN;have h6:=kh9 gl x.body y.body h;have e1:=vg5 (a:=x) (b:=y);have e2:=vg2 (a:=x.type) (b:=y.type);clear h;simp only[r8]at h2;by_cases hc:x.kind=y.kind/\x.type=y.type/\x.ax.length=y.ax.length
 ·obtain⟨hc1,hc2,hlen⟩:=hc;have hle1:x.ax.length<=y.ax.length:=Nat.le_of_eq hlen;have hle2:y.ax.length<=x.ax.length:=Nat.le_of_eq hlen.symm;have hty:=e2.1 hc2;clear hlen e2
  (refine j4 func152 ntmps152 results152 λw M=>?_)
  refine x4 0 14 rfl rfl λhna=>?_;refine x4 1 14 rfl rfl λhnb=>?_;simp only[Ab]at hna hnb
  (repeat' first|apply Ca 2;(refine Ck 2 ?_)|apply Ca 3;(refine Ck 3 ?_)|refine zas [11,18] ?_;(first|refine yyp ?_;try refine Ce ?_ ?_<;>intro hb|refine yy2 ?_ ?_<;>intro hcmp);all_goals try (first|refine Dj true 11 26 Nu ?_|refine Dj true 18 26 Nu ?_)|refine yyp ?_;try refine Ce ?_ ?_<;>intro hb|refine yy ?_|refine yy2 ?_ ?_<;>intro hcmp|apply ah;refine Cc Nu ?_|refine Cb λK hK=>?_|apply Cg 6;refine j0 [] kd7 ?_|apply_assumption -exfalso -symm)
  all_goals first
   |(exfalso;omega)
   |(exfalso;exact absurd hty (by assumption))
   |(exfalso;simp_all;done)
   |skip
  refine k9 [4,5,27,28,29,30,31,32,33,34,35,36,37,38,39,40,41,42,43,44] [] (λk:Nat=>[(5,.d (.int .i64 k))]) (λ_=>[]) (λk=>k<=x.ax.length/\x.ax.take k=y.ax.take k) (λk=>x.ax.length - k) 0 ⟨Ak _,rfl⟩ λk ⟨hk,hi⟩=>?_;dsimp only[Ac,Ae];rcases Ai k x.ax.length with hk2|hk2
  ·have hk3:k<y.ax.length:=by omega
   have hv:=qh3 (a:=x.ax[k]) (b:=y.ax[k])
   (repeat' first|refine yyp ?_;try refine Ce ?_ ?_<;>intro hb|refine yy ?_|refine yy2 ?_ ?_<;>intro hcmp|apply ah;refine Cc Nu ?_|refine Cb λK hK=>?_|apply Cg 6;refine j0 [] kd7 ?_|apply_assumption -exfalso -symm)
   all_goals first
    |(refine⟨k+1,⟨by omega,x6 hk2 hk3 hi (hv.2 (by assumption))⟩,by omega,v6⟩)
    |((refine j1 (j7 ?_))
      simp only[aF,At,Am];refine(r9.2 λe=>?_).symm;have e3:=(e1.1 e).2.2.2.2.2.1;refine y7 hk2 hk3 (λe4=>?_) e3;exact absurd (hv.1 e4) (by assumption))
  ·have hfo:=x8 hk2 (by omega) hi
   (repeat' first|refine zas [50,57,64] ?_;(first|refine yyp ?_;try refine Ce ?_ ?_<;>intro hb|refine yy2 ?_ ?_<;>intro hcmp);all_goals try (first|refine Dj false 50 4 Nu ?_|refine Dj false 57 4 Nu ?_|refine Dj false 64 4 Nu ?_)|refine yyp ?_;try refine Ce ?_ ?_<;>intro hb|refine yy ?_|apply Cf 189;refine Ci (hc:=h1) ?_;try refine Ce ?_ ?_<;>intro hb|apply Cf 154;refine Ci (hc:=h2) ?_;try refine Ce ?_ ?_<;>intro hb|apply Cf 190;refine Ci (hc:=h3) ?_;try refine Ce ?_ ?_<;>intro hb|apply Cf 157;refine Ci (hc:=h6) ?_;try refine Ce ?_ ?_<;>intro hb|apply ah;refine Cc Nu ?_|refine Cb λK hK=>?_|apply Cg 6;refine j0 [] kd7 ?_|apply_assumption -exfalso -symm)
   all_goals
    (refine j1 (j7 ?_))
    simp only[aF,At,Am]
    (repeat (rename (∀ S,TC _ _ _ S->_)=>hX;clear hX))
    clear h1 h2 h3 h6 hi hty;symm;simp only[j9,r9,ne_eq]at *
    grind
 ·have hf:eqB x y=false:=r9.2 λe=>hc ⟨(e1.1 e).1,(e1.1 e).2.1,by rw[(e1.1 e).2.2.2.2.2.1]⟩;rw[hf]
  (refine j4 func152 ntmps152 results152 λw M=>?_)
  refine x4 0 14 rfl rfl λhna=>?_;refine x4 1 14 rfl rfl λhnb=>?_;simp only[Ab]at hna hnb
  (repeat' first|apply Ca 2;(refine Ck 2 ?_)|apply Ca 3;(refine Ck 3 ?_)|refine zas [11,18] ?_;(first|refine yyp ?_;try refine Ce ?_ ?_<;>intro hb|refine yy2 ?_ ?_<;>intro hcmp);all_goals try (first|refine Dj true 11 26 Nu ?_|refine Dj true 18 26 Nu ?_)|refine yyp ?_;try refine Ce ?_ ?_<;>intro hb|refine yy ?_|refine yy2 ?_ ?_<;>intro hcmp|apply ah;refine Cc Nu ?_|refine Cb λK hK=>?_|apply Cg 6;refine j0 [] kd7 ?_|apply_assumption -exfalso -symm)
  all_goals first
   |((refine j1 (j7 ?_))
     rfl)
   |(exfalso;refine hc ⟨by omega,e2.2 (by assumption),by omega⟩)
   |(exfalso;(repeat (rename (∀ S,TC _ _ _ S->_)=>hX;clear hX));simp_all;done)
theorem qb3 (x y:Pr)(hl:∀ a∈x.l,∀ b,FnD prog gl 115 [.d (dPr a),.d (dPr b)] (λv=>v=.d (.bool (eqB a b))))
 (hg:∀ g∈x.ak,∀ a∈g.body,∀ b,FnD prog gl 115 [.d (dPr a),.d (dPr b)] (λv=>v=.d (.bool (eqB a b))))
 (hb':∀ a∈x.spec.body,∀ b,FnD prog gl 115 [.d (dPr a),.d (dPr b)] (λv=>v=.d (.bool (eqB a b)))):
 FnD prog gl 115 [.d (dPr x),.d (dPr y)] (λv=>v=.d (.bool (eqB x y))):=by
 have h1:=jd1 gl x.av y.av;have h2:=jd1 gl x.rep.base y.rep.base;have h3:=jd1 gl x.rep.count y.rep.count;have h4:=jm8 gl x.aj y.aj λa _ b=>jd1 gl a b;have h5:=jm8 gl x.au y.au λa _ b=>jd1 gl a b;have h6:=kh9 gl x.l y.l hl;have h7:=me1 gl x.ak y.ak λg hm k=>kl5 gl g k (hg g hm);have h8:=kl6 gl x.spec y.spec hb';have e1:=vg7 (a:=x) (b:=y);have e2:=vg4 (a:=x.rep) (b:=y.rep);clear hl hg hb';simp only[r8]at h1 h2 h3;rw[v7];by_cases hlen:x.ay.length=y.ay.length
 ·have hle1:x.ay.length<=y.ay.length:=Nat.le_of_eq hlen;have hle2:y.ay.length<=x.ay.length:=Nat.le_of_eq hlen.symm;clear hlen
  (refine j4 func115 ntmps115 results115 λw M=>?_)
  refine x4 0 25 rfl rfl λhna=>?_;refine x4 1 25 rfl rfl λhnb=>?_;simp only[Ab]at hna hnb
  (repeat' first|apply Ca 2;(refine Ck 2 ?_)|apply Ca 3;(refine Ck 3 ?_)|refine yyp ?_;try refine Ce ?_ ?_<;>intro hb|refine yy ?_|apply ah;refine Cc Ma ?_|refine Cb λK hK=>?_|apply Cg 6;refine j0 [] kd7 ?_|apply_assumption -exfalso -symm)
  refine k9 [4,5,14,15,16,17,18,19,20,21,22,23,24,25,26,27,28,29,30,31] [] (λk:Nat=>[(5,.d (.int .i64 k))]) (λ_=>[]) (λk=>k<=x.ay.length/\x.ay.take k=y.ay.take k) (λk=>x.ay.length - k) 0 ⟨Ak _,rfl⟩ λk ⟨hk,hi⟩=>?_;dsimp only[Ac,Ae];rcases Ai k x.ay.length with hk2|hk2
  ·have hk3:k<y.ay.length:=by omega
   (repeat' first|refine yyp ?_;try refine Ce ?_ ?_<;>intro hb|refine yy ?_|refine yy2 ?_ ?_<;>intro hcmp|apply ah;refine Cc Ma ?_|refine Cb λK hK=>?_|apply Cg 6;refine j0 [] kd7 ?_|apply_assumption -exfalso -symm)
   all_goals try simp only[Eb,ne_eq]at hcmp
   all_goals first
    |(refine⟨k+1,⟨by omega,x6 hk2 hk3 hi hcmp⟩,by omega,v6⟩)
    |((refine j1 (j7 ?_))
      simp only[aF,At,Am];refine(r9.2 λe=>?_).symm;exact y7 hk2 hk3 (by assumption) (e1.1 e).2.2.2.2.2.2.2.2.1)
  ·have hfo:=x8 hk2 (by omega) hi
   (repeat' first|refine zas [39,48,62,69,72,79,86,93,100,107] ?_;(first|refine yyp ?_;try refine Ce ?_ ?_<;>intro hb|refine yy2 ?_ ?_<;>intro hcmp);all_goals try (first|refine Dj false 39 6 Ma ?_|refine Dj false 48 6 Ma ?_|refine Dj false 62 4 Ma ?_|refine Dj false 69 4 Ma ?_|refine Dj false 72 4 Ma ?_|refine Dj false 79 4 Ma ?_|refine Dj false 86 4 Ma ?_|refine Dj false 93 4 Ma ?_|refine Dj false 100 4 Ma ?_|refine Dj false 107 4 Ma ?_)|refine yyp ?_;try refine Ce ?_ ?_<;>intro hb|refine yy ?_|refine yy2 ?_ ?_<;>intro hcmp|apply Cf 154;refine Ci (hc:=(by first|exact h1|exact h2|exact h3)) ?_;try refine Ce ?_ ?_<;>intro hb|apply Cf 155;refine Ci (hc:=(by first|exact h4|exact h5)) ?_;try refine Ce ?_ ?_<;>intro hb|apply Cf 156;refine Ci (hc:=h7) ?_;try refine Ce ?_ ?_<;>intro hb|apply Cf 157;refine Ci (hc:=h6) ?_;try refine Ce ?_ ?_<;>intro hb|apply Cf 152;refine Ci (hc:=h8) ?_;try refine Ce ?_ ?_<;>intro hb|apply ah;refine Cc Ma ?_|refine Cb λK hK=>?_|apply Cg 6;refine j0 [] kd7 ?_|apply_assumption -exfalso -symm)
   all_goals
    (refine j1 (j7 ?_))
    simp only[aF,At,Am]
    (repeat (rename (∀ S,TC _ _ _ S->_)=>hX;clear hX))
    clear h1 h2 h3 h4 h5 h6 h7 h8 hi;symm;simp only[j9,r9,ne_eq]at *
    grind
 ·have hf:eqB x y=false:=r9.2 λe=>hlen (by rw[(e1.1 e).2.2.2.2.2.2.2.2.1]);rw[hf]
  (refine j4 func115 ntmps115 results115 λw M=>?_)
  refine x4 0 25 rfl rfl λhna=>?_;refine x4 1 25 rfl rfl λhnb=>?_;simp only[Ab]at hna hnb
  (repeat' first|apply Ca 2;(refine Ck 2 ?_)|apply Ca 3;(refine Ck 3 ?_)|refine yyp ?_;try refine Ce ?_ ?_<;>intro hb|refine yy ?_|apply ah;refine Cc Ma ?_|refine Cb λK hK=>?_|apply Cg 6;refine j0 [] kd7 ?_|apply_assumption -exfalso -symm)
  all_goals first
   |((refine j1 (j7 ?_))
     rfl)
   |(exfalso;exact hlen (by omega))
theorem qo6:∀ (m:Nat) (x y:Pr),SizeOf.sizeOf x<=m->FnD prog gl 115 [.d (dPr x),.d (dPr y)] (λv=>v=.d (.bool (eqB x y))):=by
 intro m
 induction m with
 |zero=>intro x y h;cases x;simp only[Pr.mk.sizeOf_spec]at h;omega
 |succ m ih=>
  intro x y hm;exact qb3 gl x y (λa ha b=>ih a b (by have:=ru4 ha;omega)) (λg hg a ha b=>ih a b (by have:=ru5 hg ha;omega)) λa ha b=>ih a b (by have:=ru6 ha;omega)
theorem ky5 (x y:Pr):FnD prog gl 115 [.d (dPr x),.d (dPr y)] (λv=>v=.d (.bool (eqB x y))):=qo6 gl _ x y (Ap _)
theorem kf6 (x y:Sp):FnD prog gl 152 [.d (dSp x),.d (dSp y)] (λv=>v=.d (.bool (eqB x y))):=kl6 gl x y λa _ b=>ky5 gl a b
theorem jr6 (x y:Gu):FnD prog gl 183 [.d (dGu x),.d (dGu y)] (λv=>v=.d (.bool (eqB x y))):=kl5 gl x y λa _ b=>ky5 gl a b
end
end Go.Proofs.YtklklgfpkpglgaaGreatDoor
