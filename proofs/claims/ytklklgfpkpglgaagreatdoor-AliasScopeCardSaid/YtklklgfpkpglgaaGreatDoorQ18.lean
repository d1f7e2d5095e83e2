/- Parts. -/
import Derived.Test.YtklklgfpkpglgaaGreatDoorQ17
import Derived.Maps.RangeRun
import Derived.LoopNIn
import Derived.Laws.CopyRow
import Derived.Scope
set_option linter.all false
set_option maxRecDepth 100000
set_option maxHeartbeats 0
namespace Go.Proofs.YtklklgfpkpglgaaGreatDoor
open Go.RowKit Go.Proofs.Tryz Lx
variable (gl:List (Nat × List D))
section
def Qg:List Nat:=[0,1,2,3,4,5,6,7,47,50,51,52,65]
def Qh:List Nat:=[0,1,2,3,4,5,6,7,47,52,66]
def kr0:Plan:=lin [0,8,20,28,5,12,17,25,32,37,42,44]
attribute [local irreducible] TR TC
theorem qi6:∀ (m:Nat) (x y:Ex),exN x<=m->FnD prog gl 165 [.d (dEx x),.d (dEx y)] (λv=>v=.d (.bool (eqB x y))):=by
 intro m
 induction m with
 |zero=>intro x y h;have:=jo4 x;omega
 |succ m ih=>
  intro x y hm;rw[my7]at hm;have hl:∀ z∈x.l,∀ y,FnD prog gl 165 [.d (dEx z),.d (dEx y)] (λv=>v=.d (.bool (eqB z y))):=λz hz y=>ih z y (by have:=jh8 hz;omega);have hxy:=vf8 (a:=x) (b:=y);clear ih hm;simp only[r8]at hl ⊢;rw[kq7 x,kq7 y]
  (refine j4 func165 ntmps165 results165 λw M=>?_)
  refine x4 0 5 rfl rfl λhna=>?_;refine x4 1 5 rfl rfl λhnb=>?_;simp only[Ab]at hna hnb
  (repeat' first|apply Ca 2;(refine Ck 2 ?_)|apply Ca 3;(refine Ck 3 ?_)|refine zas [11,18,25,32,39] ?_;(first|refine yyp ?_;try refine Ce ?_ ?_<;>intro hb|refine yy2 ?_ ?_<;>intro hcmp);all_goals try (first|refine Dj true 11 47 Qg ?_|refine Dj true 18 47 Qg ?_|refine Dj true 25 47 Qg ?_|refine Dj true 32 47 Qg ?_|refine Dj true 39 47 Qg ?_)|refine yyp ?_;try refine Ce ?_ ?_<;>intro hb|refine yy ?_|refine yy2 ?_ ?_<;>intro hcmp|apply ah;refine Cc Qg ?_|refine Cb λK hK=>?_|apply Cg 6;refine j0 [] kr0 ?_|apply_assumption -exfalso -symm)
  iterate 5
   focus
    (refine j1 (j7 ?_))
    have hne:¬x=y:=by
     (repeat (rename (∀ S,TC _ _ _ S->_)=>hX;clear hX))
     clear hl
     grind
    rw[r9.2 hne];rfl
  rotate_left
  iterate 1
   focus
    (refine j1 (j7 ?_))
    have hne:¬x=y:=by
     (repeat (rename (∀ S,TC _ _ _ S->_)=>hX;clear hX))
     clear hl
     grind
    rw[r9.2 hne];rfl
  have hlen:x.l.length=y.l.length:=by omega
  have hfl:x=y↔x.l=y.l:=by
   (repeat (rename (∀ S,TC _ _ _ S->_)=>hX;clear hX))
   clear hl
   grind
  refine k9 [4,5,51,52,53,54,55,56,57,58,59,60,61,62,63,64,65,66] [] (λk:Nat=>[(51,.d (.int .i64 k))]) (λ_=>[]) (λk=>k<=x.l.length/\x.l.take k=y.l.take k) (λk=>x.l.length - k) 0 ⟨Ak _,rfl⟩ λk ⟨hk,hi⟩=>?_;dsimp only[Ac,Ae];rcases Ai k x.l.length with hk2|hk2
  ·have hk3:k<y.l.length:=by omega
   have hone:=hl x.l[k] (Ao _) y.l[k]
   (repeat' first|refine yyp ?_;try refine Ce ?_ ?_<;>intro hb|refine yy ?_|apply Cf 165;refine Ci (hc:=hone) ?_;try refine Ce ?_ ?_<;>intro hb|apply ah;refine Cc Qg ?_|refine Cb λK hK=>?_|apply Cg 6;refine j0 [] kr0 ?_|apply_assumption -exfalso -symm)
   ·refine⟨k+1,⟨by omega,x6 hk2 hk3 hi (j9.1 hb)⟩,by omega,v6⟩
   ·(refine j1 (j7 ?_))
    have hne:¬x=y:=λe=>y7 hk2 hk3 (r9.1 hb) (hfl.1 e);rw[r9.2 hne];rfl
  ·(repeat' first|refine yyp ?_;try refine Ce ?_ ?_<;>intro hb|refine yy ?_|apply ah;refine Cc Qg ?_|refine Cb λK hK=>?_|apply Cg 6;refine j0 [] kr0 ?_|apply_assumption -exfalso -symm)
   (refine j1 (j7 ?_))
   rw[j9.2 (hfl.2 (x8 hk2 (by omega) hi))];rfl
theorem mm9:∀ (m:Nat) (x y:Ex),exN x<=m->FnD prog gl 154 [.d (dEx x),.d (dEx y)] (λv=>v=.d (.bool (eqB x y))):=by
 intro m
 induction m with
 |zero=>intro x y h;have:=jo4 x;omega
 |succ m ih=>
  intro x y hm;rw[my7]at hm;have hl:∀ z∈x.l,∀ y,FnD prog gl 154 [.d (dEx z),.d (dEx y)] (λv=>v=.d (.bool (eqB z y))):=λz hz y=>ih z y (by have:=jh8 hz;omega);have hxy:=vf8 (a:=x) (b:=y);clear ih hm;simp only[r8]at hl ⊢;rw[kq7 x,kq7 y]
  (refine j4 func154 ntmps154 results154 λw M=>?_)
  refine x4 0 5 rfl rfl λhna=>?_;refine x4 1 5 rfl rfl λhnb=>?_;simp only[Ab]at hna hnb
  (repeat' first|apply Ca 2;(refine Ck 2 ?_)|apply Ca 3;(refine Ck 3 ?_)|refine zas [11,18,25,32,39] ?_;(first|refine yyp ?_;try refine Ce ?_ ?_<;>intro hb|refine yy2 ?_ ?_<;>intro hcmp);all_goals try (first|refine Dj true 11 47 Qh ?_|refine Dj true 18 47 Qh ?_|refine Dj true 25 47 Qh ?_|refine Dj true 32 47 Qh ?_|refine Dj true 39 47 Qh ?_)|refine yyp ?_;try refine Ce ?_ ?_<;>intro hb|refine yy ?_|refine yy2 ?_ ?_<;>intro hcmp|apply ah;refine Cc Qh ?_|refine Cb λK hK=>?_|apply Cg 6;refine j0 [] kr0 ?_|apply_assumption -exfalso -symm)
  iterate 5
   focus
    (refine j1 (j7 ?_))
    have hne:¬x=y:=by
     (repeat (rename (∀ S,TC _ _ _ S->_)=>hX;clear hX))
     clear hl
     grind
    rw[r9.2 hne];rfl
  rotate_left
  iterate 1
   focus
    (refine j1 (j7 ?_))
    have hne:¬x=y:=by
     (repeat (rename (∀ S,TC _ _ _ S->_)=>hX;clear hX))
     clear hl
     grind
    rw[r9.2 hne];rfl
  have hlen:x.l.length=y.l.length:=by omega
  have hfl:x=y↔x.l=y.l:=by
   (repeat (rename (∀ S,TC _ _ _ S->_)=>hX;clear hX))
   clear hl
   grind
  refine k9 [4,5,48,49,50,51,52,53,54,55,56,57,58,59,60,61,62,63,64,65,66] [] (λk:Nat=>[(5,.d (.int .i64 k))]) (λ_=>[]) (λk=>k<=x.l.length/\x.l.take k=y.l.take k) (λk=>x.l.length - k) 0 ⟨Ak _,rfl⟩ λk ⟨hk,hi⟩=>?_;dsimp only[Ac,Ae];rcases Ai k x.l.length with hk2|hk2
  ·have hk3:k<y.l.length:=by omega
   have hone:=hl x.l[k] (Ao _) y.l[k]
   (repeat' first|refine yyp ?_;try refine Ce ?_ ?_<;>intro hb|refine yy ?_|apply Cf 154;refine Ci (hc:=hone) ?_;try refine Ce ?_ ?_<;>intro hb|apply ah;refine Cc Qh ?_|refine Cb λK hK=>?_|apply Cg 6;refine j0 [] kr0 ?_|apply_assumption -exfalso -symm)
   ·refine⟨k+1,⟨by omega,x6 hk2 hk3 hi (j9.1 hb)⟩,by omega,v6⟩
   ·(refine j1 (j7 ?_))
    have hne:¬x=y:=λe=>y7 hk2 hk3 (r9.1 hb) (hfl.1 e);rw[r9.2 hne];rfl
  ·(repeat' first|refine yyp ?_;try refine Ce ?_ ?_<;>intro hb|refine yy ?_|apply ah;refine Cc Qh ?_|refine Cb λK hK=>?_|apply Cg 6;refine j0 [] kr0 ?_|apply_assumption -exfalso -symm)
   (refine j1 (j7 ?_))
   rw[j9.2 (hfl.2 (x8 hk2 (by omega) hi))];rfl
end
section
variable {mm:Int}
attribute [local irreducible] TR TC
theorem rc5 (k:Int):FnD prog gl 195 [.d (.int .u8 k)] (λv=>v=.d (.str (Ld k).1)):=by
 (refine j4 func195 ntmps195 results195 λw M=>?_)
 (repeat' first|refine yyp ?_;try refine Ce ?_ ?_<;>intro hb|refine yy ?_|refine yy2 ?_ ?_<;>intro hcmp|apply ah;refine Cc [0,2,3,4,5,6,8] ?_|refine Cb λK hK=>?_|apply_assumption -exfalso -symm)
 all_goals
  (refine j1 (j7 ?_))
  simp only[aF,Ld, *,if_true,if_false]
  try rfl
theorem kw1 (k:Int):(Ld k).1=⟨#[]⟩↔Lx.prim k=false:=by
 unfold Ld Lx.prim;by_cases h1:k=1
 ·simp[h1]
 ·by_cases h2:k=2
  ·simp[h2]
  ·by_cases h3:k=3
   ·simp[h3]
   ·simp[h1,h2,h3,jf5]
theorem vu9 (n:Int):n.fdiv (2 ^ min (Int.toNat 8) IntKind.i32.bits)=0↔(0<=n/\n<=255):=by
 have:(2 ^ min (Int.toNat 8) IntKind.i32.bits:Int)=256:=by decide
 rw[this,Int.fdiv_eq_ediv_of_nonneg _ (by omega)];omega
theorem vv0 (n:Int):n.fdiv (2 ^ min (Int.toNat 1) IntKind.i32.bits)=0↔(0<=n/\n<=1):=by
 have:(2 ^ min (Int.toNat 1) IntKind.i32.bits:Int)=2:=by decide
 rw[this,Int.fdiv_eq_ediv_of_nonneg _ (by omega)];omega
theorem rc6 (e:Ex):0<=e.op/\e.op<=255:=by
 cases e with|mk k o t n s l=>
 have:=o.toNat_lt;simp only[Ex.op];omega
theorem Rn (e:Ex):FnD prog (glS mm) 169 [.d (dE e)] (λv=>v=.tup [.d (.int .i64 (Jf e.kind e.op e.ty e.n e.s).1),.d (.bool (Jf e.kind e.op e.ty e.n e.s).2)]):=by
 obtain⟨ho1,ho2⟩:=rc6 e;have hp:=rc5 (glS mm) e.ty;have htw:=kw1 e.ty;have h8:=vu9 e.n;have h1:=vv0 e.n
 (refine j4 func169 ntmps169 results169 λw M=>?_)
 (repeat' first|apply Ca 1;(refine Ck 1 ?_)|apply Ca 4;(refine j2 4 ?_)|refine yyp ?_;try refine Ce ?_ ?_<;>intro hb|refine yy ?_|refine yy2 ?_ ?_<;>intro hcmp|apply Cf 125;refine Ci (hc:=(jj6 e.s)) ?_;try refine Ce ?_ ?_<;>intro hb|apply Cf 195;refine Ci (hc:=hp) ?_|apply ah;refine Cc [0,1,2,3,4,5,6,9,10,13,18,20,25,27,34,38,39,49,51,60,62,67] ?_|refine Cb λK hK=>?_|apply Cg 35;refine j0 [] (lin [0,4,9,12,16,20,25,28,32,36,40,45,48,52,56,60,76,65,68,72,80]) ?_|apply_assumption -exfalso -symm)
 all_goals
  (refine j1 (j7 ?_))
  simp only[aF,V.tup.injEq,List.cons.injEq,At,D.int.injEq,Am,and_true,true_and,Jf]
  (repeat (rename (∀ S,TC _ _ _ S->_)=>hX;clear hX))
  clear hp;simp only[jf5,h8,h1,Eb,htw]at *;clear h8 h1 htw
  grind
end
section
def Wo:List Nat:=[0,1,2,3,4,6,7,8,10,34,36,37,38,39,47]
variable {mm:Int}
theorem mn0 (deep left:Int)(e:Ex)(l:List Ex):Fs deep left (e::l)=if (Dp deep left e).1 then Fs deep (Dp deep left e).2 l else Dp deep left e:=by rw[Fs]
theorem mz1 (deep left:Int)(e:Ex):Dp deep left e=if Kn e=false\/left - 1<0\/32<deep then (false,left - 1) else Fs (deep+1) (left - 1) e.l:=by
 cases e;rw[Dp];rfl
def HV (left:Int):List (Nat × Ob):=[(3,.box [.d (.int .i64 left)]),(4,.box [.clo (.func 168) [] [.ptr 3 0,.ptr 4 0]])]
theorem mn1 (e:Ex)(deep left:Int)(h0:0<=left)(h1:1<=deep)(h2:deep<=33)(h:(Dp deep left e).1=true):0<=(Dp deep left e).2/\(Dp deep left e).2<=left - 1:=by
 have:=Pk e (deep - 1) left h0 (by omega) (by omega);rw[show deep - 1+1=deep by omega]at this;have h3:=this.1.1 h;have h4:=this.2 h3;omega
attribute [local irreducible] TR TC
theorem rc7:∀ (m:Nat) (e:Ex) (deep left:Int),exN e<=m->0<=left->left<=256->1<=deep->deep<=33->
 FnE prog (glS mm) 168 [.d (dEx e),.d (.int .i64 deep),.ptr 3 0,.ptr 4 0] (HV left) (λv H1=>v=.d (.bool (Dp deep left e).1)/\H1=HV (Dp deep left e).2):=by
 intro m
 induction m with
 |zero=>intro e d l h;have:=jo4 e;omega
 |succ m ih=>
  intro e deep left hm h0 h1 h2 h3;rw[my7]at hm;have hl:∀ z∈e.l,∀ d r:Int,0<=r->r<=256->1<=d->d<=33->FnE prog (glS mm) 168 [.d (dEx z),.d (.int .i64 d),.ptr 3 0,.ptr 4 0] (HV r) (λv H1=>v=.d (.bool (Dp d r z).1)/\H1=HV (Dp d r z).2):=λz hz d r=>ih z d r (by have:=jh8 hz;omega);have hparts:=Rn (mm:=mm) e;have heq:=mz1 deep left e;clear ih hm;generalize Dp deep left e=res at heq ⊢;have hown:Kn e=((Jf e.kind e.op e.ty e.n e.s).2 && decide ((e.l.length:Int)=(Jf e.kind e.op e.ty e.n e.s).1)):=rfl;generalize hq:Jf e.kind e.op e.ty e.n e.s=q at hparts hown;simp only[r8]at hl ⊢;rw[kq7 e]at hparts ⊢;dsimp only[HV]at hl ⊢
  (refine j3 func168 ntmps168 results168 λw M E b0=>?_)
  refine x4 0 5 rfl rfl λhn=>?_;simp only[Ab]at hn
  (repeat' first|apply Ca 4;(refine Ck 1004 ?_)|refine yyp ?_;try refine Ce ?_ ?_<;>intro hb|refine yy ?_|refine yy2 ?_ ?_<;>intro hcmp|apply Cf 169;refine Ci (hc:=hparts) ?_|apply ah;refine Cc Wo ?_|refine Cb λK hK=>?_|apply_assumption -exfalso -symm)
  ·obtain rfl:res=(false,left - 1):=by rw[heq,Ad (.inr (.inl hcmp))]
   (refine j1 (j8 ⟨?_,rfl⟩))
   rfl
  ·obtain rfl:res=(false,left - 1):=by rw[heq,Ad (.inr (.inr hcmp))]
   (refine j1 (j8 ⟨?_,rfl⟩))
   rfl
  ·have hf:Kn e=false:=by rw[hown,Bl hcmp,Be]
   obtain rfl:res=(false,left - 1):=by rw[heq,Ad (.inl hf)]
   (refine j1 (j8 ⟨?_,rfl⟩))
   rfl
  ·have hok:Kn e=true:=by rw[hown,hb,Bm (by omega)];rfl
   rw[Af (by rw[hok];simp only[Bool.true_eq_false,false_or];omega)]at heq;clear hown hq hparts;refine k9 (ι:=Nat × Int) [6,10,38,39,40,41,42,43,44,45,46,47,48] [3] (λx=>[(38,.d (.int .i64 x.1))]) (λx=>[(3,.box [.d (.int .i64 x.2)])]) (λx=>x.1<=e.l.length/\0<=x.2/\x.2<=256/\res=Fs (deep+1) x.2 (e.l.drop x.1)) (λx=>e.l.length - x.1) (0,left - 1) ⟨by omega,by omega,by omega,heq⟩ λ⟨k,cur⟩ ⟨hk,hc0,hc1,hi⟩=>?_;dsimp only[Ac,Ae]at hk hc0 hc1 hi ⊢;rcases Ai k e.l.length with hk2|hk2
   ·rw[Bk hk2,mn0]at hi;have hone:=hl e.l[k] (Ao _) (deep+1) cur hc0 hc1 (by omega) (by omega);have hrange:=mn1 e.l[k] (deep+1) cur hc0 (by omega) (by omega);generalize Dp (deep+1) cur e.l[k]=r at hone hrange hi
    (repeat' first|apply Ca 10;(refine j2 1010 ?_)|apply Ca 46;refine Ch (hc:=hone) ?_;try refine Ce ?_ ?_<;>intro hb|refine yyp ?_;try refine Ce ?_ ?_<;>intro hb|refine yy ?_|apply ah;refine Cc Wo ?_|refine Cb λK hK=>?_|apply_assumption -exfalso -symm)
    ·have hr:=hrange hb;refine⟨(k+1,r.2),⟨by dsimp only;omega,hr.1,by dsimp only;omega,?_⟩,by dsimp only;omega,v6⟩;rw[hi,Ad hb]
    ·obtain rfl:res=r:=by rw[hi,hb];rfl
     (refine j1 (j8 ⟨?_,rfl⟩))
     rw[hb];rfl
   ·obtain rfl:res=(true,cur):=by rw[hi,Bq hk2,Fs]
    (repeat' first|refine yyp ?_;try refine Ce ?_ ?_<;>intro hb|refine yy ?_|apply ah;refine Cc Wo ?_|refine Cb λK hK=>?_|apply_assumption -exfalso -symm)
    (refine j1 (j8 ⟨?_,rfl⟩))
    rfl
  ·have hf:Kn e=false:=by rw[hown,hb,As]
   obtain rfl:res=(false,left - 1):=by rw[heq,Ad (.inl hf)]
   (refine j1 (j8 ⟨?_,rfl⟩))
   rfl
theorem jj7 (e:Ex):FnD prog (glS mm) 129 [.d (dEx e)] (λv=>v=.d (.bool (Gd e))):=by
 have h:=rc7 (mm:=mm) _ e 1 256 (Ap _) (by omega) (by omega) (by omega) (by omega);rw[show Gd e=(Dp 1 256 e).1 from rfl];generalize Dp 1 256 e=r at h ⊢;simp only[r8]at h ⊢;dsimp only[HV]at h
 (refine j4 func129 ntmps129 results129 λw M=>?_)
 (repeat' first|apply Ca 1;(refine Ck 1 ?_)|apply Ca 3;(refine j2 3 ?_)|apply Ca 4;(refine j2 4 ?_)|apply Ca 8;refine Ch (hc:=h) ?_;try refine Ce ?_ ?_<;>intro hb|refine yyp ?_;try refine Ce ?_ ?_<;>intro hb|refine yy ?_|apply ah;refine Cc [0,1,2,3,4,5,6] ?_|refine Cb λK hK=>?_|apply_assumption -exfalso -symm)
 all_goals
  (refine j1 (j7 ?_))
  simp only[aF, *]
end
section
section
variable {E:Set}{Q:Exit->Sd->Prop}{S:Sd}{ops:Array Oper}{draw:Bool}{rest:Todo}{way:Ji}{ty:TypeId}{pos:String}{af:Array Edge}{gd:Option (Nat × Bool)}{d:Nat}
theorem rc8 {t k e n:Nat}{x:Operand}{ks vs:List D}[ht:TMap E.P t k e](hx:S.ev x=some (.d (.map ks vs)))(hox:Cm x=true)(hn:S.aD n=true):
 Grow E S ⟨some d,.range t x,ty,pos,af,gd⟩ {S with H:=(n,.miter ks vs (List.range ks.length) none)::S.H} (.ptr n 0):=Grow.mk λβ a w h=>by
 obtain⟨m,es,c,h1,h2,h3,h4,h5,h6⟩:=h.ev hx hox;refine⟨.pointer (some ⟨w.heap.size,0,none⟩),w.alloc (.mapIter (some m) c #[] c),upd β n (.pointer (some ⟨w.heap.size,0,none⟩)),?_,aG.alloc w _,?_,⟨w.heap.size,jw6 _ _ _,rfl⟩⟩
 ·simp only[execOp,h1,Sem.run_bind,run_range_map w t k e m es c (jc9 ht) h2,Result.andThen_ok,Sem.run_pure]
 ·refine h.newObj hn (.pointer (some ⟨w.heap.size,0,none⟩)) (aG.alloc w _) (λb hb'=>?_) (.miter ks vs (List.range ks.length) none) λkp=>?_
  ·simp only[hb,Bi]at hb';omega
  ·refine⟨w.heap.size,rfl,.inr ⟨m,es,c,#[],heap_alloc_new w _,(kp.obj m _ rfl h3 h2).2,(kp.obj m _ rfl h3 h2).1,Hg.keep kp _ _ h4,Hg.keep kp _ _ h5,h6,λi e he=>?_,List.nodup_range,λi hi=>by cases hi⟩⟩;have hlen:=h4.length;have hi:i<es.size:=(Bw.1 he).1;simp only[Ab,Array.length_toList]at hlen;simp only[Fh,Array.contains_empty,iff_true];omega
theorem rc9 {t k e n:Nat}{x:Operand}[ht:TMap E.P t k e](hx:S.ev x=some (.d (.raw (.map none))))(hox:Cm x=true)(hn:S.aD n=true):
 Grow E S ⟨some d,.range t x,ty,pos,af,gd⟩ {S with H:=(n,.miter [] [] [] none)::S.H} (.ptr n 0):=Grow.mk λβ a w h=>by
 have h1:=(h.ev hx hox).1;refine⟨.pointer (some ⟨w.heap.size,0,none⟩),w.alloc (.mapIter none 0 #[] 0),upd β n (.pointer (some ⟨w.heap.size,0,none⟩)),?_,aG.alloc w _,?_,⟨w.heap.size,jw6 _ _ _,rfl⟩⟩
 ·simp only[execOp,h1,Sem.run_bind,run_range_nilMap w t k e (jc9 ht),Result.andThen_ok,Sem.run_pure]
 ·refine h.newObj hn (.pointer (some ⟨w.heap.size,0,none⟩)) (aG.alloc w _) (λb hb'=>?_) (.miter [] [] [] none) λkp=>?_
  ·simp only[hb,Bi]at hb';omega
  ·exact⟨w.heap.size,rfl,.inl ⟨heap_alloc_new w _,rfl,rfl,rfl⟩⟩
theorem StB.setIter {C:Ctx}{β:Nat->Hd}{a:Act}{w:World}(h:StB C β S a w){n b:Nat}{ks vs:List D}{left left':List Nat}{cur cur':Option Nat}(hl:look n S.H=some (.miter ks vs left cur))(hb':(β n).v=.pointer (some ⟨b,0,none⟩)){o':Obj}
 (hrep:aI w (Mut C.M0 β S.H) (w.putObj b o') (Mut C.M0 β ((n,Ob.miter ks vs left' cur')::S.H))->La (w.putObj b o') (Mut C.M0 β ((n,Ob.miter ks vs left' cur')::S.H)) β ((n,Ob.miter ks vs left' cur')::S.H) (β n) (.miter ks vs left' cur')):
 StB C β {S with H:=(n,.miter ks vs left' cur')::S.H} a (w.putObj b o'):=by
 have hbn:hb (β n).v=some b:=by rw[hb'];rfl
 have hH:∀ m e sz sh xs k,look m ((n,Ob.miter ks vs left' cur')::S.H)=some (.row e sz sh xs k)->∃ sh' xs',look m S.H=some (.row e sz sh' xs' k):=λm e sz sh xs k hm=>by
  rw[n3]at hm;split at hm
  ·cases hm
  ·exact⟨sh,xs,hm⟩
 exact h.turn hl (λ_ _=>rfl) rfl rfl rfl (by simp[World.putObj]) (λk _ hk=>World.putObj_heap_other (λe=>hk (by rw[hbn,e]))) (λb h=>.inl h) (λb' o' y h4 h5 _=>absurd trivial h5) (λ_ _ _ _ _=>trivial)
  (λk t x v _=>Dc.keep k (λ_=>rfl) hH x v) (λ_=>rfl) (λk m cs vs _ _=>Cs.keep k (λ_=>rfl) hH _ vs) hrep
theorem Hg.at {w:World}{M:Nat->Nat->Prop}:∀ {xs:List D} {vs:List Value},Hg w M xs vs->∀ {i:Nat} {u:Value},vs[i]? =some u->∃ x,xs[i]? =some x/\Gv w M x u
 |[],_,h,i,u,hu=>by simp only[Hg]at h;subst h;simp at hu
 |y::xs,_,h,0,u,hu=>by
  simp only[Hg]at h;obtain⟨v,r,rfl,h2,_⟩:=h;simp only[List.getElem?_cons_zero,Bi]at hu;subst hu;exact⟨y,rfl,h2⟩
 |y::xs,_,h,i+1,u,hu=>by
  simp only[Hg]at h;obtain⟨v,r,rfl,_,h3⟩:=h;simpa using Hg.at h3 (i:=i) (by simpa using hu)
theorem me6 {es:Array MapEntry}{seen:Array Nat}{e:MapEntry}(h:e∈(leftOf es seen).toList):∃ i:Nat,es[i]? =some e/\seen.contains e.born=false:=by
 obtain⟨h1,h2⟩:=mem_left h;obtain⟨i,hi,rfl⟩:=Ev.1 h1;exact⟨i,by simp,h2⟩
theorem Born.inj {es:List MapEntry}{c i j:Nat}{x y:MapEntry}(h:Born es c)(hi:es[i]? =some x)(hj:es[j]? =some y)(e:x.born=y.born):i=j:=by
 obtain⟨h1,rfl⟩:=Ay.1 hi;obtain⟨h2,rfl⟩:=Ay.1 hj;have h3:=Fj.1 h.ne;rcases Fp i j with h4|h4|h4
 ·exact absurd e (h3 i j h1 h2 h4)
 ·exact h4
 ·exact absurd e.symm (h3 j i h2 h1 h4)
theorem ru2 {n:Nat}{x:Operand}{ks vs:List D}{left:List Nat}{cur:Option Nat}(hx:S.ev x=some (.ptr n 0))(hox:Cm x=true)(hl:look n S.H=some (.miter ks vs left cur))(hin:∀ i∈left,i<ks.length)(hd:d<E.C.nt){o:Oper}(ho:o=⟨some d,.next x false,ty,pos,af,gd⟩)(hg:S.gd ops o=some true)(hw:Jv draw way=true)
 (h1:∀ i k v,i∈left->ks[i]? =some k->vs[i]? =some v->TR E draw ops Q rest (({S with H:=(n,.miter ks vs (left.erase i) (some i))::S.H}:Sd).put d (.tup [.d (.bool true),.d k,.d v])))
 (h2:left=[]->TR E draw ops Q rest (S.put d (.tup [.d (.bool false)]))):TR E draw ops Q (.step o way rest) S:=λa w hS=>by
 have hS0:=hS;have hdst:o.dst=some d:=by subst ho;rfl
 have hdf:p9 o=false:=by subst ho;rfl
 have key:∀ w1,aG w w1->∀ K:Act->World->Prop,(∀ i k v,i∈left->ks[i]? =some k->vs[i]? =some v->∀ a2 w2,St E.C (({S with H:=(n,.miter ks vs (left.erase i) (some i))::S.H}:Sd).put d (.tup [.d (.bool true),.d k,.d v])) a2 w2->K a2 w2)->
  (left=[]->∀ a2 w2,St E.C (S.put d (.tup [.d (.bool false)])) a2 w2->K a2 w2)->o.wp E.P a w1 K (Qof E.C Q):=λw1 g K hK hK0=>by
  obtain⟨β,hB⟩:=hS.later g;obtain⟨b,h3,h4⟩:=hB.ev hx hox;obtain⟨b',h5,h6⟩:=hB.obs n _ hl;rw[h3]at h5;cases h5;have hover:(Instr.next (.pointer (some ⟨b,0,none⟩)) false ty).run E.P w1=.ok (.tuple #[.bool false]) w1->left=[]->o.wp E.P a w1 K (Qof E.C Q):=λhr hle=>by
   refine p8 (x:=.tuple #[.bool false]) (w':=w1) (by subst ho;simp only[execOp,h4,Sem.run_bind,hr,Result.andThen_ok,Sem.run_pure]) (hK0 hle _ _ ?_);rw[hdst];exact⟨β,hB.put hd ⟨[.bool false],rfl,⟨_,[],rfl,rfl,rfl⟩⟩⟩
  rcases h6 with ⟨h7,rfl,rfl,_⟩|⟨m,es,c,seen,h7,h8,h9,h10,h11,h12,h13,h14,_⟩
  ·refine hover ?_ rfl;simp only[Instr.next,getObj,Sem.run_bind,Sem.run,h7,Result.andThen];rfl
  ·have hlen:=h10.length;simp only[Ab,Array.length_toList]at hlen;rcases run_next_at (P:=E.P) w1 ty b m c c seen es c h7 h8 h12.lt (Ap _) with ⟨h15,h16⟩|⟨en,h15,w2,h16,h17⟩
   ·refine hover h16 ?_;cases hle:left with
    |nil=>rfl
    |cons i r=>
     exfalso;have hi:i∈left:=by rw[hle];exact Aw
     have hi2:=hin i hi;have hi3:i<es.size:=by omega
     have h18:=all_seen es seen h15 es[i] (by simp);have h19:=(h13 i es[i] (by simp[hi3])).1 hi;rw[h18]at h19;cases h19
   ·obtain⟨i,hi,hs⟩:=me6 h15;have hil:i∈left:=(h13 i en hi).2 hs;have hit:es.toList[i]? =some en:=by simpa using hi
    obtain⟨k,hk,hrk⟩:=h10.at (i:=i) (u:=en.key) (by simp[hit]);obtain⟨v,hv,hrv⟩:=h11.at (i:=i) (u:=en.val) (by simp[hit]);have hB2:StB E.C β S a w2:=by
     rcases h16 with rfl|rfl
     ·exact hB
     ·exact hB.later (Below.drew (Below.refl _ _))
    have e2:w2.heap=w1.heap:=by rcases h16 with rfl|rfl<;>rfl
    have g2:aG w1 w2:=by
     rcases h16 with rfl|rfl
     ·exact aG.refl _
     ·exact Below.drew (Below.refl _ _)
    have hlt:b<w2.heap.size:=by rw[e2];exact(Bw.1 h7).1
    have hmb:m≠b:=λe=>by subst e;rw[h7]at h8;cases h8
    have kg:aI w1 (Mut E.C.M0 β S.H) w2 (Mut E.C.M0 β S.H):=aI.below g2;have hset:=hB2.setIter hl h3 (left':=left.erase i) (cur':=some i) (o':=.mapIter (some m) c (seen.push en.born) c) λkp=>by
     have kk:=kg.trans kp;refine⟨b,h3,.inr ⟨m,es,c,seen.push en.born,World.putObj_heap_same hlt,?_,(kk.obj m _ rfl h9 h8).1,Hg.keep kk _ _ h10,Hg.keep kk _ _ h11,h12,λj e he=>?_,h14.erase _,λj hj=>?_⟩⟩
     ·rw[World.putObj_heap_other hmb,e2];exact h8
     ·rw[h14.mem_erase_iff,h13 j e he,contains_push];constructor
      ·rintro⟨q1,q2⟩;rw[q2,Ee];cases hbe:e.born == en.born with
       |false=>rfl
       |true=>exact absurd (h12.inj (by simpa using he) hit (by simpa using hbe)) q1
      ·intro q;rw[Bool.or_eq_false_iff]at q;refine⟨λe3=>?_,q.1⟩;subst e3;rw[hi]at he;cases he;simp at q
     ·cases hj;exact⟨en,hi,by simp⟩
    obtain⟨b2,q0,q1⟩:=hset.obs n _ (by rw[n3,Ad rfl]);rw[h3]at q0;cases q0;rcases q1 with ⟨q1,_⟩|⟨m2,es2,c2,seen2,q1,q2,_,q3,q4,_⟩
    ·rw[World.putObj_heap_same hlt]at q1;cases q1
    rw[World.putObj_heap_same hlt]at q1;cases q1;rw[World.putObj_heap_other hmb,e2,h8]at q2;cases q2;obtain⟨k',hk',hrk'⟩:=q3.at (i:=i) (u:=en.key) (by simp[hit]);obtain⟨v',hv',hrv'⟩:=q4.at (i:=i) (u:=en.val) (by simp[hit]);rw[hk]at hk';rw[hv]at hv';cases hk';cases hv';refine p8 (x:=.tuple #[.bool true,en.key,en.val]) (w':=w2.putObj b (.mapIter (some m) c (seen.push en.born) c)) (by subst ho;simp only[execOp,h4,Sem.run_bind,h17,Result.andThen_ok,Sem.run_pure];rfl) (hK i k v hil hk hv _ _ ?_);rw[hdst];refine⟨β,hset.put hd ⟨[.bool true,en.key,en.val],rfl,⟨_,_,rfl,rfl,⟨_,_,rfl,?_,⟨_,[],rfl,?_,rfl⟩⟩⟩⟩⟩
    ·exact hrk'
    ·exact hrv'
 cases draw with
 |true=>
  dsimp only;cases way with
  |pure=>cases hw
  |quiet=>cases hw
  |grow=>cases hw
  |bar=>
   simp only[x5];intro n;rw[Sd.Dv hS0 hg,Ad rfl];exact key n.w n.grows _ (λi k v hi hk hv a2 w2 hs2=>h1 i k v hi hk hv _ _ hs2) λhle a2 w2 hs2=>h2 hle _ _ hs2
 |false=>exact l5 hS0 hg hdf λK hK=>key w (aG.refl w) K (λi k v hi hk hv a2 w2 hs2=>hK _ _ (h1 i k v hi hk hv _ _ hs2)) λhle a2 w2 hs2=>hK _ _ (h2 hle _ _ hs2)
theorem ru3 {n i:Nat}{x:Operand}{ks vs:List D}{left:List Nat}{k v:D}(hx:S.ev x=some (.ptr n 0))(hox:Cm x=true)(hl:look n S.H=some (.miter ks vs left (some i)))(hk:ks[i]? =some k)(hv:vs[i]? =some v):
 Quiet E S ⟨some d,.entry x,ty,pos,af,gd⟩ (.tup [.d k,.d v]):=Quiet.mk λβ a w h=>by
 obtain⟨b,h3,h4⟩:=h.ev hx hox;obtain⟨b',h5,h6⟩:=h.obs n _ hl;rw[h3]at h5;cases h5;rcases h6 with ⟨_,_,_,h7⟩|⟨m,es,c,seen,h7,h8,h9,h10,h11,h12,h13,h14,h15⟩
 ·cases h7
 ·obtain⟨en,h16,h17⟩:=h15 i rfl;obtain⟨k',hk',hrk'⟩:=h10.at (i:=i) (u:=en.key) (by simp[h16]);obtain⟨v',hv',hrv'⟩:=h11.at (i:=i) (u:=en.val) (by simp[h16]);rw[hk]at hk';rw[hv]at hv';cases hk';cases hv';obtain⟨s0,hs0⟩:∃ s0:Array Nat,seen=s0.push en.born:=by
   refine⟨seen.pop,?_⟩;obtain⟨l⟩:=seen;simp only[List.back?_toArray]at h17;obtain⟨r,rfl⟩:=List.getLast?_eq_some_iff.1 h17;simp
  subst hs0;refine⟨.tuple #[en.key,en.val],λw' g=>?_,⟨[en.key,en.val],rfl,⟨_,_,rfl,hrk',⟨_,_,rfl,hrv',rfl⟩⟩⟩⟩;have:=run_entry_at (P:=E.P) w' b m c s0 es c en (jb1 g h7) (jb1 g h8) (by simpa using Ea (by simpa using h16:es.toList[i]? =some en)) (List.pairwise_map.2 h12.ne);simp only[execOp,h4,Sem.run_bind,this,Result.andThen_ok,Sem.run_pure]
end
end
section
section
variable {E:Set}{S:Sd}{Q:Exit->Sd->Prop}{ops:Array Oper}{draw:Bool}{rest:Todo}{way:Ji}{ty:TypeId}{pos:String}{af:Array Edge}{gd:Option (Nat × Bool)}
end
end
section
section
variable {E:Set}{Q:Exit->Sd->Prop}
end
section
variable {E:Set}{dst:Option Tmp}{ty:TypeId}{pos:String}{af:Array Edge}{gd:Option (Nat × Bool)}
theorem je7 {S:Sd}{t e sz n k p m e' sz':Nat}{sh:Bool}{xs:List D}{x:Operand}[ht:aK E.P t e sz](hx:S.ev x=some (.win n k p m))(hox:Cm x=true)(hl:look n S.H=some (.row e' sz' sh xs k)):aH E S ⟨dst,.call {callee:=.builtin .len,args:=#[x],argTypes:=#[t]},ty,pos,af,gd⟩ (.d (.int .i64 (m:Nat))):=aH.mk λβ a w h=>by
 obtain⟨ie,hu,_⟩:=g8 ht;obtain⟨ad,ll,c,ad1,c1,h1,h2,h3,_⟩:=h.ev hx hox e' sz' sh xs hl;refine⟨.int .i64 (m:Int),λw' _=>?_,rfl⟩;simp[execOp,resolve,invoke,builtin,h3,Builtin.len_,goInt,run_underlying hu]
theorem Ie {S:Sd}{t e sz i n k' e' p m:Nat}{sh:Bool}{x y:Operand}{xs:List D}{k:IntKind}{v:Int}[ht:aK E.P t e sz](hx:S.ev x=some (.win n k' p m))(hl:look n S.H=some (.row e' sz sh xs k'))(hy:S.ev y=some (.d (.int k v)))(hox:Cm x=true)(hoy:Cm y=true)(hi:v=(i:Nat))(hz:i<m):
 aH E S ⟨dst,.indexAddr t x y,ty,pos,af,gd⟩ (.el n k' (p+i) 0):=aH.mk λβ a w h=>by
 subst hi;obtain⟨ad,ll,c,ad1,c1,h1,h2,h3,h3',h4,_⟩:=h.ev hx hox e' sz sh xs hl;obtain⟨ys,h2',_⟩:=h.obs n _ hl;have h5:a.eval y=.int k (i:Nat):=h.ev hy hoy;rcases h2'.2 with ⟨q1,q2⟩|⟨g,cap,cur,q,_,_,q3,_⟩
 ·rw[h1]at q1;simp only[Value.slice.injEq]at q1;omega
 ·rw[h1]at q;simp only[Value.slice.injEq]at q;obtain⟨rfl,rfl,rfl⟩:=q;have h6:a.eval x=.slice (some ⟨g,p * sz,none⟩) m c1:=by rw[h3,h4 (by omega)];simp[jg4]
  refine⟨.pointer (some ⟨g,(p+i) * sz,none⟩),λw' _=>?_,λe2 sz2 sh2 xs2 hl2=>?_⟩
  ·have:=jv0 (P:=E.P) ht (b:=g) (o:=p * sz) (n:=m) (c:=c1) (k:=k) (i:=i) hz w';rw[Fa];simp[execOp,h6,h5,this]
  ·rw[hl]at hl2;cases hl2;exact⟨g,_,c,h1,rfl⟩
end
end
section
section
variable {E:Set}{Q:Exit->Sd->Prop}{S:Sd}{ops:Array Oper}{draw:Bool}{rest:Todo}{way:Ji}{ty:TypeId}{pos:String}{af:Array Edge}{gd:Option (Nat × Bool)}{dst:Option Tmp}
theorem ms1 {t e sz n k p m l e':Nat}{sh:Bool}{xs:List D}{x lo:Operand}{li:IntKind}{lv:Int}[ht:aK E.P t e sz](hx:S.ev x=some (.win n k p m))(hox:Cm x=true)(hl:look n S.H=some (.row e' sz sh xs k))(hlo:S.ev lo=some (.d (.int li lv)))(hol:Cm lo=true)(el:lv=(l:Nat))(hlm:l<=m):
 aH E S ⟨dst,.slice t x (some lo) none none,ty,pos,af,gd⟩ (.win n k (p+l) (m - l)):=aH.mk λβ a w h=>by
 subst el;obtain⟨ad,ll,c,ad1,c1,h1,h2,h3,h4,h5,h6,h7⟩:=h.ev hx hox e' sz sh xs hl;have hv:a.eval lo=.int li (l:Nat):=h.ev hlo hol;refine⟨sliced ad1 l m c1 sz,λw' _=>?_,λe2 sz2 sh2 xs2 hl2=>?_⟩
 ·have:=ml6 (P:=E.P) ht ad1 m c1 l li hlm w';obtain⟨ie,hu,_⟩:=g8 ht;simp[execOp,Instr.sliceAt,h3,hv,this,run_underlying hu]
 ·rw[hl]at hl2;cases hl2;refine⟨ad,ll,c,_,c1 - l,h1,by omega,rfl,by omega,λhne=>?_,by omega,λhn=>?_⟩;rotate_left
  ·split at hn
   ·have:=h7 hn;omega
   ·have:ad1=none:=by cases ad1 with|none=>rfl|some q=>simp at hn
    have:=h7 this;omega
  rw[Af (by omega),h5 (by omega)];obtain⟨ad',c',g1,_,_,g4⟩:=h.Uh hl;rw[h1]at g1;simp only[Value.slice.injEq]at g1;obtain⟨rfl,_,_⟩:=g1;cases ad with
  |none=>rfl
  |some q=>
   obtain⟨b,rfl⟩:=g4 q rfl;simp[jg4,Fa]
theorem ms3 {t e sz n k p m l e':Nat}{sh:Bool}{xs:List D}{x hi:Operand}{li:IntKind}{lv:Int}[ht:aK E.P t e sz](hx:S.ev x=some (.win n k p m))(hox:Cm x=true)(hl:look n S.H=some (.row e' sz sh xs k))(hlo:S.ev hi=some (.d (.int li lv)))(hol:Cm hi=true)(el:lv=(l:Nat))(hlm:l<=m):
 aH E S ⟨dst,.slice t x none (some hi) none,ty,pos,af,gd⟩ (.win n k p l):=aH.mk λβ a w h=>by
 subst el;obtain⟨ad,ll,c,ad1,c1,h1,h2,h3,h4,h5,h6,h7⟩:=h.ev hx hox e' sz sh xs hl;have hv:a.eval hi=.int li (l:Nat):=h.ev hlo hol;refine⟨sliced ad1 0 l c1 sz,λw' _=>?_,λe2 sz2 sh2 xs2 hl2=>?_⟩
 ·have:=kc8 (P:=E.P) ht ad1 m c1 l li (by omega) w';obtain⟨ie,hu,_⟩:=g8 ht;simp[execOp,Instr.sliceAt,h3,hv,this,run_underlying hu]
 ·rw[hl]at hl2;cases hl2;refine⟨ad,ll,c,_,c1 - 0,h1,by omega,rfl,by omega,λhne=>?_,by omega,λhn=>?_⟩
  ·rw[Af (by omega),h5 (by omega),Nat.zero_mul];cases ad<;>rfl
  ·split at hn
   ·have:=h7 hn;omega
   ·have:ad1=none:=by cases ad1 with|none=>rfl|some q=>simp at hn
    have:=h7 this;omega
theorem me7 {w:World}{M:Nat->Nat->Prop}{z:D}{u:Value}(hu:u.cells=#[u])(hz:Gv w M z u):∀ m:Nat,Gb w M 1 (List.replicate m z) (List.replicate m u)
 |0=>rfl
 |m+1=>⟨u,List.replicate m u,by rw[hu];rfl,by rw[hu];rfl,hz,me7 hu hz m⟩
theorem kw2 (u:Value)(m:Nat):(Builtin.zeroCells #[u] m).toList=List.replicate m u:=by
 unfold Builtin.zeroCells;apply List.ext_getElem
 ·simp
 ·intro i h1 h2;simp[Nat.mod_one]
theorem mn2 {t n k p m e:Nat}{x:Operand}{xs:List D}{z:D}[ht:aK E.P t e 1][hz:Py E.P e z](hs:z.scalar=true)(hx:S.ev x=some (.win n k p m))(hox:Cm x=true)(hl:look n S.H=some (.row e 1 false xs k))(hle:p+m<=xs.length):
 Xt E S ⟨dst,.call {callee:=.builtin .clear,args:=#[x],argTypes:=#[t]},ty,pos,af,gd⟩ {S with H:=(n,.row e 1 false (xs.take p++List.replicate m z++xs.drop (p+m)) k)::S.H} (.tup []):=Xt.mk λβ a w h=>by
 obtain⟨ad,ll,c,ad1,c1,h1,h2,h3,h4,h5,h6,h7⟩:=h.ev hx hox e 1 false xs hl;obtain⟨ie,hu,hi,hsz,_⟩:=g8 ht;obtain⟨i0,u0,hi0,hu0,hrep⟩:=ml5 hz;have hone:u0.oneCell'=true:=(hrep (w:=w) (M:=λ_ _=>False)).aF hs;have hcells:u0.cells=#[u0]:=by cases u0<;>first|rfl|cases hone
 cases m with
 |zero=>
  refine⟨.tuple #[],w,β,?_,?_,⟨[],rfl,rfl⟩⟩
  ·cases ad1<;>simp[execOp,resolve,invoke,builtin,h3,Builtin.clear_,run_underlying hu]
  ·have e1:xs.take p++List.replicate 0 z++xs.drop (p+0)=xs:=by simp
   rw[e1];exact h.weak (λ_ _ h=>h) (λm ob hm=>by
    rw[n3]at hm;split at hm
    ·rename_i e;subst e;rw[hl];exact hm
    ·exact hm) (λ_ _ h=>h) (λm hm=>by
    rw[n3];split
    ·rfl
    ·exact h.has m hm)
 |succ m=>
  obtain⟨ys,q3,q4⟩:=h.obs n _ hl;obtain⟨g,cap,cur,q5,q6,q7,q8,q9,q10,q11⟩:∃ g cap cur,(β n).v=.slice (some ⟨g,0,none⟩) xs.length cap/\0<=g/\w.heap[g]? =some (.cells cur e (0,0))/\xs.length<=cap/\cap<=maxLen/\cur.size=cap * 1/\cur.toList.take (xs.length * 1)=ys:=by
   rcases q3.2 with ⟨q,q'⟩|q
   ·omega
   ·exact q
  rw[h1]at q5;simp only[Value.slice.injEq]at q5;obtain⟨rfl,rfl,rfl⟩:=q5;have h8:ad1=some ⟨g,p,none⟩:=by rw[h5 (by omega)];simp[jg4]
  subst h8;have hst:=run_storeCells_at E.P g p e (List.replicate (m+1) u0) 0 cur w q7 (by simp;omega) (λu hu=>by rw[List.eq_of_mem_replicate hu];exact hone);simp only[Nat.add_zero]at hst;have hbn:hb (β n).v=some g:=by rw[h1];rfl
  have hH:∀ m' e' sz' sh' xs' k',look m' ((n,Ob.row e 1 false (xs.take p++List.replicate (m+1) z++xs.drop (p+(m+1))) k)::S.H)=some (.row e' sz' sh' xs' k')->∃ sh' xs',look m' S.H=some (.row e' sz' sh' xs' k'):=λm' e' sz' sh' xs' k' hm=>by
   rw[n3]at hm;split at hm
   ·rename_i eq;subst eq;cases hm;exact⟨false,xs,hl⟩
   ·exact⟨sh',xs',hm⟩
  have hlx:(xs.take p++List.replicate (m+1) z++xs.drop (p+(m+1))).length=xs.length:=by simp;omega
  have hly:=q4.length;refine⟨.tuple #[],_,β,?_,h.turn (w':=w.setRow g (cur.toList.take p++List.replicate (m+1) u0++cur.toList.drop (p+(List.replicate (m+1) u0).length)).toArray) hl (λ_ _=>rfl) rfl rfl rfl (by simp) (λk _ hk=>setRow_other w g k _ (λe=>hk (by rw[hbn,e]))) (λb h=>.inl h) (λb' o' y h4 h5 _=>absurd (.inl rfl) h5) (λ_ _ _ _ _=>.inl rfl)
   (λk t x v _=>Dc.keep k (λ_=>rfl) hH x v) (λ_=>rfl) (λk m cs vs _ _=>Cs.keep k (λ_=>rfl) hH _ vs) (λkp=>?_),⟨[],rfl,rfl⟩⟩
  ·have hzc:(Builtin.zeroCells u0.cells (m+1)).toList=List.replicate (m+1) u0:=by rw[hcells,kw2]
   simp[execOp,resolve,invoke,builtin,h3,Builtin.clear_,run_underlying hu,jl6 hi0 hu0,hzc,hst]
  ·refine⟨ys.take p++List.replicate (m+1) u0++ys.drop (p+(m+1)),⟨?_,.inr ⟨g,c,_,?_,q6,setRow_heap w g _ _ e _ q7,by rw[hlx];exact q8,q9,?_,?_⟩⟩,?_⟩
   ·rw[hlx];simp;omega
   ·rw[hlx,h1]
   ·simp;omega
   ·rw[hlx,<-q11];simp only[Nat.mul_one];simp only[List.toList_toArray,Ff];apply Fm;intro i;simp only[Et,List.getElem?_append,Ag,Aq,Ff,Eo,List.getElem?_replicate,Array.length_toList]
    grind
   ·have r1:=Gb.take p (Gb.keep kp _ _ _ q4) (by omega);have r2:=Gb.drop (p+(m+1)) (Gb.keep kp _ _ _ q4) hle;simp only[Nat.mul_one]at r1 r2;exact(r1.append (me7 hcells hrep (m+1))).append r2
theorem ro1 {C:Ctx}{env:List (Nat × V)}{H:List (Nat × Ob)}{gl:List (Nat × List D)}(t:Nat){n k p m e sz:Nat}{sh:Bool}{xs:List D}(ht:look t env=some (.win n k p m))(hl:look n H=some (.row e sz sh xs k))(hle:p+m<=xs.length):
 Wk C ⟨env,H,gl⟩ ⟨(t,.d (.list sz ((xs.drop p).take m)))::env,(n,.row e sz true xs k)::H,gl⟩:=λa w ⟨β,hB⟩=>by
 have hB2:=hB.share hl;refine⟨β,{hB2 with env:=λs v hs=>?_}⟩;dsimp only at hs;rw[j6]at hs;split at hs
 ·rename_i e1;subst e1;cases hs;have hl2:look n ((n,Ob.row e sz true xs k)::H)=some (.row e sz true xs k):=by rw[j6,Ad rfl]
  obtain⟨x,h1,h2⟩:=hB2.env t _ ht;refine⟨x,h1,?_⟩;obtain⟨ad,ll,c,ad1,c1,h3,h4,h5,h6,h7,h8,h9⟩:=h2 e sz true xs hl2;obtain⟨ys,q3,q4⟩:=hB2.obs n _ hl2;have hlen:((xs.drop p).take m).length=m:=by simp;omega
  refine⟨ad1,c1,(ys.drop (p * sz)).take (m * sz),by rw[hlen];exact h5,by rw[hlen];exact h6,h8,h9,Gb.take m (Gb.drop p q4 (by omega)) (by simp;omega),λj y hj=>?_⟩;rcases q3.2 with ⟨q,q'⟩|⟨g,cap,cur,q5,q6,q7,q8,q9,q10,q11⟩
  ·have:m=0:=by omega
   subst this;simp at hj
  ·have hm:m≠0:=by
    rintro rfl;simp at hj
   rw[h3]at q5;simp only[Value.slice.injEq]at q5;obtain⟨rfl,rfl,rfl⟩:=q5;rw[h7 hm];rw[Et]at hj;split at hj
   ·rename_i hlt;rw[Eo,<-q11,Et]at hj;split at hj
    ·rename_i hlt2;refine⟨g,p * sz,by simp[jg4],λhmut=>?_,?_⟩
     ·rcases hmut with hmut|⟨n2,ob2,g1,g2,g3⟩
      ·exact hB2.out n _ g (p * sz+j) hl2 ((z8 rfl).2 (by rw[h3];rfl)) hmut
      ·by_cases hn2:n=n2
       ·subst hn2;rw[hl2]at g1;cases g1;rcases g3 with g3|g3
        ·cases g3
        ·omega
       ·exact hB2.apart n n2 g _ ob2 hn2 hl2 g1 ((z8 rfl).2 (by rw[h3];rfl)) g2
     ·have:cur[p * sz+j]? =some y:=by simpa using hj
      simp[World.cell?,q7,this]
    ·cases hj
   ·cases hj
 ·exact hB2.env s v hs
end
end
section
section
variable {E:Set}{S:Sd}{dst:Option Tmp}{ty:TypeId}{pos:String}{af:Array Edge}{gd:Option (Nat × Bool)}
end
section
variable {E:Set}{Q:Exit->Sd->Prop}{ops:Array Oper}{draw:Bool}{rest:Todo}{way:Ji}{ty:TypeId}{pos:String}{af:Array Edge}{gd:Option (Nat × Bool)}
variable {env:List (Nat × V)}{H:List (Nat × Ob)}{gl:List (Nat × List D)}{d:Nat}
theorem kw3 {C:Ctx}(t:Nat){v:V}{x:D}(hl:look t env=some v)(hd:ToD H v x):Wk C ⟨env,H,gl⟩ ⟨(t,.d x)::env,H,gl⟩:=λa w ⟨β,h⟩=>by
 refine⟨β,{h with env:=?_}⟩;intro s u hs;dsimp only at hs;rw[j6]at hs;split at hs
 ·rename_i e;subst e;cases hs;obtain⟨y,h1,h2⟩:=h.env _ _ hl;exact⟨y,h1,hd.rep h h2⟩
 ·exact h.env s u hs
end
end
section
section
variable {E:Set}{S:Sd}{dst:Option Tmp}{ty:TypeId}{pos:String}{af:Array Edge}{gd:Option (Nat × Bool)}
end
section
variable {E:Set}{Q:Exit->Sd->Prop}{ops:Array Oper}{draw:Bool}{rest:Todo}{way:Ji}{ty:TypeId}{pos:String}{af:Array Edge}{gd:Option (Nat × Bool)}{S:Sd}
variable {env:List (Nat × V)}{H:List (Nat × Ob)}{gl:List (Nat × List D)}{d:Nat}
theorem kr1 {C:Ctx}(n:Nat){e sz k:Nat}(hl:look n H=some (.row e sz true [] k)):Wk C ⟨env,H,gl⟩ ⟨env,(n,.row e sz false [] k)::H,gl⟩:=λa w ⟨β,h⟩=>by
 have hH:∀ m e' sz' sh' xs' k',look m ((n,Ob.row e sz false [] k)::H)=some (.row e' sz' sh' xs' k')->∃ sh' xs',look m H=some (.row e' sz' sh' xs' k'):=λm e' sz' sh' xs' k' hm=>by
  rw[n3]at hm;split at hm
  ·rename_i e;subst e;cases hm;exact⟨true,[],hl⟩
  ·exact⟨sh',xs',hm⟩
 refine⟨β,h.turn (S:=⟨env,H,gl⟩) hl (λ_ _=>rfl) rfl rfl rfl (Ap _) (λ_ _ _=>rfl) (λb h=>.inl h) (λ_ _ _ _ _ h=>h) (λb o _ _ _=>.inr (by simp))
  (λk t x v _=>Dc.keep k (λ_=>rfl) hH x v) (λ_=>rfl) (λk m cs vs _ _=>Cs.keep k (λ_=>rfl) hH _ vs) (λk=>?_)⟩
 obtain⟨ys,h1,h2⟩:=h.obs n _ hl;exact⟨ys,h1,Gb.keep k _ _ _ h2⟩
def Exit.Xg (Q:Exit->Sd->Prop):Exit->Sd->Prop
 |.goto _,_=>False
 |e,S=>Q e S
theorem rd0 {c:Code}(hrd:E.rd=none)(h:TC E c (Exit.Xg Q) S):TC E (.scope c) Q S:=λa w hS=>by
 have h1:=h a w hS;rw[hrd]at h1 ⊢;have h2:c.wp E.P (Qof E.C (Exit.Xg Q)) a w:=wpIn_wide.1 h1;refine wpIn_wide.2 (wp_scope_straight (Code.wp_mono (λe a' w' h5=>?_) h2));obtain⟨S',h3,h4⟩:=h5;cases e with
 |goto l=>exact h4.elim
 |_=>exact⟨S',h3,h4⟩
end
end
section
theorem FnD.Ya {P:Program}{gl:List (Nat × List D)}{f:FuncId}{args:List V}{n e sz:Nat}{xs:List D}(h:FnE P gl f args [] (λv H1=>∃ k,v=.own n k/\H1=[(n,.row e sz true xs k)])):FnD P gl f args (λv=>v=.d (.list sz xs)):=λw M us hM hus hg=>by
 have hM0:Mut M qf6 []=M:=by
  funext b o;apply propext;constructor
  ·rintro(h|⟨n,ob,h1,_⟩)
   ·exact h
   ·cases h1
  ·exact .inl
 have h0:=h w M qf6 us hM (by rw[hM0];exact hus) ⟨λn ob hl=>(by cases hl),λn m b ob ob' _ hl=>(by cases hl),λn ob b o hl=>(by cases hl)⟩ (by rw[hM0];exact hg);refine h0.mono ?_;rintro en w' ⟨v,x,H1,β1,⟨k,rfl,rfl⟩,hok,rfl,hfr,hfix,hnew,hobs,hv⟩;have hl:look n [(n,Ob.row e sz true xs k)]=some (.row e sz true xs k):=by rw[j6,Ad rfl]
 have he:x=(β1 n).v:=hv e sz true xs hl;subst he;refine⟨.d (.list sz xs),_,rfl,.d _,rfl,hfr.below,?_⟩;obtain⟨ys,h1,h2⟩:=hobs.obs n _ hl;have hk:∀ b o,M b o->Mut M β1 [(n,Ob.row e sz true xs k)] b o:=λb o h=>.inl h;obtain⟨a',c,hv',h3,h4,h5⟩:=jd9 h1;refine⟨a',c,ys,hv',h3,h4,h5,Gb.keep (aI.weak hk) _ _ _ h2,λj y hj=>?_⟩;have h1':=h1;rw[hv']at h1';obtain⟨b,o,e',_,hc⟩:=(Sl.Rm h1').rd j y hj;exact⟨b,o,e',λhm=>hobs.out n _ b _ hl (.inl (by rw[hv',e'];rfl)) hm,hc⟩
theorem FnE.fix {P:Program}{gl:List (Nat × List D)}{f:FuncId}{args:List V}{n e sz:Nat}{xs:List D}(h:FnE P gl f args [] (λv H1=>∃ k,v=.own n k/\H1=[(n,.row e sz true xs k)])):FnE P gl f args [] (λv H1=>v=.own n 0/\H1=[(n,.row e sz true xs 0)]):=λw M β us h1 h2 h3 h4=>by
 refine(h w M β us h1 h2 h3 h4).mono ?_;rintro en w' ⟨v,x,H1,β1,⟨k,rfl,rfl⟩,hok,rfl,hfr,hfix,hnew,hobs,hv⟩;have hl:∀ (k m:Nat) (ob:Ob),look m [(n,Ob.row e sz true xs k)]=some ob->m=n/\ob=.row e sz true xs k:=λk m ob hm=>by
  rw[j6]at hm;split at hm
  ·rename_i e';cases hm;exact⟨e'.symm,rfl⟩
  ·cases hm
 have hn:∀ k:Nat,look n [(n,Ob.row e sz true xs k)]=some (.row e sz true xs k):=λk=>by rw[j6,Ad rfl]
 have hM:∀ b o,Mut M β1 [(n,Ob.row e sz true xs 0)] b o->Mut M β1 [(n,Ob.row e sz true xs k)] b o:=λb o hm=>by
  rcases hm with hm|⟨m,ob,h5,h6,h7⟩
  ·exact .inl hm
  ·obtain⟨rfl,rfl⟩:=hl _ _ _ h5;exact .inr ⟨m,_,hn k,h6,h7⟩
 refine⟨.own n 0,x,[(n,.row e sz true xs 0)],β1,⟨rfl,rfl⟩,?_,rfl,hfr,hfix,λm ob b hm hb2=>?_,⟨λm ob hm=>?_,λm m' b ob ob' hne h5 h6 _=>?_,λm ob b o hm hb2=>?_⟩,λe' sz' sh' xs' hm=>?_⟩
 ·simp[Na,kv2,kv1,kc7,V.within,kc6,Ob.cells,jd8,look,hn]
 ·obtain⟨rfl,rfl⟩:=hl _ _ _ hm;exact hnew m _ b (hn k) hb2
 ·obtain⟨rfl,rfl⟩:=hl _ _ _ hm;obtain⟨ys,h5,h6⟩:=hobs.obs m _ (hn k);exact⟨ys,h5,Gb.keep (aI.weak hM) _ _ _ h6⟩
 ·obtain⟨rfl,_⟩:=hl _ _ _ h5;obtain⟨rfl,_⟩:=hl _ _ _ h6;exact absurd rfl hne
 ·obtain⟨rfl,rfl⟩:=hl _ _ _ hm;exact hobs.out m _ b o (hn k) hb2
 ·exact hv e sz true xs (hn k)
end
end Go.Proofs.YtklklgfpkpglgaaGreatDoor
