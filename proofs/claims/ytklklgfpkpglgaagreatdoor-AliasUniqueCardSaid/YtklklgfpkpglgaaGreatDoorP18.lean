/- Parts: D48, D37, D38, D39, S13. -/
import Derived.Test.YtklklgfpkpglgaaGreatDoorP17
import Derived.Laws.CopyRow
import Derived.Scope
import Derived.Test.YtklklgfpkpglgaaGreatDoorP25
set_option linter.all false
set_option maxRecDepth 100000
set_option maxHeartbeats 16000000
namespace Go.Proofs.YtklklgfpkpglgaaGreatDoor
open Go.RowKit Go.Proofs.Tryz
section
section
variable {E:Set}{Q:Exit->Sd->Prop}{S:Sd}{ops:Array Oper}{draw:Bool}{rest:Todo}{way:Jh}{ty:TypeId}{pos:String}{af:Array Edge}{gd:Option (Nat × Bool)}{dst:Option Tmp}
theorem mq6 {t e sz n k p m l e':Nat}{sh:Bool}{xs:List D}{x lo:Operand}{li:IntKind}{lv:Int}[ht:TSlice E.P t e sz](hx:S.ev x=some (.win n k p m))(hox:Cn x=true)(hl:look n S.H=some (.row e' sz sh xs k))(hlo:S.ev lo=some (.d (.int li lv)))(hol:Cn lo=true)(el:lv=(l:Nat))(hlm:l<=m):
 Swift E S ⟨dst,.slice t x (some lo) none none,ty,pos,af,gd⟩ (.win n k (p+l) (m - l)):=Swift.mk fun β a w h=>by
 subst el;obtain⟨ad,ll,c,ad1,c1,h1,h2,h3,h4,h5,h6,h7⟩:=h.ev hx hox e' sz sh xs hl;have hv:a.eval lo=.int li (l:Nat):=h.ev hlo hol;refine⟨sliced ad1 l m c1 sz,fun w' _=>?_,fun e2 sz2 sh2 xs2 hl2=>?_⟩
 ·have:=mk1 (P:=E.P) ht ad1 m c1 l li hlm w';obtain⟨ie,hu,_⟩:=y3 ht;simp[execOp,Instr.sliceAt,h3,hv,this,run_underlying hu]
 ·rw[hl]at hl2;cases hl2;refine⟨ad,ll,c,_,c1 - l,h1,by omega,rfl,by omega,fun hne=>?_,by omega,fun hn=>?_⟩;rotate_left
  ·split at hn
   ·have:=h7 hn;omega
   ·have:ad1=none:=by cases ad1 with|none=>rfl|some q=>simp at hn
    have:=h7 this;omega
  rw[Ae (by omega),h5 (by omega)];obtain⟨ad',c',g1,_,_,g4⟩:=h.Te hl;rw[h1]at g1;simp only[Value.slice.injEq]at g1;obtain⟨rfl,_,_⟩:=g1;cases ad with
  |none=>rfl
  |some q=>
   obtain⟨b,rfl⟩:=g4 q rfl;simp[jg9,Fd]
theorem mq7 {t e sz n k p m l e':Nat}{sh:Bool}{xs:List D}{x hi:Operand}{li:IntKind}{lv:Int}[ht:TSlice E.P t e sz](hx:S.ev x=some (.win n k p m))(hox:Cn x=true)(hl:look n S.H=some (.row e' sz sh xs k))(hlo:S.ev hi=some (.d (.int li lv)))(hol:Cn hi=true)(el:lv=(l:Nat))(hlm:l<=m):
 Swift E S ⟨dst,.slice t x none (some hi) none,ty,pos,af,gd⟩ (.win n k p l):=Swift.mk fun β a w h=>by
 subst el;obtain⟨ad,ll,c,ad1,c1,h1,h2,h3,h4,h5,h6,h7⟩:=h.ev hx hox e' sz sh xs hl;have hv:a.eval hi=.int li (l:Nat):=h.ev hlo hol;refine⟨sliced ad1 0 l c1 sz,fun w' _=>?_,fun e2 sz2 sh2 xs2 hl2=>?_⟩
 ·have:=ke1 (P:=E.P) ht ad1 m c1 l li (by omega) w';obtain⟨ie,hu,_⟩:=y3 ht;simp[execOp,Instr.sliceAt,h3,hv,this,run_underlying hu]
 ·rw[hl]at hl2;cases hl2;refine⟨ad,ll,c,_,c1 - 0,h1,by omega,rfl,by omega,fun hne=>?_,by omega,fun hn=>?_⟩
  ·rw[Ae (by omega),h5 (by omega),Nat.zero_mul];cases ad<;>rfl
  ·split at hn
   ·have:=h7 hn;omega
   ·have:ad1=none:=by cases ad1 with|none=>rfl|some q=>simp at hn
    have:=h7 this;omega
theorem md3 {w:World}{M:Nat->Nat->Prop}{z:D}{u:Value}(hu:u.cells=#[u])(hz:Gw w M z u):∀ m:Nat,Gn w M 1 (List.replicate m z) (List.replicate m u)
 |0=>rfl
 |m+1=>⟨u,List.replicate m u,by rw[hu];rfl,by rw[hu];rfl,hz,md3 hu hz m⟩
theorem ku9 (u:Value)(m:Nat):(Builtin.zeroCells #[u] m).toList=List.replicate m u:=by
 unfold Builtin.zeroCells;apply List.ext_getElem
 ·simp
 ·intro i h1 h2;simp[Nat.mod_one]
theorem ml4 {t n k p m e:Nat}{x:Operand}{xs:List D}{z:D}[ht:TSlice E.P t e 1][hz:Pv E.P e z](hs:z.scalar=true)(hx:S.ev x=some (.win n k p m))(hox:Cn x=true)(hl:look n S.H=some (.row e 1 false xs k))(hle:p+m<=xs.length):
 Vx E S ⟨dst,.call {callee:=.builtin .clear,args:=#[x],argTypes:=#[t]},ty,pos,af,gd⟩ {S with H:=(n,.row e 1 false (xs.take p++List.replicate m z++xs.drop (p+m)) k)::S.H} (.tup []):=Vx.mk fun β a w h=>by
 obtain⟨ad,ll,c,ad1,c1,h1,h2,h3,h4,h5,h6,h7⟩:=h.ev hx hox e 1 false xs hl;obtain⟨ie,hu,hi,hsz,_⟩:=y3 ht;obtain⟨i0,u0,hi0,hu0,hrep⟩:=mk0 hz;have hone:u0.oneCell'=true:=(hrep (w:=w) (M:=fun _ _=>False)).oneOf hs;have hcells:u0.cells=#[u0]:=by cases u0<;>first|rfl|cases hone
 cases m with
 |zero=>
  refine⟨.tuple #[],w,β,?_,?_,⟨[],rfl,rfl⟩⟩
  ·cases ad1<;>simp[execOp,resolve,invoke,builtin,h3,Builtin.clear_,run_underlying hu]
  ·have e1:xs.take p++List.replicate 0 z++xs.drop (p+0)=xs:=by simp
   rw[e1];exact h.weak (fun _ _ h=>h) (fun m ob hm=>by
    rw[z7]at hm;split at hm
    ·rename_i e;subst e;rw[hl];exact hm
    ·exact hm) (fun _ _ h=>h) (fun m hm=>by
    rw[z7];split
    ·rfl
    ·exact h.has m hm)
 |succ m=>
  obtain⟨ys,q3,q4⟩:=h.obs n _ hl;obtain⟨g,cap,cur,q5,q6,q7,q8,q9,q10,q11⟩:∃ g cap cur,(β n).v=.slice (some ⟨g,0,none⟩) xs.length cap/\0<=g/\w.heap[g]? =some (.cells cur e (0,0))/\xs.length<=cap/\cap<=maxLen/\cur.size=cap * 1/\cur.toList.take (xs.length * 1)=ys:=by
   rcases q3.2 with ⟨q,q'⟩|q
   ·omega
   ·exact q
  rw[h1]at q5;simp only[Value.slice.injEq]at q5;obtain⟨rfl,rfl,rfl⟩:=q5;have h8:ad1=some ⟨g,p,none⟩:=by rw[h5 (by omega)];simp[jg9]
  subst h8;have hst:=run_storeCells_at E.P g p e (List.replicate (m+1) u0) 0 cur w q7 (by simp;omega) (fun u hu=>by rw[List.eq_of_mem_replicate hu];exact hone);simp only[Nat.add_zero]at hst;have hbn:hb (β n).v=some g:=by rw[h1];rfl
  have hH:∀ m' e' sz' sh' xs' k',look m' ((n,Ob.row e 1 false (xs.take p++List.replicate (m+1) z++xs.drop (p+(m+1))) k)::S.H)=some (.row e' sz' sh' xs' k')->∃ sh' xs',look m' S.H=some (.row e' sz' sh' xs' k'):=fun m' e' sz' sh' xs' k' hm=>by
   rw[z7]at hm;split at hm
   ·rename_i eq;subst eq;cases hm;exact⟨false,xs,hl⟩
   ·exact⟨sh',xs',hm⟩
  have hlx:(xs.take p++List.replicate (m+1) z++xs.drop (p+(m+1))).length=xs.length:=by simp;omega
  have hly:=q4.length;refine⟨.tuple #[],_,β,?_,h.turn (w':=w.setRow g (cur.toList.take p++List.replicate (m+1) u0++cur.toList.drop (p+(List.replicate (m+1) u0).length)).toArray) hl (fun _ _=>rfl) rfl rfl rfl (by simp) (fun k _ hk=>setRow_other w g k _ (fun e=>hk (by rw[hbn,e]))) (fun b h=>.inl h) (fun b' o' y h4 h5 _=>absurd (.inl rfl) h5) (fun _ _ _ _ _=>.inl rfl)
   (fun k t x v _=>Dp.keep k (fun _=>rfl) hH x v) (fun _=>rfl) (fun k m cs vs _ _=>Cv.keep k (fun _=>rfl) hH _ vs) (fun kp=>?_),⟨[],rfl,rfl⟩⟩
  ·have hzc:(Builtin.zeroCells u0.cells (m+1)).toList=List.replicate (m+1) u0:=by rw[hcells,ku9]
   simp[execOp,resolve,invoke,builtin,h3,Builtin.clear_,run_underlying hu,jm8 hi0 hu0,hzc,hst]
  ·refine⟨ys.take p++List.replicate (m+1) u0++ys.drop (p+(m+1)),⟨?_,.inr ⟨g,c,_,?_,q6,setRow_heap w g _ _ e _ q7,by rw[hlx];exact q8,q9,?_,?_⟩⟩,?_⟩
   ·rw[hlx];simp;omega
   ·rw[hlx,h1]
   ·simp;omega
   ·rw[hlx,<-q11];simp only[Nat.mul_one];simp only[List.toList_toArray,Eh];apply Fu;intro i;simp only[Et,List.getElem?_append,Ag,Aj,Eh,Eo,List.getElem?_replicate,Array.length_toList]
    grind
   ·have r1:=Gn.take p (Gn.keep kp _ _ _ q4) (by omega);have r2:=Gn.drop (p+(m+1)) (Gn.keep kp _ _ _ q4) hle;simp only[Nat.mul_one]at r1 r2;exact(r1.append (md3 hcells hrep (m+1))).append r2
theorem rf5 {C:Ctx}{env:List (Nat × V)}{H:List (Nat × Ob)}{gl:List (Nat × List D)}(t:Nat){n k p m e sz:Nat}{sh:Bool}{xs:List D}(ht:look t env=some (.win n k p m))(hl:look n H=some (.row e sz sh xs k))(hle:p+m<=xs.length):
 Wk C ⟨env,H,gl⟩ ⟨(t,.d (.list sz ((xs.drop p).take m)))::env,(n,.row e sz true xs k)::H,gl⟩:=fun a w ⟨β,hB⟩=>by
 have hB2:=hB.share hl;refine⟨β,{hB2 with env:=fun s v hs=>?_}⟩;dsimp only at hs;rw[j5]at hs;split at hs
 ·rename_i e1;subst e1;cases hs;have hl2:look n ((n,Ob.row e sz true xs k)::H)=some (.row e sz true xs k):=by rw[j5,Ad rfl]
  obtain⟨x,h1,h2⟩:=hB2.env t _ ht;refine⟨x,h1,?_⟩;obtain⟨ad,ll,c,ad1,c1,h3,h4,h5,h6,h7,h8,h9⟩:=h2 e sz true xs hl2;obtain⟨ys,q3,q4⟩:=hB2.obs n _ hl2;have hlen:((xs.drop p).take m).length=m:=by simp;omega
  refine⟨ad1,c1,(ys.drop (p * sz)).take (m * sz),by rw[hlen];exact h5,by rw[hlen];exact h6,h8,h9,Gn.take m (Gn.drop p q4 (by omega)) (by simp;omega),fun j y hj=>?_⟩;rcases q3.2 with ⟨q,q'⟩|⟨g,cap,cur,q5,q6,q7,q8,q9,q10,q11⟩
  ·have:m=0:=by omega
   subst this;simp at hj
  ·have hm:m≠0:=by
    rintro rfl;simp at hj
   rw[h3]at q5;simp only[Value.slice.injEq]at q5;obtain⟨rfl,rfl,rfl⟩:=q5;rw[h7 hm];rw[Et]at hj;split at hj
   ·rename_i hlt;rw[Eo,<-q11,Et]at hj;split at hj
    ·rename_i hlt2;refine⟨g,p * sz,by simp[jg9],fun hmut=>?_,?_⟩
     ·rcases hmut with hmut|⟨n2,ob2,g1,g2,g3⟩
      ·exact hB2.out n _ g (p * sz+j) hl2 ((x9 rfl).2 (by rw[h3];rfl)) hmut
      ·by_cases hn2:n=n2
       ·subst hn2;rw[hl2]at g1;cases g1;rcases g3 with g3|g3
        ·cases g3
        ·omega
       ·exact hB2.apart n n2 g _ ob2 hn2 hl2 g1 ((x9 rfl).2 (by rw[h3];rfl)) g2
     ·have:cur[p * sz+j]? =some y:=by simpa using hj
      simp[World.cell?,q7,this]
    ·cases hj
   ·cases hj
 ·exact hB2.env s v hs
end
end
section
section
variable {E:Set}{S:Sd}{dst:Option Tmp}{ty:TypeId}{pos:String}{af:Array Edge}{gd:Option (Nat × Bool)}
end
section
variable {E:Set}{Q:Exit->Sd->Prop}{ops:Array Oper}{draw:Bool}{rest:Todo}{way:Jh}{ty:TypeId}{pos:String}{af:Array Edge}{gd:Option (Nat × Bool)}
variable {env:List (Nat × V)}{H:List (Nat × Ob)}{gl:List (Nat × List D)}{d:Nat}
theorem kv0 {C:Ctx}(t:Nat){v:V}{x:D}(hl:look t env=some v)(hd:ToD H v x):Wk C ⟨env,H,gl⟩ ⟨(t,.d x)::env,H,gl⟩:=fun a w ⟨β,h⟩=>by
 refine⟨β,{h with env:=?_}⟩;intro s u hs;dsimp only at hs;rw[j5]at hs;split at hs
 ·rename_i e;subst e;cases hs;obtain⟨y,h1,h2⟩:=h.env _ _ hl;exact⟨y,h1,hd.rep h h2⟩
 ·exact h.env s u hs
end
end
section
section
variable {E:Set}{S:Sd}{dst:Option Tmp}{ty:TypeId}{pos:String}{af:Array Edge}{gd:Option (Nat × Bool)}
end
section
variable {E:Set}{Q:Exit->Sd->Prop}{ops:Array Oper}{draw:Bool}{rest:Todo}{way:Jh}{ty:TypeId}{pos:String}{af:Array Edge}{gd:Option (Nat × Bool)}{S:Sd}
variable {env:List (Nat × V)}{H:List (Nat × Ob)}{gl:List (Nat × List D)}{d:Nat}
theorem kq4 {C:Ctx}(n:Nat){e sz k:Nat}(hl:look n H=some (.row e sz true [] k)):Wk C ⟨env,H,gl⟩ ⟨env,(n,.row e sz false [] k)::H,gl⟩:=fun a w ⟨β,h⟩=>by
 have hH:∀ m e' sz' sh' xs' k',look m ((n,Ob.row e sz false [] k)::H)=some (.row e' sz' sh' xs' k')->∃ sh' xs',look m H=some (.row e' sz' sh' xs' k'):=fun m e' sz' sh' xs' k' hm=>by
  rw[z7]at hm;split at hm
  ·rename_i e;subst e;cases hm;exact⟨true,[],hl⟩
  ·exact⟨sh',xs',hm⟩
 refine⟨β,h.turn (S:=⟨env,H,gl⟩) hl (fun _ _=>rfl) rfl rfl rfl (Au _) (fun _ _ _=>rfl) (fun b h=>.inl h) (fun _ _ _ _ _ h=>h) (fun b o _ _ _=>.inr (by simp))
  (fun k t x v _=>Dp.keep k (fun _=>rfl) hH x v) (fun _=>rfl) (fun k m cs vs _ _=>Cv.keep k (fun _=>rfl) hH _ vs) (fun k=>?_)⟩
 obtain⟨ys,h1,h2⟩:=h.obs n _ hl;exact⟨ys,h1,Gn.keep k _ _ _ h2⟩
def Exit.Vm (Q:Exit->Sd->Prop):Exit->Sd->Prop
 |.goto _,_=>False
 |e,S=>Q e S
theorem qv9 {c:Code}(hrd:E.rd=none)(h:TC E c (Exit.Vm Q) S):TC E (.scope c) Q S:=fun a w hS=>by
 have h1:=h a w hS;rw[hrd]at h1 ⊢;have h2:c.wp E.P (Qof E.C (Exit.Vm Q)) a w:=wpIn_wide.1 h1;refine wpIn_wide.2 (wp_scope_straight (Code.wp_mono (fun e a' w' h5=>?_) h2));obtain⟨S',h3,h4⟩:=h5;cases e with
 |goto l=>exact h4.elim
 |_=>exact⟨S',h3,h4⟩
end
end
section
theorem FnD.Wm {P:Program}{gl:List (Nat × List D)}{f:FuncId}{args:List V}{n e sz:Nat}{xs:List D}(h:FnE P gl f args [] (fun v H1=>∃ k,v=.own n k/\H1=[(n,.row e sz true xs k)])):FnD P gl f args (fun v=>v=.d (.list sz xs)):=fun w M us hM hus hg=>by
 have hM0:Mut M qc1 []=M:=by
  funext b o;apply propext;constructor
  ·rintro(h|⟨n,ob,h1,_⟩)
   ·exact h
   ·cases h1
  ·exact .inl
 have h0:=h w M qc1 us hM (by rw[hM0];exact hus) ⟨fun n ob hl=>(by cases hl),fun n m b ob ob' _ hl=>(by cases hl),fun n ob b o hl=>(by cases hl)⟩ (by rw[hM0];exact hg);refine h0.mono ?_;rintro en w' ⟨v,x,H1,β1,⟨k,rfl,rfl⟩,hok,rfl,hfr,hfix,hnew,hobs,hv⟩;have hl:look n [(n,Ob.row e sz true xs k)]=some (.row e sz true xs k):=by rw[j5,Ad rfl]
 have he:x=(β1 n).v:=hv e sz true xs hl;subst he;refine⟨.d (.list sz xs),_,rfl,.d _,rfl,hfr.below,?_⟩;obtain⟨ys,h1,h2⟩:=hobs.obs n _ hl;have hk:∀ b o,M b o->Mut M β1 [(n,Ob.row e sz true xs k)] b o:=fun b o h=>.inl h;obtain⟨a',c,hv',h3,h4,h5⟩:=jd6 h1;refine⟨a',c,ys,hv',h3,h4,h5,Gn.keep (Keeps.weak hk) _ _ _ h2,fun j y hj=>?_⟩;have h1':=h1;rw[hv']at h1';obtain⟨b,o,e',_,hc⟩:=(Sl.Rb h1').rd j y hj;exact⟨b,o,e',fun hm=>hobs.out n _ b _ hl (.inl (by rw[hv',e'];rfl)) hm,hc⟩
theorem FnE.fix {P:Program}{gl:List (Nat × List D)}{f:FuncId}{args:List V}{n e sz:Nat}{xs:List D}(h:FnE P gl f args [] (fun v H1=>∃ k,v=.own n k/\H1=[(n,.row e sz true xs k)])):FnE P gl f args [] (fun v H1=>v=.own n 0/\H1=[(n,.row e sz true xs 0)]):=fun w M β us h1 h2 h3 h4=>by
 refine(h w M β us h1 h2 h3 h4).mono ?_;rintro en w' ⟨v,x,H1,β1,⟨k,rfl,rfl⟩,hok,rfl,hfr,hfix,hnew,hobs,hv⟩;have hl:∀ (k m:Nat) (ob:Ob),look m [(n,Ob.row e sz true xs k)]=some ob->m=n/\ob=.row e sz true xs k:=fun k m ob hm=>by
  rw[j5]at hm;split at hm
  ·rename_i e';cases hm;exact⟨e'.symm,rfl⟩
  ·cases hm
 have hn:∀ k:Nat,look n [(n,Ob.row e sz true xs k)]=some (.row e sz true xs k):=fun k=>by rw[j5,Ad rfl]
 have hM:∀ b o,Mut M β1 [(n,Ob.row e sz true xs 0)] b o->Mut M β1 [(n,Ob.row e sz true xs k)] b o:=fun b o hm=>by
  rcases hm with hm|⟨m,ob,h5,h6,h7⟩
  ·exact .inl hm
  ·obtain⟨rfl,rfl⟩:=hl _ _ _ h5;exact .inr ⟨m,_,hn k,h6,h7⟩
 refine⟨.own n 0,x,[(n,.row e sz true xs 0)],β1,⟨rfl,rfl⟩,?_,rfl,hfr,hfix,fun m ob b hm hb2=>?_,⟨fun m ob hm=>?_,fun m m' b ob ob' hne h5 h6 _=>?_,fun m ob b o hm hb2=>?_⟩,fun e' sz' sh' xs' hm=>?_⟩
 ·simp[Np,mj6,mj5,kp4,V.within,kf9,Ob.cells,jf3,look,hn]
 ·obtain⟨rfl,rfl⟩:=hl _ _ _ hm;exact hnew m _ b (hn k) hb2
 ·obtain⟨rfl,rfl⟩:=hl _ _ _ hm;obtain⟨ys,h5,h6⟩:=hobs.obs m _ (hn k);exact⟨ys,h5,Gn.keep (Keeps.weak hM) _ _ _ h6⟩
 ·obtain⟨rfl,_⟩:=hl _ _ _ h5;obtain⟨rfl,_⟩:=hl _ _ _ h6;exact absurd rfl hne
 ·obtain⟨rfl,rfl⟩:=hl _ _ _ hm;exact hobs.out m _ b o (hn k) hb2
 ·exact hv e sz true xs (hn k)
end
section
namespace Sc
open Classical
variable {old fr:ByteArray}{m:Bool}
end Sc
end
end Go.Proofs.YtklklgfpkpglgaaGreatDoor
