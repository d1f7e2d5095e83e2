/- Parts: D20, D21, D22, D23. -/
import Derived.Test.YtdopmfifmgkmoaaGreatDoorP11
set_option linter.all false
set_option maxRecDepth 100000
set_option maxHeartbeats 16000000
namespace Go.Proofs.YtdopmfifmgkmoaaGreatDoor
open Go.RowKit
section
def mr2 (P:Program)(t:Nat)(x:D):Bool:=match P.info? t with
 |some i=>(match i.zero with
  |some (.agg cs)=>(match x with|.agg ds=>kn9 cs.toList ds|_=>false)
  |some z=>kn9 [z] [x]
  |none=>false)
 |none=>false
class TZeroD (P:Program)(t:Nat)(x:outParam D):Prop where
 ok:mr2 P t x=true
theorem mr3 {P:Program}{t:Nat}{x:D}(h:TZeroD P t x):∃ i z,P.info? t=some i/\i.zero=some z/\∀ {w:World} {M:Nat->Nat->Prop},RepD w M x z:=by
 have:=h.ok
 unfold mr2 at this
 cases hi:P.info? t with
 |none=>rw[hi]at this;cases this
 |some i=>
  rw[hi]at this
  dsimp only at this
  cases hz:i.zero with
  |none=>rw[hz]at this;cases this
  |some z=>
   rw[hz]at this
   refine⟨i,z,rfl,hz,?_⟩
   intro w M
   have one:kn9 [z] [x]=true->RepD w M x z:=fun h=>by
    obtain⟨v,r,e,_,h1,_⟩:=jo2 (w:=w) (M:=M) h
    cases e
    exact h1
   cases z
   case agg cs=>
    dsimp only at this
    split at this
    ·exact⟨cs.toList,by simp,jo2 this⟩
    ·cases this
   all_goals exact one this
section
variable {E:Set}{Q:Exit->Sd->Prop}{ops:Array Oper}{draw:Bool}{rest:Todo}{way:Way3}{ty:TypeId}{pos:String}{af:Array Edge}{gd:Option (Nat × Bool)}{dst:Option Tmp}
variable {env:List (Nat × V)}{H:List (Nat × Ob)}{gl:List (Nat × List D)}{d:Nat}
theorem ko3 {w:World}{M:Nat->Nat->Prop}{x:D}{z:Value}(hr:RepD w M x z){sz:Nat}(hs:z.cells.size=sz)(hpos:0<sz):∀ n,RepE w M sz (List.replicate n x) (madeCells z.cells (n * sz)).toList:=by
 intro n
 induction n with
 |zero=>simp[madeCells,RepE]
 |succ n ih=>
  have e:(madeCells z.cells ((n+1) * sz)).toList=z.cells.toList++(madeCells z.cells (n * sz)).toList:=by
   apply List.ext_getElem?
   intro j
   simp only[madeCells,Array.toList_map,Array.toList_range,List.getElem?_map]
   by_cases hj:j<sz
   ·rw[List.getElem?_append_left (by simp[hs,hj])]
    have:j<(n+1) * sz:=by rw[Nat.add_mul];omega
    rw[List.getElem?_range this]
    simp only[Option.map_some,hs,Nat.mod_eq_of_lt hj]
    rw[Array.getElem?_toList,Array.getElem?_eq_getElem (by omega)]
    rw[getElem!_pos z.cells j (by omega)]
   ·rw[List.getElem?_append_right (by simp[hs];omega)]
    simp only[Array.length_toList,hs,List.getElem?_map]
    by_cases hj2:j<(n+1) * sz
    ·have:j - sz<n * sz:=by rw[Nat.add_mul]at hj2;omega
     rw[List.getElem?_range hj2,List.getElem?_range this]
     simp only[Option.map_some]
     rw[Nat.mod_eq_sub_mod (by omega)]
    ·have:¬j - sz<n * sz:=by rw[Nat.add_mul]at hj2;omega
     rw[List.getElem?_eq_none (by simp;omega),List.getElem?_eq_none (by simp;omega)]
  rw[List.replicate_succ,e]
  exact⟨z,_,rfl,hs,hr,ih⟩
theorem qy5 {S:Sd}{n t e sz m:Nat}{k:IntKind}{p:Int}{x:Operand}{z:D}[ht:TSlice E.P t e sz][hz:TZeroD E.P e z](hx:S.ev x=some (.d (.int k p)))(hox:okOp x=true)(hp:p=(m:Nat))(hm:m<=1000000000)(hn:S.fresh n=true):
 Grow E S ⟨some d,.makeSlice t x x,ty,pos,af,gd⟩ {S with H:=(n,.row e sz false (List.replicate m z) 0)::S.H} (.own n 0):=Grow.mk fun β a w h=>by
 subst hp
 obtain⟨bytes,⟨i,z',hu,hi,hz',hs,hby,hzs,hpos⟩,hbl⟩:=jk3 ht
 obtain⟨i2,z2,hi2,hz2,hzr⟩:=mr3 hz
 rw[hi]at hi2
 cases hi2
 rw[hz']at hz2
 cases hz2
 have h1:a.eval x=.int k (m:Nat):=h.ev hx hox
 obtain⟨w',h2,h3,h4⟩:=run_make_full (P:=E.P) w 0 t e i z' sz hu hi hz' hs k k m (by rw[hby];have:=Nat.mul_le_mul hbl hm;omega) (by unfold maxLen;omega) (Nat.zero_le _)
 have g:Grows w w':=(Below.refl _ _).grown h4 (Nat.le_refl _) (fun k hk=>by cases hk)
 refine⟨_,w',_,?_,g,h.newRow (sh:=false) (xs:=List.replicate m z) hn g (fun b hb'=>?_) (by rw[List.length_replicate];exact h3) (ko3 hzr hzs hpos m),jv5⟩
 ·simp only[execOp,h1,Sem.run_bind,h2,Result.andThen_ok,Sem.run_pure]
 ·simp only[Value.ownBlock,Option.some.injEq]at hb'
  omega
theorem qy6 (n:Nat){t e sz m:Nat}{k:IntKind}{p:Int}{x:Operand}{z:D}[ht:TSlice E.P t e sz][hz:TZeroD E.P e z](hx:Sd.ev ⟨env,H,gl⟩ x=some (.d (.int k p)))(hox:okOp x=true)(hp:p=(m:Nat))(hm:m<=1000000000)(hn:Sd.fresh ⟨env,H,gl⟩ n=true)(hd:d<E.C.nt)
 (hg:Sd.gd ⟨env,H,gl⟩ ops ⟨some d,.makeSlice t x x,ty,pos,af,gd⟩=some true) (hw:way.loud=true) (h:TR E draw ops Q rest ⟨(d,.own n 0)::env,(n,.row e sz false (List.replicate m z) 0)::H,gl⟩):
 TR E draw ops Q (.step ⟨some d,.makeSlice t x x,ty,pos,af,gd⟩ way rest) ⟨env,H,gl⟩:=jx5 (qy5 hx hox hp hm hn) rfl hd hg rfl hw h
theorem me5 {w:World}{M:Nat->Nat->Prop}{sz:Nat}{z:D}{u:Value}(hu:u.cells.size=sz)(hz:RepD w M z u):∀ {xs:List D} {vs:List Value},RepE w M sz xs vs->∀ {i:Nat},i<xs.length->RepE w M sz (xs.set i z) (vs.take (i * sz)++u.cells.toList++vs.drop (i * sz+sz))
 |[],_,_,i,hi=>by simp at hi
 |x::xs,_,⟨v,r,e,h2,h3,h4⟩,0,_=>by
  subst e
  refine⟨u,r,?_,hu,hz,h4⟩
  have:v.cells.toList.length=sz:=by simpa using h2
  simp[<-this]
 |x::xs,_,⟨v,r,e,h2,h3,h4⟩,i+1,hi=>by
  subst e
  have hl:v.cells.toList.length=sz:=by simpa using h2
  refine⟨v,_,?_,h2,h3,me5 hu hz h4 (i:=i) (by simpa using hi)⟩
  have e1:(i+1) * sz=v.cells.toList.length+i * sz:=by rw[hl,Nat.add_mul];omega
  rw[e1,List.take_append,List.take_of_length_le (by omega),Nat.add_sub_cancel_left,Nat.add_assoc,List.drop_append,List.drop_of_length_le (by omega),Nat.add_sub_cancel_left]
  simp
theorem mj9 {S:Sd}{t n k i e sz:Nat}{x y:Operand}{v:V}{z:D}{xs zs:List D}[ht:TSize E.P t sz](hx:S.ev x=some (.el n k i 0))(hox:okOp x=true)(hl:look n S.H=some (.row e sz false xs k))(hy:S.ev y=some v)(hoy:okOp y=true)(hz:ToD S.H v z)(hc:CellsD z zs)(hm:zs.length=sz)(hi:i<xs.length):
 Turn E S ⟨none,.store t x y,ty,pos,af,gd⟩ {S with H:=(n,.row e sz false (xs.set i z) k)::S.H}:=Turn.mk fun β a w h=>by
 obtain⟨b,l,c,h1,h2⟩:=h.ev hx hox e sz false xs hl
 obtain⟨ys,h3,h4⟩:=h.obs n _ hl
 have hzr:=hz.rep h (h.ev hy hoy)
 obtain⟨g,cap,cur,h5,h6,h7,h8,h9,h10,h11⟩:∃ g cap cur,(β n).v=.slice (some ⟨g,0,none⟩) xs.length cap/\0<=g/\w.heap[g]? =some (.cells cur e (0,0))/\xs.length<=cap/\cap<=maxLen/\cur.size=cap * sz/\cur.toList.take (xs.length * sz)=ys:=by
  rcases h3.2 with ⟨q,_⟩|q
  ·rw[h1]at q;cases q
  ·exact q
 rw[h1]at h5
 simp only[Value.slice.injEq,Option.some.injEq,Addr.mk.injEq,and_true]at h5
 obtain⟨rfl,_,rfl⟩:=h5
 cases hinf:E.P.info? t with
 |none=>have:=ht.ok;rw[hinf]at this;cases this
 |some inf=>
  have hsz:inf.size=sz:=by have:=ht.ok;rw[hinf]at this;simpa using this
  have hzl:(a.eval y).cells.size=sz:=by have:=(hc.rep hzr).length;simp at this;omega
  have hend:i * sz+sz<=xs.length * sz:=by
   rw[show i * sz+sz=(i+1) * sz by rw[Nat.add_mul];omega]
   exact Nat.mul_le_mul_right _ (by omega)
  have hend2:xs.length * sz<=cur.size:=by rw[h10];exact Nat.mul_le_mul_right _ h8
  have hst:=run_storeCells_at E.P b (i * sz) e (a.eval y).cells.toList 0 cur w h7 (by simp;omega) (hzr.one)
  simp only[Nat.add_zero]at hst
  have hlen:(a.eval y).cells.toList.length=sz:=by simpa using hzl
  have hbn:hb (β n).v=some b:=by rw[h1];rfl
  have hH:∀ m e' sz' sh' xs' k',look m ((n,Ob.row e sz false (xs.set i z) k)::S.H)=some (.row e' sz' sh' xs' k')->∃ sh' xs',look m S.H=some (.row e' sz' sh' xs' k'):=fun m e' sz' sh' xs' k' hm=>by
   rw[jb4]at hm
   split at hm
   ·rename_i eq
    subst eq
    cases hm
    exact⟨false,xs,hl⟩
   ·exact⟨sh',xs',hm⟩
  refine⟨_,?_,β,h.turn (w':=w.setRow b (cur.toList.take (i * sz)++(a.eval y).cells.toList++cur.toList.drop (i * sz+(a.eval y).cells.toList.length)).toArray) hl (fun _ _=>rfl) rfl rfl rfl (by simp) (fun k _ hk=>setRow_other w b k _ (fun e=>hk (by rw[hbn,e]))) (fun b h=>.inl h) (fun b' o' y h4 h5 _=>absurd (.inl rfl) h5) (fun _ _ _ _ _=>.inl rfl)
   (fun k t x v _=>RepV.keep k (fun _=>rfl) hH x v) (fun _=>rfl) (fun k m cs vs _ _=>RepL.keep k (fun _=>rfl) hH _ vs) (fun kp=>?_)⟩
  ·simp only[Nat.add_zero]at h2
   simp[execOp,h2,Instr.storeAt,Instr.sureAddr,storeVar,jd1 hinf,hsz,hzl,hst]
  ·refine⟨ys.take (i * sz)++(a.eval y).cells.toList++ys.drop (i * sz+sz),⟨?_,.inr ⟨b,c,_,?_,h6,setRow_heap w b _ _ e _ h7,by rw[List.length_set];exact h8,h9,?_,?_⟩⟩,me5 hzl (RepD.keep kp _ _ hzr) (RepE.keep kp _ _ _ h4) hi⟩
   ·have:=h4.length
    simp only[List.length_append,List.length_take,List.length_drop,List.length_set,hlen,this]
    omega
   ·rw[List.length_set]
    rw[h1]
    congr 1
   ·simp only[List.size_toArray,List.length_append,List.length_take,List.length_drop,Array.length_toList,hlen]
    omega
   ·rw[<-h11,List.length_set,hlen]
    have hl1:(cur.toList.take (i * sz)).length=i * sz:=by simp;omega
    rw[List.append_assoc,List.take_append,hl1,List.take_of_length_le (by omega),List.take_append,hlen,List.take_of_length_le (l:=(a.eval y).cells.toList) (by omega),List.append_assoc,List.take_take,Nat.min_eq_left (by omega)]
    congr 2
    rw[List.drop_take]
    congr 1
    omega
theorem mk0 {t n k i e sz:Nat}{x y:Operand}{v:V}{z:D}{xs zs:List D}[ht:TSize E.P t sz](hx:Sd.ev ⟨env,H,gl⟩ x=some (.el n k i 0))(hox:okOp x=true)(hl:look n H=some (.row e sz false xs k))(hy:Sd.ev ⟨env,H,gl⟩ y=some v)(hoy:okOp y=true)(hz:ToD H v z)(hc:CellsD z zs)(hm:zs.length=sz)(hi:i<xs.length)
 (hg:Sd.gd ⟨env,H,gl⟩ ops ⟨none,.store t x y,ty,pos,af,gd⟩=some true) (hw:isBar draw way=true)
 (h:TR E draw ops Q rest ⟨env,(n,.row e sz false (xs.set i z) k)::H,gl⟩):TR E draw ops Q (.step ⟨none,.store t x y,ty,pos,af,gd⟩ way rest) ⟨env,H,gl⟩:=kg9 (mj9 hx hox hl hy hoy hz hc hm hi) rfl hg rfl hw h
end
end
section
section
variable {E:Set}{Q:Exit->Sd->Prop}{ops:Array Oper}{draw:Bool}{rest:Todo}{way:Way3}{ty:TypeId}{pos:String}{af:Array Edge}{gd:Option (Nat × Bool)}{dst:Option Tmp}
variable {env:List (Nat × V)}{H:List (Nat × Ob)}{gl:List (Nat × List D)}{d:Nat}
theorem StB.row_shape {C:Ctx}{S:Sd}{β:Nat->Hd}{a:Act}{w:World}(h:StB C β S a w){n e sz k:Nat}{sh:Bool}{xs:List D}(hl:look n S.H=some (.row e sz sh xs k)):∃ ad c,(β n).v=.slice ad xs.length c/\xs.length<=c/\(ad=none->c=0)/\(∀ p,ad=some p->∃ b,p=⟨b,0,none⟩):=by
 obtain⟨ys,h1,_⟩:=h.obs n _ hl
 rcases h1.2 with ⟨q1,q2⟩|⟨g,cap,cur,q,_,_,q3,_⟩
 ·exact⟨none,0,by rw[q1,q2],by omega,fun _=>rfl,fun p hp=>by cases hp⟩
 ·exact⟨_,cap,q,q3,(fun e=>by cases e),fun p hp=>by cases hp;exact⟨_,rfl⟩⟩
end
end
section
section
variable {E:Set}{Q:Exit->Sd->Prop}{ops:Array Oper}{draw:Bool}{rest:Todo}{way:Way3}{ty:TypeId}{pos:String}{af:Array Edge}{gd:Option (Nat × Bool)}{dst:Option Tmp}
variable {env:List (Nat × V)}{H:List (Nat × Ob)}{gl:List (Nat × List D)}{d:Nat}
end
end
section
section
variable {E:Set}{Q:Exit->Sd->Prop}{ops:Array Oper}{draw:Bool}{rest:Todo}{way:Way3}{ty:TypeId}{pos:String}{af:Array Edge}{gd:Option (Nat × Bool)}{dst:Option Tmp}
variable {env:List (Nat × V)}{H:List (Nat × Ob)}{gl:List (Nat × List D)}{d:Nat}
theorem jo4 {c:Code}(n:Nat){e sz k:Nat}{sh:Bool}{xs:List D}(hn:look n H=some (.row e sz sh xs k))(h:TC E c Q ⟨env,(n,.row e sz true xs k)::H,gl⟩):TC E c Q ⟨env,H,gl⟩:=fun a w ⟨β,hB⟩=>h a w ⟨β,hB.share hn⟩
inductive Frz (H:List (Nat × Ob)):List V->List D->List Nat->Prop
 |nil:Frz H [] [] []
 |cons {v:V} {x:D} {vs:List V} {xs:List D} {ms:List Nat} (h:ToD H v x) (t:Frz H vs xs ms):Frz H (v::vs) (x::xs) ms
 |map {m:Nat} {ks us:List D} {vs:List V} {xs:List D} {ms:List Nat} (h:look m H=some (.map ks us)) (t:Frz H vs xs ms):Frz H (.map m::vs) (.map ks us::xs) (m::ms)
theorem jm1 {c:Code}{t n off:Nat}{cs:List V}{ds:List D}{ms:List Nat}{env':List (Nat × V)}{H':List (Nat × Ob)}(hl:look t env=some (.ptr n off))(hb':look n H=some (.box cs))(hf:Frz H cs ds ms)(hsc:ds.all D.scalar=true)(h1:Sub env env')(h2:Sub H H')
 (hn:((n::ms).all fun m=>(look m H').isNone)=true) (hN:(E.C.N.all fun n=>(look n H').isSome)=true) (h:TC E c Q ⟨(t,.d (.ref ds off))::env',H',gl⟩):TC E c Q ⟨env,H,gl⟩:=fun a w ⟨β,hB⟩=>by
 have hB':=hB.weak (S':=⟨env',H',gl⟩) (fun t v h=>h1.look h) (fun n ob h=>h2.look h) (fun _ _ h=>h) (fun n hn=>List.all_eq_true.1 hN n hn)
 have hne:∀ m,m∈n::ms->look m H'=none:=fun m hm=>by simpa using List.all_eq_true.1 hn m hm
 have hk:Keeps w (Mut E.C.M0 β H) w (Mut E.C.M0 β H'):=Keeps.weak fun b o hm=>by
  rcases hm with hm|⟨m,ob,q1,q2,q3⟩
  ·exact .inl hm
  ·exact .inr ⟨m,ob,h2.look q1,q2,q3⟩
 have hfree:∀ m ob b o,m∈n::ms->look m H=some ob->hb (β m).v=some b->¬Mut E.C.M0 β H' b o:=fun m ob b o hm hlm hbm hmut=>by
  rcases hmut with q|⟨m2,ob2,q1,q2,q3⟩
  ·exact hB.out m ob b o hlm (.inl hbm) q
  ·have:m≠m2:=by rintro rfl;rw[hne m hm]at q1;cases q1
   exact hB.apart m m2 b ob ob2 this hlm (h2.look q1) (.inl hbm) q2
 refine h a w ⟨β,{hB' with env:=fun s v hs=>?_}⟩
 dsimp only at hs
 rw[j8]at hs
 split at hs
 ·rename_i e
  subst e
  cases hs
  obtain⟨x,q1,b,q2,rfl⟩:=hB.env t _ hl
  obtain⟨b2,vs,ty,q3,q4,q5⟩:=hB.obs n _ hb'
  rw[q2]at q3
  cases q3
  refine⟨_,q1,b,0,vs,by rw[Nat.zero_add],?_,fun j y hj=>⟨b,0,rfl,?_,?_⟩⟩
  ·have:∀ (cs:List V) (ds:List D) (ms':List Nat),Frz H cs ds ms'->ds.all D.scalar=true->(∀ m∈ms',m∈ms)->∀ vs,RepL w (Mut E.C.M0 β H) β H cs vs->RepA w (Mut E.C.M0 β H') ds vs:=fun cs ds ms' hf=>by
    induction hf with
    |nil=>intro _ _ vs h;exact h
    |cons hd _ ih=>
     intro hs hm vs hv
     obtain⟨u,r,rfl,r1,r2⟩:=hv
     simp only[List.all_cons,Bool.and_eq_true]at hs
     have r3:=hd.rep hB r1
     exact⟨u,r,rfl,r3.oneOf hs.1,RepD.keep hk _ _ r3,ih hs.2 hm r r2⟩
    |@map m ks us vs' xs ms2 hlm _ ih=>
     intro hs hm vs hv
     obtain⟨u,r,rfl,⟨rr,r1,r1'⟩,r2⟩:=hv
     simp only[List.all_cons,Bool.and_eq_true]at hs
     obtain⟨r0,es,clock,r3,r4,r5,r6,_⟩:=hB.obs m _ hlm
     rw[r1]at r3
     cases r3
     subst r1'
     exact⟨_,r,rfl,rfl,⟨rr,es,clock,rfl,r4,fun o=>hfree m _ rr o (List.mem_cons_of_mem _ (hm m List.mem_cons_self)) hlm (by rw[r1];rfl),RepB.keep hk _ _ r5,RepB.keep hk _ _ r6⟩,ih hs.2 (fun m' h'=>hm m' (List.mem_cons_of_mem _ h')) r r2⟩
   exact this cs ds ms hf hsc (fun m h=>h) vs q5
  ·exact hfree n _ b _ List.mem_cons_self hb' (by rw[q2];rfl)
  ·rw[Nat.zero_add]
   exact ks0 q4 hj
 ·exact hB'.env s v hs
inductive BuildV (P:Program)(S:Sd)(t:Nat):List V->List (Nat × Operand)->List V->Prop
 |nil (zs:List V):BuildV P S t zs [] zs
 |cons {zs zs' ds cs:List V} {f off ft m:Nat} {x:Operand} {v:V} {ps:List (Nat × Operand)} [hf:TField P t f off ft] [hs:TSize P ft m] (hx:S.ev x=some v) (ho:okOp x=true) (hw:ownOk S v=true) (hc:CellsV v cs) (hm:cs.length=m) (hr:Repl zs off cs zs') (h:BuildV P S t zs' ps ds):
  BuildV P S t zs ((f,x)::ps) ds
theorem RepL.cut {w:World}{M:Nat->Nat->Prop}{β:Nat->Hd}{H:List (Nat × Ob)}:∀ (k:Nat) {l:List V} {m:List Value},RepL w M β H l m->RepL w M β H (l.take k) (m.take k)/\RepL w M β H (l.drop k) (m.drop k)
 |0,_,_,h=>⟨by simp[RepL],h⟩
 |k+1,[],_,h=>by simp only[RepL]at h;subst h;exact⟨by simp[RepL],by simp[RepL]⟩
 |k+1,y::l,_,h=>by
  obtain⟨v,r,rfl,h5,h6⟩:=h
  obtain⟨q1,q2⟩:=RepL.cut k h6
  exact⟨⟨v,_,rfl,h5,q1⟩,q2⟩
theorem BuildV.rep {P:Program}{C:Ctx}{β:Nat->Hd}{S:Sd}{a:Act}{w:World}(h:StB C β S a w){t:Nat}{fs:Array Field}(hu:P.underlying t=some (.struct fs)){places:Array (Nat × Nat)}(hp:∀ (f:Nat) (fd:Field) i,fs[f]? =some fd->P.info? fd.type=some i->places[f]? =some (fd.offset,i.size))
 {zs ds:List V} {ps:List (Nat × Operand)} (hb:BuildV P S t zs ps ds):∀ {us:List Value},RepL w (Mut C.M0 β S.H) β S.H zs us->(∀ u∈us,u.oneCell'=true)->
 ∃ vs:List Value,Instr.fill (places[·]?) us.toArray (ps.map fun x=>(x.1,a.eval x.2))=some vs.toArray/\RepL w (Mut C.M0 β S.H) β S.H ds vs/\∀ u∈vs,u.oneCell'=true:=by
 induction hb with
 |nil zs=>intro us hr h1;exact⟨us,rfl,hr,h1⟩
 |@cons zs zs' ds cs f off ft m x v ps hf hs hx ho hw hc hm hr hb ih=>
  intro us hrep hone
  obtain⟨fs',fd,i,hu',h1,h2,h3,h4,_⟩:=jr3 hf
  rw[hu]at hu'
  cases hu'
  have hi:i.size=m:=by have:=hs.ok;rw[h4]at this;simpa using this
  have hpl:=hp f fd i h1 (by rw[h3];exact h4)
  obtain⟨hcs,hco⟩:=hc.rep h (h.ev hx ho) (jy1 hw)
  have hlen:=hcs.length
  obtain⟨h5,h6⟩:=hr.eq
  have hul:=hrep.length
  have hsz:(a.eval x).cells.size=m:=by simp at hlen;omega
  have hnew:RepL w (Mut C.M0 β S.H) β S.H zs' (us.take off++(a.eval x).cells.toList++us.drop (off+(a.eval x).cells.toList.length)):=by
   rw[h5,<-hlen]
   exact RepL.app (RepL.app (RepL.cut off hrep).1 hcs) (RepL.cut _ hrep).2
  obtain⟨vs,h7,h8⟩:=ih hnew (fun u hu=>by
   rcases List.mem_append.1 hu with hu|hu
   ·rcases List.mem_append.1 hu with hu|hu
    ·exact hone u (List.mem_of_mem_take hu)
    ·exact hco u hu
   ·exact hone u (List.mem_of_mem_drop hu))
  refine⟨vs,?_,h8⟩
  simp only[List.map_cons,Instr.fill,hpl]
  rw[if_neg (by
   simp only[ne_eq,Bool.or_eq_true,decide_eq_true_eq,not_or,Decidable.not_not,List.size_toArray]
   simp at hlen
   omega)]
  have hfo:=kn1 fd.offset (a.eval x).cells.toList us.toArray (by simp at hlen ⊢;omega)
  rw[Array.toArray_toList]at hfo
  simp only[List.toList_toArray]at hfo
  rw[hfo,h2]
  exact h7
theorem kc4:∀ {us:List Value} {vs:List V},jh9 us vs=true->∀ u∈us,u.oneCell'=true
 |[],_,_,u,hu=>by cases hu
 |x::us,[],h,_,_=>by cases h
 |x::us,v::vs,h,u,hu=>by
  simp only[jh9,Bool.and_eq_true]at h
  rcases List.mem_cons.1 hu with rfl|hu
  ·have:=h.1
   unfold jp7 at this
   split at this<;>first|rfl|cases this
  ·exact kc4 h.2 u hu
theorem qe9 {S:Sd}{t:Nat}{ps:List (Nat × Operand)}{vs ds:List V}[ht:TStruct E.P t][hz:TZero E.P t vs](hb:BuildV E.P S t vs ps ds):Swift E S ⟨dst,.build t ps.toArray,ty,pos,af,gd⟩ (.agg ds):=Swift.mk fun β a w h=>by
 obtain⟨fs,hu,hfs⟩:=jz8 ht
 obtain⟨i,z,hi,hiz,h1,_⟩:=jy0 hz
 obtain⟨pl,h2,h3⟩:=kn2 (P:=E.P) fs.toList hfs
 obtain⟨us,h4,h5,h6⟩:=hb.rep h hu (places:=pl.toArray) (fun f fd i hf hi=>by simpa using h3 f fd i (by simpa using hf) hi) (jr8 h1) (kc4 h1)
 refine⟨.agg us.toArray,fun w' _=>?_,us,rfl,h6,h5⟩
 have hpl:(fs.mapM fun f=>do pure (f.offset,<-sizeOf f.type):Sem (Array (Nat × Nat))).run E.P w'=.ok pl.toArray w':=by
  rw[Array.mapM_eq_mapM_toList]
  simp only[Sem.run_map]
  refine(congrArg (fun r:Result (List (Nat × Nat))=>r.andThen fun a w'=>Result.ok a.toArray w') (h2 w')).trans ?_
  rfl
 rw[Array.toArray_toList]at h4
 simp only[execOp,Sem.run_bind,Instr.build,zeroValue,typeInfo,hi,hiz,run_underlying hu,Sem.run_pure,Result.andThen_ok,program,Sem.run]
 simp only[hpl,Result.andThen_ok]
 have e:(ps.toArray.map fun x=>(x.1,a.eval x.2)).toList=ps.map fun x=>(x.1,a.eval x.2):=by simp
 rw[e,h4]
 rfl
end
end
end Go.Proofs.YtdopmfifmgkmoaaGreatDoor
