/- Parts: D31, D32, D33, D34. -/
import Derived.Test.YtdopmfifmgkmoaaGreatDoorP10
set_option linter.all false
set_option maxRecDepth 100000
set_option maxHeartbeats 16000000
namespace Go.Proofs.YtdopmfifmgkmoaaGreatDoor
open Go.RowKit Go.Proofs.Tryz
section
theorem StB.recast {C:Ctx}{β β':Nat->Hd}{S:Sd}{a:Act}{w:World}(h:StB C β S a w){H':List (Nat × Ob)}(n q:Nat)
 (hold:∀ m ob,m≠n->m≠q->look m H'=some ob->look m S.H=some ob) (hβ:∀ m,m≠n->m≠q->β' m=β m) (hn:(β' n).v=(β n).v) (hnr:∀ e sz sh xs k,look n H'≠some (.row e sz sh xs k)) (hq:S.fresh q=true\/(look q H'=none/\β' q=β q))
 (hown:∀ m ob b o,m=n\/m=q->look m H'=some ob->own (β' m) ob b->(∃ m0 ob0,(m0=n\/m0=q)/\look m0 S.H=some ob0/\own (β m0) ob0 b/\(ob.mut o->ob0.mut o)))
 (hap:∀ b ob ob',n≠q->look n H'=some ob->look q H'=some ob'->own (β' n) ob b->¬own (β' q) ob' b)
 (hobs:Keeps w (Mut C.M0 β S.H) w (Mut C.M0 β' H')->(∀ x v,x.says q=false->Dw w (Mut C.M0 β S.H) β S.H x v->Dw w (Mut C.M0 β' H') β' H' x v)->(∀ xs vs,Jr q xs=false->Dc w (Mut C.M0 β S.H) β S.H xs vs->Dc w (Mut C.M0 β' H') β' H' xs vs)->∀ m ob,n=m\/q=m->look m H'=some ob->Ma w (Mut C.M0 β' H') β' H' (β' m) ob)
 (hN:∀ m∈C.N,(look m H').isSome=true):StB C β' {S with H:=H'} a w:=by
 have hsn:∀ m,m≠q->V.Ku β β' S.H H' m:=fun m hm=>by
  by_cases hmn:m=n
  ·subst hmn;exact⟨hn,fun e sz sh xs k hl=>absurd hl (hnr _ _ _ _ _)⟩
  ·exact⟨congrArg Hd.v (hβ m hmn hm),fun e sz sh xs k hl=>⟨sh,xs,hold m _ hmn hm hl⟩⟩
 have hmut:∀ b o,Mut C.M0 β' H' b o->Mut C.M0 β S.H b o:=fun b o hm=>by
  rcases hm with hm|⟨m,ob,h1,h2,h3⟩
  ·exact .inl hm
  ·by_cases hmn:m=n\/m=q
   ·obtain⟨m0,ob0,_,h5,h6,h7⟩:=hown m ob b o hmn h1 h2;exact .inr ⟨m0,ob0,h5,h6,h7 h3⟩
   ·simp only[not_or]at hmn;rw[hβ m hmn.1 hmn.2]at h2;exact .inr ⟨m,ob,hold m ob hmn.1 hmn.2 h1,h2,h3⟩
 have k:Keeps w (Mut C.M0 β S.H) w (Mut C.M0 β' H'):=Keeps.weak hmut;have hq':∀ x:V,x.says q=false\/(look q H'=none/\β' q=β q)->∀ m,x.says m=true->V.Ku β β' S.H H' m:=fun x hx m hm=>by
  by_cases hmq:m=q
  ·subst hmq;rcases hx with hx|⟨hx,hx'⟩
   ·rw[hx]at hm;cases hm
   ·exact⟨congrArg Hd.v hx',fun e sz sh xs k hl=>by rw[hx]at hl;cases hl⟩
  ·exact hsn m hmq
 have hqL:∀ xs:List V,Jr q xs=false\/(look q H'=none/\β' q=β q)->∀ m,Jr m xs=true->V.Ku β β' S.H H' m:=fun x hx m hm=>by
  by_cases hmq:m=q
  ·subst hmq;rcases hx with hx|⟨hx,hx'⟩
   ·rw[hx]at hm;cases hm
   ·exact⟨congrArg Hd.v hx',fun e sz sh xs k hl=>by rw[hx]at hl;cases hl⟩
  ·exact hsn m hmq
 have pl:∀ m ob b,look m H'=some ob->own (β' m) ob b->∃ m0 ob0,look m0 S.H=some ob0/\own (β m0) ob0 b:=fun m ob b h1 h2=>by
  by_cases hmn:m=n\/m=q
  ·obtain⟨m0,ob0,_,h5,h6,_⟩:=hown m ob b 0 hmn h1 h2;exact⟨m0,ob0,h5,h6⟩
  ·simp only[not_or]at hmn;rw[hβ m hmn.1 hmn.2]at h2;exact⟨m,ob,hold m ob hmn.1 hmn.2 h1,h2⟩
 refine⟨h.size,h.small,h.defers,h.sys,fun t v hl=>?_,fun m ob hl=>?_,fun m m' b ob ob' hne h1 h2 h3 h4=>?_,fun m ob b hl h1=>?_,fun g cs hl=>(h.glob g cs hl).keep k,h.frame,fun m ob b o hl h1=>?_,h.low,fun m hm=>?_,hN⟩
 ·obtain⟨u,h1,h2⟩:=h.env t v hl;refine⟨u,h1,Dw.gen k v u (hq' v ?_) h2⟩;rcases hq with hq|hq
  ·simp only[Sd.fresh,Ab]at hq;exact .inl (jh0 hq.1 hl)
  ·exact .inr hq
 ·by_cases hmn:m=n\/m=q
  ·refine hobs k (fun x v hx hr=>Dw.gen k x v (hq' x (.inl hx)) hr) (fun x v hx hr=>Dc.gen k x v (hqL x (.inl hx)) hr) m ob (hmn.imp Eq.symm Eq.symm) hl
  ·simp only[not_or]at hmn;rw[hβ m hmn.1 hmn.2];have hl0:=hold m ob hmn.1 hmn.2 hl;refine Ma.keep k (fun _ _=>rfl) (fun vs hL=>Dc.gen k _ vs (hqL _ ?_) hL) (h.obs m ob hl0);rcases hq with hq|hq
   ·simp only[Sd.fresh,Ab]at hq;exact .inl (jb3 hq.2 hl0).2
   ·exact .inr hq
 ·have key:∀ m m' ob ob',m≠m'->(m=n\/m=q)->¬(m'=n\/m'=q)->look m H'=some ob->look m' H'=some ob'->own (β' m) ob b->own (β' m') ob' b->False:=fun m m' ob ob' hne hm hm' h1 h2 h3 h4=>by
   obtain⟨m0,ob0,h5,h6,h7,_⟩:=hown m ob b 0 hm h1 h3;simp only[not_or]at hm';rw[hβ m' hm'.1 hm'.2]at h4;refine h.apart m0 m' b ob0 ob' ?_ h6 (hold m' ob' hm'.1 hm'.2 h2) h7 h4;rintro rfl;rcases h5 with h5|h5
   ·exact hm'.1 h5
   ·exact hm'.2 h5
  by_cases hm:m=n\/m=q
  ·by_cases hm':m'=n\/m'=q
   ·rcases hm with rfl|rfl
    ·rcases hm' with rfl|rfl
     ·exact hne rfl
     ·exact hap b ob ob' hne h1 h2 h3 h4
    ·rcases hm' with rfl|rfl
     ·exact hap b ob' ob (Ne.symm hne) h2 h1 h4 h3
     ·exact hne rfl
   ·exact key m m' ob ob' hne hm hm' h1 h2 h3 h4
  ·by_cases hm':m'=n\/m'=q
   ·exact key m' m ob' ob (Ne.symm hne) hm' hm h2 h1 h4 h3
   ·simp only[not_or]at hm hm';rw[hβ m hm.1 hm.2]at h3;rw[hβ m' hm'.1 hm'.2]at h4;exact h.apart m m' b ob ob' hne (hold m ob hm.1 hm.2 h1) (hold m' ob' hm'.1 hm'.2 h2) h3 h4
 ·obtain⟨m0,ob0,h5,h6⟩:=pl m ob b hl h1;exact h.place m0 ob0 b h5 h6
 ·obtain⟨m0,ob0,h5,h6⟩:=pl m ob b hl h1;exact h.out m0 ob0 b o h5 h6
 ·by_cases hmq:m=q
  ·subst hmq;rcases hq with hq|hq
   ·have:=h.has m hm;rw[Sd.Mw hq]at this;cases this
   ·rw[hq.2];exact h.fix m hm
  ·by_cases hmn:m=n
   ·subst hmn;rw[hn];exact h.fix m hm
   ·rw[hβ m hmn hmq];exact h.fix m hm
theorem mp7 {w:World}{e sz l:Nat}{v:Value}{ys:List Value}(h:w.ownsRow 0 e sz v l ys):∃ a c,v=.slice a l c:=by
 obtain⟨a,c,e,_⟩:=jd4 h;exact⟨a,c,e⟩
section
variable {E:Set}{Q:Exit->Sd->Prop}{ops:Array Oper}{draw:Bool}{rest:Todo}{way:Kt}{ty:TypeId}{pos:String}{af:Array Edge}{gd:Option (Nat × Bool)}{dst:Option Tmp}
variable {env:List (Nat × V)}{H:List (Nat × Ob)}{gl:List (Nat × List D)}{d:Nat}
theorem StB.hboxOut {C:Ctx}{β:Nat->Hd}{S:Sd}{a:Act}{w:World}(h:StB C β S a w){n q e sz i:Nat}{xs:List D}{cs:List V}(hl:look n S.H=some (.hbox e sz xs i cs))(hq:S.fresh q=true):
 ∃ β',StB C β' {S with H:=(n,.box (cs.set i (.own q 0)))::(q,.row e sz false xs 0)::S.H} a w:=by
 have hqn:n≠q:=by
  rintro rfl;rw[Sd.Mw hq]at hl;cases hl
 obtain⟨b,vs,u,t,ys,h1,h2,h3,h4,h5,h6,h7,h8⟩:=h.obs n _ hl;have hbq:hb (β n).v=some b:=by rw[h1];rfl
 have hlq:∀ m,look m ((n,Ob.box (cs.set i (.own q 0)))::(q,Ob.row e sz false xs 0)::S.H)=if n=m then some (.box (cs.set i (.own q 0))) else if q=m then some (.row e sz false xs 0) else look m S.H:=fun m=>by rw[j9,j9]
 refine⟨fun m=>if m=q then ⟨u,[]⟩ else β m,h.recast n q (fun m ob hm hm' hl'=>?_) (fun m hm hm'=>by simp[hm']) (by simp[hqn]) (fun e sz sh xs k hl'=>?_) (.inl hq) (fun m ob b' o hm hl' ho=>?_) (fun b' ob ob' _ hl1 hl2 ho1 ho2=>?_) (fun k hV hL m ob hm hl'=>?_) (fun m hm=>?_)⟩
 ·rw[hlq,Af (Ne.symm hm),Af (Ne.symm hm')]at hl';exact hl'
 ·rw[hlq,Ae rfl]at hl';cases hl'
 ·refine⟨n,_,.inl rfl,hl,?_,fun _=>trivial⟩;rcases hm with rfl|rfl
  ·rw[hlq,Ae rfl]at hl';cases hl';simp only[hqn,if_false]at ho;exact .inl ((ja0 rfl).1 ho)
  ·rw[hlq,Af hqn,Ae rfl]at hl';cases hl';simp only[if_true]at ho;exact .inr ⟨rfl,(h5 b').2 ((ja0 rfl).1 ho)⟩
 ·rw[hlq,Ae rfl]at hl1;rw[hlq,Af hqn,Ae rfl]at hl2;cases hl1;cases hl2;simp only[hqn,if_false]at ho1;simp only[if_true]at ho2;have e1:=(ja0 rfl).1 ho1;rw[hbq]at e1;cases e1;exact h6 ((h5 b).2 ((ja0 rfl).1 ho2))
 ·rcases hm with rfl|rfl
  ·rw[hlq,Ae rfl]at hl';cases hl';simp only[hqn,if_false];refine⟨b,vs.set i u,t,h1,h2,?_⟩;simp only[Sd.fresh,Ab]at hq;have h9:=Dc.set (hL cs vs (jb3 hq.2 hl).2 h8) i (x:=.own q 0) (v:=u) ?_
   ·exact h9
   ·intro e' sz' sh xs' hl'';simp
  ·rw[hlq,Af hqn,Ae rfl]at hl';cases hl';simp only[if_true];exact⟨ys,h3,Gl.keep k _ _ _ h4⟩
 ·rw[hlq];split
  ·rfl
  ·split
   ·rfl
   ·exact h.has m hm
theorem StB.hboxIn {C:Ctx}{β:Nat->Hd}{S:Sd}{a:Act}{w:World}(h:StB C β S a w){n q e sz i k:Nat}{xs:List D}{cs:List V}{H0:List (Nat × Ob)}(hl:look n S.H=some (.box cs))(hi:cs[i]? =some (.own q k))(hr:look q S.H=some (.row e sz false xs k))
 (hs:Jr q (cs.set i (.nils 0))=false) (hd:∀ m,m≠q->look m H0=look m S.H) (hdq:look q H0=none) (hN:C.N.contains q=false):
 ∃ β',StB C β' {S with H:=(n,.hbox e sz xs i (cs.set i (.nils 0)))::H0} a w:=by
 have hqn:n≠q:=by
  rintro rfl;rw[hl]at hr;cases hr
 obtain⟨b,vs,t,h1,h2,h3⟩:=h.obs n _ hl;obtain⟨ys,h4,h5⟩:=h.obs q _ hr;obtain⟨u,h6,h7⟩:=h3.get hi;have hu:u=(β q).v:=h7 e sz false xs hr;subst hu;have hiv:i<vs.length:=(Bh.1 h6).1;have hbq:hb (β n).v=some b:=by rw[h1];rfl
 have hlq:∀ m,look m ((n,Ob.hbox e sz xs i (cs.set i (.nils 0)))::H0)=if n=m then some (.hbox e sz xs i (cs.set i (.nils 0))) else look m H0:=fun m=>by rw[j9]
 refine⟨fun m=>if m=n then ⟨(β n).v,(hb (β q).v).toList⟩ else β m,h.recast n q (fun m ob hm hm' hl'=>?_) (fun m hm hm'=>by simp[hm]) (by simp) (fun e sz sh xs k hl'=>?_) (.inr ⟨?_,by simp[Ne.symm hqn]⟩) (fun m ob b' o hm hl' ho=>?_) (fun b' ob ob' _ hl1 hl2 ho1 ho2=>?_) (fun k hV hL m ob hm hl'=>?_) (fun m hm=>?_)⟩
 ·rw[hlq,Af (Ne.symm hm),hd m hm']at hl';exact hl'
 ·rw[hlq,Ae rfl]at hl';cases hl'
 ·rw[hlq,Af hqn];exact hdq
 ·rcases hm with hm|hm
  ·have hm:=hm.symm;subst hm;rw[hlq,Ae rfl]at hl';cases hl';simp only[if_true]at ho;rcases ho with ho|⟨_,ho⟩
   ·exact⟨n,_,.inl rfl,hl,.inl ho,fun _=>trivial⟩
   ·exact⟨q,_,.inr rfl,hr,.inl (by simpa using ho),fun _=>.inl rfl⟩
  ·have hm:=hm.symm;subst hm;rw[hlq,Af hqn,hdq]at hl';cases hl'
 ·rw[hlq,Af hqn,hdq]at hl2;cases hl2
 ·rcases hm with rfl|rfl
  ·rw[hlq,Ae rfl]at hl';cases hl';simp only[if_true];refine⟨b,vs.set i (.slice none 0 0),(β q).v,t,ys,h1,?_,h4,Gl.keep k _ _ _ h5,fun q'=>by simp,?_,by simpa using hiv,hL _ _ hs (Dc.set h3 i rfl)⟩
   ·rw[List.set_set];rw[show vs.set i (β q).v=vs from by
     obtain⟨h8,h9⟩:=Bh.1 h6;rw[<-h9];exact List.set_getElem_self h8]
    exact h2
   ·intro hm;have:hb (β q).v=some b:=by simpa using hm
    exact h.apart n q b _ _ hqn hl hr (.inl hbq) (.inl this)
  ·rw[hlq,Af hqn,hdq]at hl';cases hl'
 ·rw[hlq];split
  ·rfl
  ·rename_i hmn;by_cases hmq:m=q
   ·subst hmq;simp[hm]at hN
   ·rw[hd m hmq];exact h.has m hm
def Nf (f:ByteArray->List D)(s:ByteArray)(xs:List D):ByteArray->List D:=fun t=>if t=s then xs else f t
theorem qm9 {es:List MapEntry}(h:es.Pairwise fun x y=>x.key≠y.key){x y:MapEntry}(hx:x∈es)(hy:y∈es)(hk:x.key=y.key):x=y:=by
 obtain⟨i,hi,rfl⟩:=Er.1 hx;obtain⟨j,hj,rfl⟩:=Er.1 hy;rcases Nat.lt_trichotomy i j with hlt|hlt|hlt
 ·exact absurd hk (List.pairwise_iff_getElem.1 h i j hi hj hlt)
 ·subst hlt;rfl
 ·exact absurd hk.symm (List.pairwise_iff_getElem.1 h j i hj hi hlt)
theorem Lies.one {es:List MapEntry}(h1:es.Pairwise fun x y=>x.key≠y.key){s:ByteArray}{u:Value}(h:Lies es s u){en:MapEntry}(he:en∈es)(hk:en.key=.string s):en.val=u:=by
 rcases h with ⟨en',h2,h3,h4⟩|⟨h2,_⟩
 ·rw[qm9 h1 he h2 (hk.trans h3.symm),h4]
 ·exact absurd hk (h2 en he)
theorem StB.smapNew {C:Ctx}{β:Nat->Hd}{S:Sd}{a:Act}{w:World}(h:StB C β S a w){n:Nat}(e sz:Nat)(hl:look n S.H=some (.map [] [])):∃ β',StB C β' {S with H:=(n,.smap e sz (fun _=>[]) none)::S.H} a w:=by
 let β':Nat->Hd:=fun m=>if m=n then ⟨(β n).v,[]⟩ else β m
 have hv:∀ m,(β' m).v=(β m).v:=fun m=>by
  show(if m=n then (⟨(β n).v,[]⟩:Hd) else β m).v=_;split
  ·rename_i e;subst e;rfl
  ·rfl
 have hlq:∀ m,look m ((n,Ob.smap e sz (fun _=>[]) none)::S.H)=if n=m then some (.smap e sz (fun _=>[]) none) else look m S.H:=fun m=>by rw[j9]
 have hn:β' n=⟨(β n).v,[]⟩:=by simp[β']
 have hH:∀ m,V.Ku β β' S.H ((n,Ob.smap e sz (fun _=>[]) none)::S.H) m:=fun m=>⟨hv m,fun e' sz' sh xs k hm=>by
  rw[hlq]at hm;split at hm
  ·cases hm
  ·exact⟨sh,xs,hm⟩⟩
 obtain⟨r,es,c,h1,h2,h3,_,h4⟩:=h.obs n _ hl;have he:es.toList=[]:=by
  simp only[Iq]at h3;exact List.map_eq_nil_iff.1 h3
 refine⟨β',h.Xn hl (fun m hm=>by simp[β',hm]) rfl rfl rfl (As _) (fun _ _ _=>rfl) (fun b hb'=>?_) (fun _ _ _ _ _ h=>h) (fun _ _ _ _ _=>trivial)
  (fun k t x v _=>Dw.gen k x v (fun m _=>hH m)) (fun _=>hv n) (fun k m ob2 vs _ _=>Dc.gen k _ vs (fun m _=>hH m)) (fun k=>?_)⟩
 ·rw[hn]at hb';rcases hb' with hb'|⟨_,hb'⟩
  ·exact .inl (.inl hb')
  ·cases hb'
 ·rw[hn];refine⟨r,es,c,h1,h2,?_,fun s v hx=>by cases hx⟩;rw[he];exact⟨(fun en h=>nomatch h),.nil,(fun en h=>nomatch h),(fun en h=>nomatch h),(fun _ _ _=>rfl),(fun b=>⟨(fun h=>nomatch h),(fun⟨en,h,_⟩=>nomatch h)⟩),(fun en h=>nomatch h),(fun h=>nomatch h)⟩
theorem StB.smapOut {C:Ctx}{β:Nat->Hd}{S:Sd}{a:Act}{w:World}(h:StB C β S a w){n q e sz:Nat}{f:ByteArray->List D}(s:ByteArray)(hl:look n S.H=some (.smap e sz f none))(hq:S.fresh q=true):
 ∃ β',StB C β' {S with H:=(n,.smap e sz f (some (s,.own q 0)))::(q,.row e sz false (f s) 0)::S.H} a w:=by
 have hqn:n≠q:=by
  rintro rfl;rw[Sd.Mw hq]at hl;cases hl
 obtain⟨r,es,c,h1,h2,h3,_⟩:=h.obs n _ hl;have hbr:hb (β n).v=some r:=by rw[h1];rfl
 obtain⟨u,hu⟩:∃ u,Lies es.toList s u:=by
  by_cases hm:∃ en∈es.toList,en.key=.string s
  ·obtain⟨en,h4,h5⟩:=hm;exact⟨en.val,.inl ⟨en,h4,h5,rfl⟩⟩
  ·exact⟨_,.inr ⟨fun en h4 h5=>hm ⟨en,h4,h5⟩,rfl⟩⟩
 obtain⟨ys,h4,h5⟩:∃ ys,w.ownsRow 0 e sz u (f s).length ys/\Gl w (Mut C.M0 β S.H) sz (f s) ys:=by
  rcases hu with ⟨en,h6,h7,h8⟩|⟨h6,h7⟩
  ·rw[<-h8];exact h3.here en h6 s h7 (by simp)
  ·rw[h7,h3.none s (by simp) h6];exact⟨[],World.ownsRow_nil w 0 e sz,rfl⟩
 have hub:∀ b,hb u=some b->b∈(β n).bs:=fun b hb'=>by
  rcases hu with ⟨en,h6,h7,h8⟩|⟨h6,h7⟩
  ·rw[<-h8]at hb';exact(h3.blk b).2 ⟨en,h6,s,h7,by simp,hb'⟩
  ·rw[h7]at hb';cases hb'
 have hlq:∀ m,look m ((n,Ob.smap e sz f (some (s,.own q 0)))::(q,Ob.row e sz false (f s) 0)::S.H)=if n=m then some (.smap e sz f (some (s,.own q 0))) else if q=m then some (.row e sz false (f s) 0) else look m S.H:=fun m=>by rw[j9,j9]
 have hsm:SMap w (Mut C.M0 β S.H) e sz f (some s) es.toList c r ((β n).bs.filter fun b=>hb u≠some b):=by
  refine⟨h3.key,h3.one,h3.born,fun en he s' hk hx=>h3.here en he s' hk (by simp),fun s' hx=>h3.none s' (by simp),fun b=>?_,fun en he en' he' s1 s2 b k1 k2 x1 x2=>h3.apart en he en' he' s1 s2 b k1 k2 (by simp) (by simp),fun hm=>h3.map (List.mem_filter.1 hm).1⟩;rw[List.mem_filter];constructor
  ·rintro⟨hm,hne⟩;obtain⟨en,h6,s',h7,_,h8⟩:=(h3.blk b).1 hm;refine⟨en,h6,s',h7,?_,h8⟩;rintro e';cases e';have:=hu.one h3.one h6 h7;rw[this]at h8;simp[h8]at hne
  ·rintro⟨en,h6,s',h7,h8,h9⟩;refine⟨(h3.blk b).2 ⟨en,h6,s',h7,by simp,h9⟩,?_⟩;have:hb u≠some b:=fun hb'=>by
    rcases hu with ⟨en',h10,h11,h12⟩|⟨h10,h11⟩
    ·rw[<-h12]at hb';exact h3.apart en h6 en' h10 s' s b h7 h11 (by simp) (by simp) (fun e'=>h8 (by rw[e'])) h9 hb'
    ·rw[h11]at hb';cases hb'
   simp[this]
 refine⟨fun m=>if m=q then ⟨u,[]⟩ else if m=n then ⟨(β n).v,(β n).bs.filter fun b=>hb u≠some b⟩ else β m,h.recast n q (fun m ob hm hm' hl'=>?_) (fun m hm hm'=>by simp[hm,hm']) (by simp[hqn]) (fun e sz sh xs k hl'=>?_) (.inl hq) (fun m ob b' o hm hl' ho=>?_) (fun b' ob ob' _ hl1 hl2 ho1 ho2=>?_) (fun k hV hL m ob hm hl'=>?_) (fun m hm=>?_)⟩
 ·rw[hlq,Af (Ne.symm hm),Af (Ne.symm hm')]at hl';exact hl'
 ·rw[hlq,Ae rfl]at hl';cases hl'
 ·refine⟨n,_,.inl rfl,hl,?_,fun _=>trivial⟩;rcases hm with hm|hm
  ·have hm:=hm.symm;subst hm;rw[hlq,Ae rfl]at hl';cases hl';simp only[hqn,if_false,if_true]at ho;rcases ho with ho|⟨_,ho⟩
   ·exact .inl ho
   ·exact .inr ⟨rfl,(List.mem_filter.1 ho).1⟩
  ·have hm:=hm.symm;subst hm;rw[hlq,Af hqn,Ae rfl]at hl';cases hl';simp only[if_true]at ho;exact .inr ⟨rfl,hub b' ((ja0 rfl).1 ho)⟩
 ·rw[hlq,Ae rfl]at hl1;rw[hlq,Af hqn,Ae rfl]at hl2;cases hl1;cases hl2;simp only[hqn,if_false,if_true]at ho1;simp only[if_true]at ho2;have ho2:=(ja0 rfl).1 ho2;rcases ho1 with ho1|⟨_,ho1⟩
  ·rw[hbr]at ho1;cases ho1;exact h3.map (hub r ho2)
  ·have:=(List.mem_filter.1 ho1).2;simp[ho2]at this
 ·rcases hm with rfl|rfl
  ·rw[hlq,Ae rfl]at hl';cases hl';simp only[hqn,if_false,if_true];refine⟨r,es,c,h1,h2,hsm.keep k (fun _ _=>rfl),fun s' v hx=>?_⟩;cases hx;refine⟨u,fun e' sz' sh xs hl''=>?_,hu⟩;simp
  ·rw[hlq,Af hqn,Ae rfl]at hl';cases hl';simp only[if_true];exact⟨ys,h4,Gl.keep k _ _ _ h5⟩
 ·rw[hlq];split
  ·rfl
  ·split
   ·rfl
   ·exact h.has m hm
theorem StB.smapIn {C:Ctx}{β:Nat->Hd}{S:Sd}{a:Act}{w:World}(h:StB C β S a w){n q e sz k:Nat}{f:ByteArray->List D}{s:ByteArray}{xs:List D}{H0:List (Nat × Ob)}(hl:look n S.H=some (.smap e sz f (some (s,.own q k))))(hr:look q S.H=some (.row e sz false xs k))
 (hd:∀ m,m≠q->look m H0=look m S.H) (hdq:look q H0=none) (hN:C.N.contains q=false):
 ∃ β',StB C β' {S with H:=(n,.smap e sz (Nf f s xs) none)::H0} a w:=by
 have hqn:n≠q:=by
  rintro rfl;rw[hl]at hr;cases hr
 obtain⟨r,es,c,h1,h2,h3,h4⟩:=h.obs n _ hl;obtain⟨ys,h5,h6⟩:=h.obs q _ hr;obtain⟨u,hu,hu2⟩:=h4 s _ rfl;have hu:u=(β q).v:=hu e sz false xs hr;subst hu;have hbr:hb (β n).v=some r:=by rw[h1];rfl
 have hlq:∀ m,look m ((n,Ob.smap e sz (Nf f s xs) none)::H0)=if n=m then some (.smap e sz (Nf f s xs) none) else look m H0:=fun m=>by rw[j9]
 have hdis:∀ b,hb (β q).v=some b->¬(b=r\/b∈(β n).bs):=fun b hb' hm=>by
  rcases hm with rfl|hm
  ·exact h.apart n q b _ _ hqn hl hr (.inl hbr) (.inl hb')
  ·exact h.apart n q b _ _ hqn hl hr (.inr ⟨rfl,hm⟩) (.inl hb')
 have hsm:SMap w (Mut C.M0 β S.H) e sz (Nf f s xs) none es.toList c r ((β n).bs++(hb (β q).v).toList):=by
  refine⟨h3.key,h3.one,h3.born,fun en he s' hk _=>?_,fun s' _ hno=>?_,fun b=>?_,fun en he en' he' s1 s2 b k1 k2 _ _ hne b1 b2=>?_,fun hm=>?_⟩
  ·by_cases e':s'=s
   ·subst e';rw[hu2.one h3.one he hk];simp only[Nf,if_true];exact⟨ys,h5,h6⟩
   ·simp only[Nf,e',if_false];exact h3.here en he s' hk (fun h=>e' (by simpa using h.symm))
  ·by_cases e':s'=s
   ·subst e';simp only[Nf,if_true];rcases hu2 with ⟨en,h7,h8,_⟩|⟨_,h7⟩
    ·exact absurd h8 (hno en h7)
    ·rw[h7]at h5;obtain⟨a',c',h8⟩:=mp7 h5;simp only[Value.slice.injEq]at h8;exact At h8.2.1.symm
   ·simp only[Nf,e',if_false];exact h3.none s' (fun h=>e' (by simpa using h.symm)) hno
  ·rw[Bu,h3.blk b];constructor
   ·rintro(⟨en,h7,s',h8,h9,h10⟩|h7)
    ·exact⟨en,h7,s',h8,by simp,h10⟩
    ·have h7:hb (β q).v=some b:=by simpa using h7
     rcases hu2 with ⟨en,h8,h9,h10⟩|⟨_,h8⟩
     ·exact⟨en,h8,s,h9,by simp,by rw[h10];exact h7⟩
     ·rw[h8]at h7;cases h7
   ·rintro⟨en,h7,s',h8,_,h10⟩;by_cases e':s'=s
    ·subst e';rw[hu2.one h3.one h7 h8]at h10;exact .inr (by simpa using h10)
    ·exact .inl ⟨en,h7,s',h8,fun h=>e' (by simpa using h.symm),h10⟩
  ·by_cases e1:s1=s
   ·subst e1;rw[hu2.one h3.one he k1]at b1;exact hdis b b1 (.inr ((h3.blk b).2 ⟨en',he',s2,k2,fun h=>hne (by simpa using h),b2⟩))
   ·by_cases e2:s2=s
    ·subst e2;rw[hu2.one h3.one he' k2]at b2;exact hdis b b2 (.inr ((h3.blk b).2 ⟨en,he,s1,k1,fun h=>e1 (by simpa using h.symm),b1⟩))
    ·exact h3.apart en he en' he' s1 s2 b k1 k2 (fun h=>e1 (by simpa using h.symm)) (fun h=>e2 (by simpa using h.symm)) hne b1 b2
  ·rcases Bu.1 hm with hm|hm
   ·exact h3.map hm
   ·exact hdis r (by simpa using hm) (.inl rfl)
 refine⟨fun m=>if m=n then ⟨(β n).v,(β n).bs++(hb (β q).v).toList⟩ else β m,h.recast n q (fun m ob hm hm' hl'=>?_) (fun m hm hm'=>by simp[hm]) (by simp) (fun e sz sh xs k hl'=>?_) (.inr ⟨?_,by simp[Ne.symm hqn]⟩) (fun m ob b' o hm hl' ho=>?_) (fun b' ob ob' _ hl1 hl2 ho1 ho2=>?_) (fun k hV hL m ob hm hl'=>?_) (fun m hm=>?_)⟩
 ·rw[hlq,Af (Ne.symm hm),hd m hm']at hl';exact hl'
 ·rw[hlq,Ae rfl]at hl';cases hl'
 ·rw[hlq,Af hqn];exact hdq
 ·rcases hm with hm|hm
  ·have hm:=hm.symm;subst hm;rw[hlq,Ae rfl]at hl';cases hl';simp only[if_true]at ho;rcases ho with ho|⟨_,ho⟩
   ·exact⟨n,_,.inl rfl,hl,.inl ho,fun _=>trivial⟩
   ·rcases Bu.1 ho with ho|ho
    ·exact⟨n,_,.inl rfl,hl,.inr ⟨rfl,ho⟩,fun _=>trivial⟩
    ·exact⟨q,_,.inr rfl,hr,.inl (by simpa using ho),fun _=>.inl rfl⟩
  ·have hm:=hm.symm;subst hm;rw[hlq,Af hqn,hdq]at hl';cases hl'
 ·rw[hlq,Af hqn,hdq]at hl2;cases hl2
 ·rcases hm with rfl|rfl
  ·rw[hlq,Ae rfl]at hl';cases hl';simp only[if_true];exact⟨r,es,c,h1,h2,hsm.keep k (fun _ _=>rfl),fun s' v hx=>by cases hx⟩
  ·rw[hlq,Af hqn,hdq]at hl';cases hl'
 ·rw[hlq];split
  ·rfl
  ·by_cases hmq:m=q
   ·subst hmq;simp[hm]at hN
   ·rw[hd m hmq];exact h.has m hm
end
end
section
theorem jp6 {α:Type}{q:Nat}{l r:List (Nat × α)}(h:Drop [q] l r):(∀ m,m≠q->look m r=look m l)/\look q r=none:=by
 induction h with
 |nil=>exact⟨fun _ _=>rfl,rfl⟩
 |@take t v l r h1 _ ih=>
  have hne:t≠q:=fun e=>by subst e;simp[Sg]at h1
  refine⟨fun m hm=>?_,?_⟩
  ·rw[j9,j9];split
   ·rfl
   ·exact ih.1 m hm
  ·rw[j9,Af hne];exact ih.2
 |@drop t v l r h1 _ ih=>
  refine⟨fun m hm=>?_,ih.2⟩;rw[j9,Af]
  ·exact ih.1 m hm
  ·rintro rfl;simp[Sg,Ne.symm hm]at h1
section
variable {E:Set}{Q:Exit->Sd->Prop}{ops:Array Oper}{draw:Bool}{rest:Todo}{way:Kt}{ty:TypeId}{pos:String}{af:Array Edge}{gd:Option (Nat × Bool)}{dst:Option Tmp}
variable {env:List (Nat × V)}{H:List (Nat × Ob)}{gl:List (Nat × List D)}{d:Nat}{C:Ctx}
theorem jf2 {n q e sz i:Nat}{xs:List D}{cs:List V}(hl:look n H=some (.hbox e sz xs i cs))(hq:Sd.fresh ⟨env,H,gl⟩ q=true):Wk C ⟨env,H,gl⟩ ⟨env,(n,.box (cs.set i (.own q 0)))::(q,.row e sz false xs 0)::H,gl⟩:=
 fun _ _ ⟨_,hB⟩=>hB.hboxOut hl hq
theorem jf3 {n q e sz i k:Nat}{xs:List D}{cs:List V}{H0:List (Nat × Ob)}(hl:look n H=some (.box cs))(hi:cs[i]? =some (.own q k))(hr:look q H=some (.row e sz false xs k))(hs:Jr q (cs.set i (.nils 0))=false)(hd:Drop [q] H H0)(hN:C.N.contains q=false):
 Wk C ⟨env,H,gl⟩ ⟨env,(n,.hbox e sz xs i (cs.set i (.nils 0)))::H0,gl⟩:=
 fun _ _ ⟨_,hB⟩=>hB.hboxIn hl hi hr hs (jp6 hd).1 (jp6 hd).2 hN
theorem md8 {n:Nat}(e sz:Nat)(hl:look n H=some (.map [] [])):Wk C ⟨env,H,gl⟩ ⟨env,(n,.smap e sz (fun _=>[]) none)::H,gl⟩:=fun _ _ ⟨_,hB⟩=>hB.smapNew e sz hl
theorem md9 {n q e sz:Nat}{f:ByteArray->List D}(s:ByteArray)(hl:look n H=some (.smap e sz f none))(hq:Sd.fresh ⟨env,H,gl⟩ q=true):Wk C ⟨env,H,gl⟩ ⟨env,(n,.smap e sz f (some (s,.own q 0)))::(q,.row e sz false (f s) 0)::H,gl⟩:=
 fun _ _ ⟨_,hB⟩=>hB.smapOut s hl hq
theorem km8 {n q e sz k:Nat}{f:ByteArray->List D}{s:ByteArray}{xs:List D}{H0:List (Nat × Ob)}(hl:look n H=some (.smap e sz f (some (s,.own q k))))(hr:look q H=some (.row e sz false xs k))(hd:Drop [q] H H0)(hN:C.N.contains q=false):
 Wk C ⟨env,H,gl⟩ ⟨env,(n,.smap e sz (Nf f s xs) none)::H0,gl⟩:=fun _ _ ⟨_,hB⟩=>hB.smapIn hl hr (jp6 hd).1 (jp6 hd).2 hN
theorem jd9 {c:Code}{S S':Sd}(hw:Wk E.C S S')(h:TC E c Q S'):TC E c Q S:=fun a w hS=>h a w (hw a w hS)
theorem kx6 {S:Sd}{t k e n e' sz:Nat}{x y:Operand}{f:ByteArray->List D}{s:ByteArray}{v:V}[ht:TMap E.P t k e][hkk:TKey E.P k .str][hz:Om E.P e (.nils sz)](hx:S.ev x=some (.map n))(hox:Cw x=true)(hl:look n S.H=some (.smap e' sz f (some (s,v))))(hy:S.ev y=some (.d (.str s)))(hoy:Cw y=true):
 Quiet E S ⟨dst,.lookup t x y false,ty,pos,af,gd⟩ v:=Quiet.mk fun β a w h=>by
 obtain⟨r,h1,h2⟩:=h.ev hx hox;obtain⟨r',es,c,h3,h4,h5,h6⟩:=h.obs n _ hl;rw[h1]at h3;cases h3;obtain⟨u,hu1,hu2⟩:=h6 s v rfl;have hkey:a.eval y=Js (.str s):=h.ev hy hoy;have hc:Comp .str (.str s) (.str s):=.str _ _;refine⟨u,fun w' g=>?_,hu1⟩;obtain⟨q,q1,q2⟩:=jf7 (P:=E.P) (t:=k) (x:=.str s) w' es.toList (fun en he=>by
  obtain⟨s',hs'⟩:=h5.key en he;exact⟨.str s',.str _ _,hs'⟩)
 rcases q2 with ⟨rfl,q3⟩|⟨j,en,rfl,q3,q4,_⟩
 ·obtain⟨ie,z,hi,hzi,hzr⟩:=mb8 hz;have hz0:z=.slice none 0 0:=hzr (w:=w) (M:=Mut E.C.M0 β S.H) (β:=β) (H:=S.H);have hu0:u=.slice none 0 0:=by
   rcases hu2 with ⟨en,h7,h8,_⟩|⟨_,h7⟩
   ·exact absurd h8 (q3 en h7)
   ·exact h7
  subst hz0 hu0;simp only[execOp,h2,hkey,Instr.lookup,Sem.run_bind,run_underlying (jg7 ht),Result.andThen_ok,jd8 (jh6 g h4),Sem.run_pure,hc.check,q1,js2 hi hzi];rfl
 ·have hu0:en.val=u:=hu2.one h5.one (Ek q3) q4;subst hu0;simp only[execOp,h2,hkey,Instr.lookup,Sem.run_bind,run_underlying (jg7 ht),Result.andThen_ok,jd8 (jh6 g h4),Sem.run_pure,hc.check,q1];rfl
theorem SMap.hit {w:World}{M:Nat->Nat->Prop}{e sz c r j:Nat}{f:ByteArray->List D}{s:ByteArray}{es:List MapEntry}{bs:List Nat}(h:SMap w M e sz f (some s) es c r bs){en:MapEntry}(he:es[j]? =some en)(hk:en.key=.string s)(u:Value):
 SMap w M e sz f (some s) (es.modify j fun x=>{x with key:=en.key,val:=u}) c r bs/\Lies (es.modify j fun x=>{x with key:=en.key,val:=u}) s u:=by
 have hj:=(Bh.1 he).1;have hej:=(Bh.1 he).2;have old:∀ x∈es.modify j fun x=>{x with key:=en.key,val:=u},(x∈es/\x.key≠.string s)\/(x.key=.string s/\x.val=u/\x.born=en.born):=fun x hx=>by
  obtain⟨i,hi,rfl⟩:=Er.1 hx;rw[List.getElem_modify];split
  ·rename_i hij;subst hij;refine .inr ⟨hk,rfl,?_⟩;dsimp only;rw[hej]
  ·rename_i hij;have hi':i<es.length:=by simpa using hi
   refine .inl ⟨Ar hi',fun h2=>hij ?_⟩;rcases Nat.lt_trichotomy i j with hlt|hlt|hlt
   ·exact absurd (h2.trans (by rw[hej];exact hk.symm)) (List.pairwise_iff_getElem.1 h.one i j hi' hj hlt)
   ·exact hlt.symm
   ·exact absurd ((by rw[hej];exact hk:es[j].key=.string s).trans h2.symm) (List.pairwise_iff_getElem.1 h.one j i hj hi' hlt)
 have new:∀ x∈es,x.key≠.string s->x∈es.modify j fun x=>{x with key:=en.key,val:=u}:=fun x hx hne=>by
  obtain⟨i,hi,rfl⟩:=Er.1 hx;have hij:j≠i:=by rintro rfl;rw[hej]at hne;exact hne hk
  exact Ek (i:=i) (by rw[List.getElem?_modify,Be hi];simp[hij])
 have here:(⟨en.key,u,en.born⟩:MapEntry)∈es.modify j fun x=>{x with key:=en.key,val:=u}:=Ek (i:=j) (by rw[List.getElem?_modify,he];simp);refine⟨⟨fun x hx=>?_,?_,fun x hx=>?_,fun x hx s' hks hne=>?_,fun s' hne hno=>?_,fun b=>?_,fun x hx y hy s1 s2 b k1 k2 n1 n2=>?_,h.map⟩,.inl ⟨_,here,hk,rfl⟩⟩
 ·rcases old x hx with ⟨h1,_⟩|⟨h1,_⟩
  ·exact h.key x h1
  ·exact⟨s,h1⟩
 ·have:=(map_set he (u:=u)).1;rw[<-List.pairwise_map (f:=fun x:MapEntry=>x.key) (R:=fun a b=>a≠b),this,List.pairwise_map];exact h.one
 ·rcases old x hx with ⟨h1,_⟩|⟨_,_,h1⟩
  ·exact h.born x h1
  ·rw[h1];exact h.born en (Ek he)
 ·rcases old x hx with ⟨h1,_⟩|⟨h1,_⟩
  ·exact h.here x h1 s' hks hne
  ·rw[h1]at hks;cases hks;exact absurd rfl hne
 ·refine h.none s' hne fun x hx hks=>?_;refine hno x (new x hx fun h1=>?_) hks;rw[h1]at hks;cases hks;exact absurd rfl hne
 ·rw[h.blk b];constructor
  ·rintro⟨x,h1,s',h2,h3,h4⟩;exact⟨x,new x h1 (fun h5=>by rw[h5]at h2;cases h2;exact absurd rfl h3),s',h2,h3,h4⟩
  ·rintro⟨x,h1,s',h2,h3,h4⟩;rcases old x h1 with ⟨h5,_⟩|⟨h5,_⟩
   ·exact⟨x,h5,s',h2,h3,h4⟩
   ·rw[h5]at h2;cases h2;exact absurd rfl h3
 ·have hx':x∈es:=by
   rcases old x hx with ⟨h5,_⟩|⟨h5,_⟩
   ·exact h5
   ·rw[h5]at k1;cases k1;exact absurd rfl n1
  have hy':y∈es:=by
   rcases old y hy with ⟨h5,_⟩|⟨h5,_⟩
   ·exact h5
   ·rw[h5]at k2;cases k2;exact absurd rfl n2
  exact h.apart x hx' y hy' s1 s2 b k1 k2 n1 n2
theorem SMap.more {w:World}{M:Nat->Nat->Prop}{e sz c r:Nat}{f:ByteArray->List D}{s:ByteArray}{es:List MapEntry}{bs:List Nat}(h:SMap w M e sz f (some s) es c r bs)(hno:∀ en∈es,en.key≠.string s)(u:Value):
 SMap w M e sz f (some s) (es++[⟨.string s,u,c⟩]) (c+1) r bs/\Lies (es++[⟨.string s,u,c⟩]) s u:=by
 have old:∀ x∈es++[(⟨.string s,u,c⟩:MapEntry)],x∈es\/x=⟨.string s,u,c⟩:=fun x hx=>by simpa using hx
 refine⟨⟨fun x hx=>?_,?_,fun x hx=>?_,fun x hx s' hks hne=>?_,fun s' hne hn=>?_,fun b=>?_,fun x hx y hy s1 s2 b k1 k2 n1 n2=>?_,h.map⟩,.inl ⟨⟨.string s,u,c⟩,by simp,rfl,rfl⟩⟩
 ·rcases old x hx with h1|rfl
  ·exact h.key x h1
  ·exact⟨s,rfl⟩
 ·rw[List.pairwise_append];exact⟨h.one,List.pairwise_singleton ..,fun x hx y hy=>by rw[Em]at hy;subst hy;exact hno x hx⟩
 ·rcases old x hx with h1|rfl
  ·have:=h.born x h1;omega
  ·exact Nat.lt_succ_self c
 ·rcases old x hx with h1|rfl
  ·exact h.here x h1 s' hks hne
  ·cases hks;exact absurd rfl hne
 ·exact h.none s' hne fun x hx=>hn x (List.mem_append_left _ hx)
 ·rw[h.blk b];constructor
  ·rintro⟨x,h1,r⟩;exact⟨x,List.mem_append_left _ h1,r⟩
  ·rintro⟨x,h1,s',h2,h3,h4⟩;rcases old x h1 with h5|rfl
   ·exact⟨x,h5,s',h2,h3,h4⟩
   ·cases h2;exact absurd rfl h3
 ·have hx':x∈es:=by
   rcases old x hx with h5|rfl
   ·exact h5
   ·cases k1;exact absurd rfl n1
  have hy':y∈es:=by
   rcases old y hy with h5|rfl
   ·exact h5
   ·cases k2;exact absurd rfl n2
  exact h.apart x hx' y hy' s1 s2 b k1 k2 n1 n2
theorem mx6 {S:Sd}{t k e n e' sz:Nat}{x y z:Operand}{f:ByteArray->List D}{s:ByteArray}{v v':V}[ht:TMap E.P t k e][hkk:TKey E.P k .str](hx:S.ev x=some (.map n))(hox:Cw x=true)(hl:look n S.H=some (.smap e' sz f (some (s,v))))(hy:S.ev y=some (.d (.str s)))(hoy:Cw y=true)(hz:S.ev z=some v')(hoz:Cw z=true)
 :Turn E S ⟨none,.mapUpdate t x y z,ty,pos,af,gd⟩ {S with H:=(n,.smap e' sz f (some (s,v')))::S.H}:=Turn.mk fun β a w h=>by
 obtain⟨r,h1,h2⟩:=h.ev hx hox;obtain⟨r',es,c,h3,h4,h5,h6⟩:=h.obs n _ hl;rw[h1]at h3;cases h3;have hkey:a.eval y=Js (.str s):=h.ev hy hoy;have hval:=h.ev hz hoz;have hc:Comp .str (.str s) (.str s):=.str _ _;have hbn:hb (β n).v=some r:=by rw[h1];rfl
 have hH:∀ m e1 sz1 sh xs k,look m ((n,Ob.smap e' sz f (some (s,v')))::S.H)=some (.row e1 sz1 sh xs k)->∃ sh' xs',look m S.H=some (.row e1 sz1 sh' xs' k):=fun m e1 sz1 sh xs k hm=>by
  rw[ja1]at hm;split at hm
  ·cases hm
  ·exact⟨sh,xs,hm⟩
 obtain⟨q,q1,q2⟩:=jf7 (P:=E.P) (t:=k) (x:=.str s) w es.toList (fun en he=>by
  obtain⟨s',hs'⟩:=h5.key en he;exact⟨.str s',.str _ _,hs'⟩)
 have main:∀ (es':Array MapEntry) (c':Nat),SMap w (Mut E.C.M0 β S.H) e' sz f (some s) es'.toList c' r (β n).bs->Lies es'.toList s (a.eval z)->
  StB E.C β {S with H:=(n,.smap e' sz f (some (s,v')))::S.H} a (w.putObj r (.map es' c')):=fun es' c' hm hly=>by
  refine h.Xn hl (fun _ _=>rfl) rfl rfl rfl (by simp[World.putObj]) (fun k _ hk=>World.putObj_heap_other (fun e=>hk (.inl (by rw[hbn,e])))) (fun b h=>.inl h) (fun b' o' y h4 h5 _=>absurd trivial h5) (fun _ _ _ _ _=>trivial)
   (fun k t x v _=>Dw.keep k (fun _=>rfl) hH x v) (fun _=>rfl) (fun k m cs vs _ _=>Dc.keep k (fun _=>rfl) hH _ vs) (fun kp=>?_)
  refine⟨r,es',c',h1,World.putObj_heap_same (Bw.1 h4).1,hm.keep kp (fun b hb'=>World.putObj_heap_other (fun e=>?_)),fun s' y hx=>?_⟩
  ·subst e;exact h5.map hb'
  ·cases hx;exact⟨_,Dw.keep kp (fun _=>rfl) hH _ _ hval,hly⟩
 rcases q2 with ⟨rfl,q3⟩|⟨j,en,rfl,q3,q4,_⟩
 ·obtain⟨m1,m2⟩:=h5.more q3 (a.eval z);refine⟨w.putObj r (.map (es.push {key:=Js (.str s),val:=a.eval z,born:=c}) (c+1)),?_,β,main _ _ (by rw[Array.toList_push];exact m1) (by rw[Array.toList_push];exact m2)⟩;simp only[execOp,h2,hkey,Instr.mapUpdate,Sem.run_bind,run_underlying (jg7 ht),Result.andThen_ok,jd8 h4,hc.check,q1,jr5 _ h4,Sem.run_pure]
 ·rw[Ft]at q1;have hge:es[j]? =some en:=by simpa using q3
  obtain⟨m1,m2⟩:=h5.hit q3 q4 (a.eval z);have q4':en.key=Js (.str s):=q4;rw[q4']at m1 m2;refine⟨w.putObj r (.map (es.modify j fun x=>{x with key:=Js (.str s),val:=a.eval z}) c),?_,β,main _ _ (by rw[Array.toList_modify];exact m1) (by rw[Array.toList_modify];exact m2)⟩;simp only[execOp,h2,hkey,Instr.mapUpdate,Sem.run_bind,run_underlying (jg7 ht),Result.andThen_ok,jd8 h4,hc.check,q1,hge,Fl,Option.getD_some,q4',hc.stays,jr5 _ h4,Sem.run_pure]
theorem StB.trunc {C:Ctx}{β:Nat->Hd}{S:Sd}{a:Act}{w:World}(h:StB C β S a w){n e sz k m:Nat}{xs:List D}(hl:look n S.H=some (.row e sz false xs k))(hm:m<=xs.length)(k':Nat)(hk:max (qw7 S.env) (qw8 S.H)<=k')(hN:C.N.contains n=false):
 ∃ ad c,(β n).v=.slice ad xs.length c/\xs.length<=c/\StB C (upd β n (.slice ad m c)) {S with H:=(n,.row e sz false (xs.take m) k')::S.H} a w:=by
 obtain⟨ys,h1,h2⟩:=h.obs n _ hl;obtain⟨ad,c,h3,h4,_⟩:=h.Xd hl;refine⟨ad,c,h3,h4,?_⟩;have hH:∀ m',m'≠n->look m' ((n,Ob.row e sz false (xs.take m) k')::S.H)=look m' S.H:=fun m' hm'=>by rw[ja1,Af (Ne.symm hm')]
 have hq:∀ e' sz' sh' xs' k'',look n ((n,Ob.row e sz false (xs.take m) k')::S.H)=some (.row e' sz' sh' xs' k'')->max (qw7 S.env) (qw8 S.H)<=k'':=fun e' sz' sh' xs' k'' h1=>by
  rw[ja1,Ae rfl]at h1;cases h1;exact hk
 have hb0:∀ b,hb (.slice ad m c)=some b->hb (β n).v=some b:=fun b hb'=>by
  rw[h3];cases ad<;>exact hb'
 refine h.turn hl (fun m' hm'=>n3 β n _ hm') rfl rfl rfl (As _) (fun _ _ _=>rfl) (fun b hb'=>?_) (fun _ _ _ _ _ h=>h) (fun _ _ _ _ _=>.inl rfl)
  (fun kp t x v hx hv=>Dw.bump kp (fun m' hm'=>n3 β n _ hm') ⟨_,_,_,h3⟩ hH hq x v (by have:=kf4 hx;omega) hv)
  (fun hm'=>absurd hm' (by simpa using hN))
  (fun kp m' cs vs _ hm' hv=>Dc.bump kp (fun m' hm'=>n3 β n _ hm') ⟨_,_,_,h3⟩ hH hq _ vs (by have:=kf5 hm';omega) hv) (fun kp=>?_)
 ·rw[mf0]at hb';exact .inl (hb0 b hb')
 ·rw[jf9];refine⟨ys.take (m * sz),?_,Gl.keep kp _ _ _ (h2.take m hm)⟩;rw[Aj,Nat.min_eq_left hm];have hle:m * sz<=xs.length * sz:=Nat.mul_le_mul_right _ hm;refine⟨by rw[Aj,h1.1,Nat.min_eq_left hle],?_⟩;rcases h1.2 with ⟨q1,q2⟩|⟨g,cap,cur,q,q0,q1,q2,q3,q4,q5⟩
  ·rw[h3]at q1;simp only[Value.slice.injEq]at q1;obtain⟨rfl,_,rfl⟩:=q1;obtain rfl:m=0:=by omega
   exact .inl ⟨rfl,rfl⟩
  ·rw[h3]at q;simp only[Value.slice.injEq]at q;obtain⟨rfl,_,rfl⟩:=q;refine .inr ⟨g,c,cur,rfl,q0,q1,by omega,q3,q4,?_⟩;rw[<-q5,List.take_take,Nat.min_eq_left hle]
theorem kx7 {P:Program}{t e sz:Nat}(ht:TSlice P t e sz)(a:Option Addr)(n c m:Nat)(k:IntKind)(hm:m<=c)(w:World):(Instr.slice t (.slice a n c) none (some (.int k (m:Nat))) none).run P w=.ok (sliced a 0 m c sz) w:=by
 obtain⟨ie,hu,hie,hs,hpos⟩:=ja6 ht;have hb:(Instr.sliceBounds true n c none (some (.int k (m:Nat))) none).run P w=.ok (0,m,c) w:=by
  have:(m:Int)<=(c:Int):=by omega
  simp[Instr.sliceBounds,Instr.sliceBound,asIntOf,this,show ¬c<m by omega]
 simp[run_underlying hu,Instr.slice,hb,jc1 hie,hs,sliced]
end
end
section
structure Wn (E:Set)(S:Sd)(o:Oper)(S':Nat->Sd)(v:Nat->V):Prop where
 out:∀ β a w,StB E.C β S a w->∃ x β' k,(∀ w',(execOp a.eval o).run E.P w'=.ok (.value x) w')/\StB E.C β' (S' k) a w/\Dw w (Mut E.C.M0 β' (S' k).H) β' (S' k).H (v k) x
theorem mx7 {E:Set}{Q:Exit->Sd->Prop}{S:Sd}{ops:Array Oper}{draw:Bool}{rest:Todo}{way:Kt}{o:Oper}{d:Nat}{S':Nat->Sd}{v:Nat->V}(hq:Wn E S o S' v)(hdst:o.dst=some d)(hd:d<E.C.nt)(hg:S.gd ops o=some true)(hdf:jc0 o=false)(h:∀ k,TR E draw ops Q rest ((S' k).put d (v k))):TR E draw ops Q (.step o way rest) S:=fun a w hS=>by
 have hS0:=hS;obtain⟨β,hB⟩:=hS;obtain⟨x,β',k,h1,hB',h2⟩:=hq.out β a w hB;have hput:∀ w',Grows w w'->St E.C ((S' k).put d (v k)) (a.put o.dst x) w':=fun w' g=>by
  rw[hdst];exact St.later ⟨β',hB'.put hd h2⟩ g
 cases draw with
 |true=>
  dsimp only;cases way with
  |pure=>
   simp only[x9];rw[Sd.Gw hS0 hg,Ae rfl];exact⟨x,fun w'=>h1 w',h k _ _ (hput w (Grows.refl w))⟩
  |quiet=>
   simp only[x9];rw[Sd.Gw hS0 hg,Ae rfl];refine⟨x,fun n=>?_,h k _ _ (hput w (Grows.refl w))⟩;rw[h1 n.w];exact⟨rfl,rfl⟩
  |grow=>
   simp only[x9];intro n;rw[Sd.Gw hS0 hg,Ae rfl];exact je4 (h1 n.w) ⟨Grows.refl _,h k _ _ (hput n.w n.grows)⟩
  |bar=>
   simp only[x9];intro n;rw[Sd.Gw hS0 hg,Ae rfl];exact je4 (h1 n.w) (h k _ _ (hput n.w n.grows))
 |false=>exact ja2 hS0 hg hdf fun K hK=>je4 (h1 w) (hK _ _ (h k _ _ (hput w (Grows.refl w))))
theorem mx8 (f:ByteArray->List D)(s:ByteArray):Nf f s (f s)=f:=by
 funext t;unfold Nf;split
 ·rename_i e;rw[e]
 ·rfl
section
variable {E:Set}{Q:Exit->Sd->Prop}{ops:Array Oper}{draw:Bool}{rest:Todo}{way:Kt}{ty:TypeId}{pos:String}{af:Array Edge}{gd:Option (Nat × Bool)}{dst:Option Tmp}
variable {env:List (Nat × V)}{H:List (Nat × Ob)}{gl:List (Nat × List D)}{d:Nat}
theorem jf4 (q:Nat){t k e n e' sz:Nat}{x y:Operand}{f:ByteArray->List D}{s:ByteArray}[ht:TMap E.P t k e][hkk:TKey E.P k .str][hz:Om E.P e (.nils sz)]
 (h:TR E draw ops Q rest ⟨(d,.own q 0)::env,(n,.smap e' sz f (some (s,.own q 0)))::(q,.row e' sz false (f s) 0)::H,gl⟩) (hx:Sd.ev ⟨env,H,gl⟩ x=some (.map n):=by exact rfl) (hox:Cw x=true:=by exact rfl) (hl:look n H=some (.smap e' sz f none):=by exact rfl)
 (hy:Sd.ev ⟨env,H,gl⟩ y=some (.d (.str s)):=by exact rfl) (hoy:Cw y=true:=by exact rfl) (hq:Sd.fresh ⟨env,H,gl⟩ q=true:=by exact rfl) (hd:d<E.C.nt:=by exact ltd rfl)
 (hg:Sd.gd ⟨env,(n,.smap e' sz f (some (s,.own q 0)))::(q,.row e' sz false (f s) 0)::H,gl⟩ ops ⟨some d,.lookup t x y false,ty,pos,af,gd⟩=some true:=by exact rfl) (hw:way.known=false:=by exact rfl):TR E draw ops Q (.step ⟨some d,.lookup t x y false,ty,pos,af,gd⟩ way rest) ⟨env,H,gl⟩:=by
 refine ql1 (md9 s hl hq) ?_;refine jq6 (kx6 (n:=n) (f:=f) (s:=s) (v:=.own q 0) (e':=e') (sz:=sz) ?_ hox ?_ ?_ hoy) rfl hd hg rfl hw h
 ·cases x<;>exact hx
 ·exact(ja1 n).trans (Ae rfl)
 ·cases y<;>exact hy
theorem jp7 {t k e n e' sz:Nat}{x y:Operand}{f:ByteArray->List D}{s:ByteArray}{v:V}[ht:TMap E.P t k e][hkk:TKey E.P k .str][hz:Om E.P e (.nils sz)]
 (h:TR E draw ops Q rest ⟨(d,v)::env,H,gl⟩) (hx:Sd.ev ⟨env,H,gl⟩ x=some (.map n):=by exact rfl) (hox:Cw x=true:=by exact rfl) (hl:look n H=some (.smap e' sz f (some (s,v))):=by exact rfl)
 (hy:Sd.ev ⟨env,H,gl⟩ y=some (.d (.str s)):=by exact rfl) (hoy:Cw y=true:=by exact rfl) (hd:d<E.C.nt:=by exact ltd rfl)
 (hg:Sd.gd ⟨env,H,gl⟩ ops ⟨some d,.lookup t x y false,ty,pos,af,gd⟩=some true:=by exact rfl) (hw:way.known=false:=by exact rfl):TR E draw ops Q (.step ⟨some d,.lookup t x y false,ty,pos,af,gd⟩ way rest) ⟨env,H,gl⟩:=
 jq6 (kx6 hx hox hl hy hoy) rfl hd hg rfl hw h
theorem jn3 {t k e n e' sz q kq:Nat}{x y z:Operand}{f:ByteArray->List D}{s:ByteArray}{v:V}{xs:List D}{H0:List (Nat × Ob)}[ht:TMap E.P t k e][hkk:TKey E.P k .str]
 (h:TR E draw ops Q rest ⟨env,(n,.smap e' sz (Nf f s xs) none)::H0,gl⟩) (hx:Sd.ev ⟨env,H,gl⟩ x=some (.map n):=by exact rfl) (hox:Cw x=true:=by exact rfl) (hl:look n H=some (.smap e' sz f (some (s,v))):=by exact rfl)
 (hy:Sd.ev ⟨env,H,gl⟩ y=some (.d (.str s)):=by exact rfl) (hoy:Cw y=true:=by exact rfl) (hz:Sd.ev ⟨env,H,gl⟩ z=some (.own q kq):=by exact rfl) (hoz:Cw z=true:=by exact rfl)
 (hr:look q ((n,Ob.smap e' sz f (some (s,.own q kq)))::H)=some (.row e' sz false xs kq):=by exact rfl) (hd:Drop [q] ((n,Ob.smap e' sz f (some (s,.own q kq)))::H) H0:=by(repeat (first|exact Drop.nil|apply Drop.drop rfl|apply Drop.take rfl));fail_if_success intros) (hN:E.C.N.contains q=false:=by exact rfl)
 (hg:Sd.gd ⟨env,H,gl⟩ ops ⟨none,.mapUpdate t x y z,ty,pos,af,gd⟩=some true:=by exact rfl) (hw:Mr draw way=true:=by exact rfl):TR E draw ops Q (.step ⟨none,.mapUpdate t x y z,ty,pos,af,gd⟩ way rest) ⟨env,H,gl⟩:=
 jy9 (mx6 hx hox hl hy hoy hz hoz) rfl hg rfl hw (ql1 (km8 ((ja1 n).trans (Ae rfl)) hr hd hN) h)
theorem qz6 {C:Ctx}{n q e sz k:Nat}{f:ByteArray->List D}{s:ByteArray}{H0:List (Nat × Ob)}(hl:look n H=some (.smap e sz f (some (s,.own q k))):=by exact rfl)(hr:look q H=some (.row e sz false (f s) k):=by exact rfl)(hd:Drop [q] H H0:=by(repeat (first|exact Drop.nil|apply Drop.drop rfl|apply Drop.take rfl));fail_if_success intros)(hN:C.N.contains q=false:=by exact rfl):
 Wk C ⟨env,H,gl⟩ ⟨env,(n,.smap e sz f none)::H0,gl⟩:=by
 have:=km8 (C:=C) (env:=env) (gl:=gl) hl hr hd hN
 rwa [mx8]at this
theorem qz7 {S:Sd}{t e sz n k m:Nat}{x hi:Operand}{xs:List D}{ki:IntKind}{mv:Int}[ht:TSlice E.P t e sz](hx:S.ev x=some (.own n k))(hox:Cw x=true)(hl:look n S.H=some (.row e sz false xs k))(hh:S.ev hi=some (.d (.int ki mv)))(hoh:Cw hi=true)(em:mv=(m:Nat))(hm:m<=xs.length)(hN:E.C.N.contains n=false):
 Wn E S ⟨some d,.slice t x none (some hi) none,ty,pos,af,gd⟩ (fun k'=>{S with H:=(n,.row e sz false (xs.take m) k')::S.H}) (fun k'=>.own n k'):=Wn.mk fun β a w h=>by
 subst em;obtain⟨ad,c,h1,h2,h3⟩:=h.trunc hl hm _ (As _) hN;have h4:a.eval x=(β n).v:=h.ev hx hox e sz false xs hl;have h5:a.eval hi=.int ki (m:Nat):=h.ev hh hoh;refine⟨.slice ad m c,_,_,fun w=>?_,h3,jr3⟩;have h6:=kx7 (P:=E.P) ht ad xs.length c m ki (by omega) w;have h7:sliced ad 0 m c sz=.slice ad m c:=by
  unfold sliced;cases ad with
  |none=>simp
  |some p=>simp[Addr.add]
 rw[h7]at h6;obtain⟨ie,hu,_⟩:=ja6 ht;simp[execOp,Instr.sliceAt,h4,h1,h5,h6,run_underlying hu]
theorem jx6 {t e sz n k m:Nat}{x hi:Operand}{xs:List D}{ki:IntKind}{mv:Int}[ht:TSlice E.P t e sz](h:∀ k',TR E draw ops Q rest ⟨(d,.own n k')::env,(n,.row e sz false (xs.take m) k')::H,gl⟩)(hx:Sd.ev ⟨env,H,gl⟩ x=some (.own n k):=by exact rfl)(hox:Cw x=true:=by exact rfl)
 (hl:look n H=some (.row e sz false xs k):=by exact rfl) (hh:Sd.ev ⟨env,H,gl⟩ hi=some (.d (.int ki mv)):=by exact rfl) (hoh:Cw hi=true:=by exact rfl) (em:mv=(m:Nat):=by first|exact rfl|omega) (hm:m<=xs.length:=by omega) (hN:E.C.N.contains n=false:=by exact rfl) (hd:d<E.C.nt:=by exact ltd rfl)
 (hg:Sd.gd ⟨env,H,gl⟩ ops ⟨some d,.slice t x none (some hi) none,ty,pos,af,gd⟩=some true:=by exact rfl):TR E draw ops Q (.step ⟨some d,.slice t x none (some hi) none,ty,pos,af,gd⟩ way rest) ⟨env,H,gl⟩:=
 mx7 (qz7 hx hox hl hh hoh em hm hN (d:=d)) rfl hd hg rfl h
theorem jd0 (n:Nat){e sz k:Nat}{sh:Bool}{xs:List D}(hl:look n H=some (.row e sz sh xs k))(h:xs.length<=9223372036854775807->TR E draw ops Q rest ⟨env,H,gl⟩):TR E draw ops Q rest ⟨env,H,gl⟩:=fun a w ⟨β,hB⟩=>by
 refine h ?_ a w ⟨β,hB⟩;obtain⟨ys,h1,_⟩:=hB.obs n _ hl;rcases h1.2 with ⟨_,q2⟩|⟨g,cap,cur,_,_,_,q3,q4,_⟩
 ·omega
 ·have:maxLen=9223372036854775807:=rfl;omega
structure EndsW (C:Ctx)(P:Program)(rs:List ResultVar)(H0:List (Nat × Ob))(R:V->List (Nat × Ob)->Prop)(e:Exit)(S:Sd):Prop where
 out:∃ S',Wk C S S'/\Qb P rs H0 R e S'
theorem qn0 {c:Code}{S:Sd}{P:Program}{rs:List ResultVar}{H0:List (Nat × Ob)}{R:V->List (Nat × Ob)->Prop}(h:TC E c (EndsW E.C P rs H0 R) S):TC E c (Qb P rs H0 R) S:=
 fun a w hS=>wpIn_mono (h a w hS) fun _ a w ⟨_,hS',⟨S2,h1,h2⟩⟩=>⟨S2,h1 a w hS',h2⟩
theorem rn6 {C:Ctx}{S S':Sd}{P:Program}{rs:List ResultVar}{H0:List (Nat × Ob)}{R:V->List (Nat × Ob)->Prop}{e:Exit}(hw:Wk C S S')(h:Qb P rs H0 R e S'):EndsW C P rs H0 R e S:=⟨S',hw,h⟩
theorem je0 {P:Program}{H0 H1:List (Nat × Ob)}{R:V->List (Nat × Ob)->Prop}{S:Sd}(hr:R (.tup []) H1)(hsub:Sub S.H H1:=by(repeat (first|exact Sub.nil|apply Sub.cons rfl));fail_if_success intros)(hok:Ot H0 H1 (.tup [])=true:=by rfl):Qb P [] H0 R .normal S:=Qb.mk (.inr rfl) ⟨[],_,Pb.nil,hsub,hok,hr⟩
theorem qz8 {S:Sd}{n t e sz m:Nat}{kl k:IntKind}{p q:Int}{y x:Operand}[ht:TSlice E.P t e sz](hy:S.ev y=some (.d (.int kl q)))(hoy:Cw y=true)(hq:q=0)(hx:S.ev x=some (.d (.int k p)))(hox:Cw x=true)(hp:p=(m:Nat))(hm:m<=100000000000)(hn:S.fresh n=true):
 Grow E S ⟨some d,.makeSlice t y x,ty,pos,af,gd⟩ {S with H:=(n,.row e sz true [] 0)::S.H} (.own n 0):=Grow.mk fun β a w h=>by
 subst hp hq;obtain⟨bytes,⟨i,z',hu,hi,hz',hs,hby,hzs,hpos⟩,hbl⟩:=jh5 ht;have h0:a.eval y=.int kl 0:=h.ev hy hoy;have h1:a.eval x=.int k (m:Nat):=h.ev hx hox;obtain⟨w',h2,h3,h4⟩:=run_make_own (P:=E.P) w 0 t e i z' sz hu hi hz' hs kl k m (by rw[hby];have:=Nat.mul_le_mul hbl hm;omega) (by unfold maxLen;omega) (Ak _);have g:Grows w w':=(Below.refl _ _).grown h4 (As _) (fun k hk=>by cases hk);refine⟨_,w',_,?_,g,h.newRow (sh:=true) (xs:=[]) hn g (fun b hb'=>?_) h3 rfl,jr3⟩
 ·simp only[execOp,h0,h1,Sem.run_bind,h2,Result.andThen_ok,Sem.run_pure]
 ·simp only[Value.ownBlock,Bm]at hb';omega
theorem jc3 {t e sz m:Nat}{kl k:IntKind}{p q:Int}{y x:Operand}[ht:TSlice E.P t e sz](n:Nat)(h:TR E draw ops Q rest ⟨(d,.own n 0)::env,(n,.row e sz true [] 0)::H,gl⟩)(hy:Sd.ev ⟨env,H,gl⟩ y=some (.d (.int kl q)):=by exact rfl)(hoy:Cw y=true:=by exact rfl)(hq:q=0:=by exact rfl)(hx:Sd.ev ⟨env,H,gl⟩ x=some (.d (.int k p)):=by exact rfl)(hox:Cw x=true:=by exact rfl)
 (hp:p=(m:Nat):=by first|with_reducible exact p9|exact rfl|exact(En (by omega)).symm) (hm:m<=100000000000:=by omega) (hn:Sd.fresh ⟨env,H,gl⟩ n=true:=by exact rfl) (hd:d<E.C.nt:=by exact ltd rfl)
 (hg:Sd.gd ⟨env,H,gl⟩ ops ⟨some d,.makeSlice t y x,ty,pos,af,gd⟩=some true:=by exact rfl) (hw:way.loud=true:=by exact rfl):TR E draw ops Q (.step ⟨some d,.makeSlice t y x,ty,pos,af,gd⟩ way rest) ⟨env,H,gl⟩:=jt1 (qz8 hy hoy hq hx hox hp hm hn) rfl hd hg rfl hw h
end
end
section
section
variable {E:Set}{S:Sd}{dst:Option Tmp}{ty:TypeId}{pos:String}{af:Array Edge}{gd:Option (Nat × Bool)}
theorem js6 {t m e sz sz' i:Nat}{x y:Operand}{k:IntKind}{p:Int}{cs ds:List D}[ht:TArray E.P t m e sz][hc:TAgg E.P e sz'](hx:S.ev x=some (.d (.agg cs)))(hox:Cw x=true)(hy:S.ev y=some (.d (.int k p)))(hoy:Cw y=true)(hi:p=(i:Nat))(hm:i<m)(hv:Cut cs (i * sz) sz' ds):
 Swift E S ⟨dst,.index t x y,ty,pos,af,gd⟩ (.d (.agg ds)):=Swift.mk fun β a w h=>by
 subst hi;obtain⟨vs,h1,h2⟩:=h.ev hx hox;have hy':a.eval y=.int k (i:Nat):=h.ev hy hoy;obtain⟨h3,h4⟩:=hv.eq;obtain⟨ie,hu,hie,hs,_⟩:=mh2 ht;obtain⟨d,i',hu',n1,hi',hs'⟩:=jo8 hc;have hee:sz=sz':=by rw[hie]at hi';cases hi';rw[<-hs,hs']
 subst hee;have h5:Dv w (Mut E.C.M0 β S.H) ds ((vs.drop (i * sz)).take sz):=by rw[h3];exact(h2.drop _).take sz
 refine⟨.agg ((vs.drop (i * sz)).take sz).toArray,fun w' _=>?_,_,rfl,h5⟩;have he:(vs.toArray.extract (i * sz) (i * sz+sz))=((vs.drop (i * sz)).take sz).toArray:=by simp[List.extract_eq_take_drop]
 have hlt:(i:Int)<(m:Int):=by omega
 simp[execOp,h1,hy',Instr.index,asIntOf,run_underlying hu,hlt,hm,jc1 hie,hs,part,ki7 hu' n1,jc1 hi',hs',he]
end
theorem g8 {E:Set}{Q:Exit->Sd->Prop}{S:Sd}{x y:Code}{ι:Type}(F:ι->Sd)(P:ι->Prop)(h1:TC E x (Exit.Mq (fun S1=>∃ i,P i/\Wk E.C S1 (F i)) Q) S)(h2:∀ i,P i->TC E y Q (F i)):TC E (.seq x y) Q S:=
 Cb fun K hK=>mh1 h1 fun e S1 h=>match e,h with
  |.normal,⟨i,hp,hw⟩=>hK _ (jd9 hw (h2 i hp))
  |.ret,h=>h
  |.exit _,h=>h
  |.panic _,h=>h
  |.goto _,h=>h
  |.outgrown,h=>h
section
variable {E:Set}{Q:Exit->Sd->Prop}{env:List (Nat × V)}{H:List (Nat × Ob)}{gl:List (Nat × List D)}
theorem k9 {c:Code}(t i:Nat){sz:Nat}{xs ds:List D}(hl:look t env=some (.d (.agg ds)))(hi:ds[i]? =some (.list sz xs))(h:xs.length<=9223372036854775807->TC E c Q ⟨env,H,gl⟩):TC E c Q ⟨env,H,gl⟩:=fun a w ⟨β,hB⟩=>by
 obtain⟨x,_,vs,h2,h3⟩:=hB.env t _ hl;obtain⟨_,_,_,h4⟩:=h3.get hi;obtain⟨_,_,_,_,q1,q2,_⟩:=h4;exact h (Fc q1 q2) a w ⟨β,hB⟩
end
end
end Go.Proofs.YtdopmfifmgkmoaaGreatDoor
