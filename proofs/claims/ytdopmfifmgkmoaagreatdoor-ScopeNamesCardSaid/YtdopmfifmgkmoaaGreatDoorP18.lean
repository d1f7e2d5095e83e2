/- Parts: D32, D33, D34. -/
import Derived.Test.YtdopmfifmgkmoaaGreatDoorP17
set_option linter.all false
set_option maxRecDepth 100000
set_option maxHeartbeats 16000000
namespace Go.Proofs.YtdopmfifmgkmoaaGreatDoor
open Go.RowKit
section
theorem jo5 {α:Type}{q:Nat}{l r:List (Nat × α)}(h:Drop [q] l r):(∀ m,m≠q->look m r=look m l)/\look q r=none:=by
 induction h with
 |nil=>exact⟨fun _ _=>rfl,rfl⟩
 |@take t v l r h1 _ ih=>
  have hne:t≠q:=fun e=>by subst e;simp[memN]at h1
  refine⟨fun m hm=>?_,?_⟩
  ·rw[j8,j8]
   split
   ·rfl
   ·exact ih.1 m hm
  ·rw[j8,if_neg hne]
   exact ih.2
 |@drop t v l r h1 _ ih=>
  refine⟨fun m hm=>?_,ih.2⟩
  rw[j8,if_neg]
  ·exact ih.1 m hm
  ·rintro rfl
   simp[memN,Ne.symm hm]at h1
section
variable {E:Set}{Q:Exit->Sd->Prop}{ops:Array Oper}{draw:Bool}{rest:Todo}{way:Way3}{ty:TypeId}{pos:String}{af:Array Edge}{gd:Option (Nat × Bool)}{dst:Option Tmp}
variable {env:List (Nat × V)}{H:List (Nat × Ob)}{gl:List (Nat × List D)}{d:Nat}{C:Ctx}
theorem kc8 {n q e sz i:Nat}{xs:List D}{cs:List V}(hl:look n H=some (.hbox e sz xs i cs))(hq:Sd.fresh ⟨env,H,gl⟩ q=true):Wk C ⟨env,H,gl⟩ ⟨env,(n,.box (cs.set i (.own q 0)))::(q,.row e sz false xs 0)::H,gl⟩:=
 fun _ _ ⟨_,hB⟩=>hB.hboxOut hl hq
theorem kk5 {n q e sz i k:Nat}{xs:List D}{cs:List V}{H0:List (Nat × Ob)}(hl:look n H=some (.box cs))(hi:cs[i]? =some (.own q k))(hr:look q H=some (.row e sz false xs k))(hs:saysL q (cs.set i (.nils 0))=false)(hd:Drop [q] H H0)(hN:C.N.contains q=false):
 Wk C ⟨env,H,gl⟩ ⟨env,(n,.hbox e sz xs i (cs.set i (.nils 0)))::H0,gl⟩:=
 fun _ _ ⟨_,hB⟩=>hB.hboxIn hl hi hr hs (jo5 hd).1 (jo5 hd).2 hN
theorem kz9 {n:Nat}(e sz:Nat)(hl:look n H=some (.map [] [])):Wk C ⟨env,H,gl⟩ ⟨env,(n,.smap e sz (fun _=>[]) none)::H,gl⟩:=fun _ _ ⟨_,hB⟩=>hB.smapNew e sz hl
theorem ma0 {n q e sz:Nat}{f:ByteArray->List D}(s:ByteArray)(hl:look n H=some (.smap e sz f none))(hq:Sd.fresh ⟨env,H,gl⟩ q=true):Wk C ⟨env,H,gl⟩ ⟨env,(n,.smap e sz f (some (s,.own q 0)))::(q,.row e sz false (f s) 0)::H,gl⟩:=
 fun _ _ ⟨_,hB⟩=>hB.smapOut s hl hq
theorem kk6 {n q e sz k:Nat}{f:ByteArray->List D}{s:ByteArray}{xs:List D}{H0:List (Nat × Ob)}(hl:look n H=some (.smap e sz f (some (s,.own q k))))(hr:look q H=some (.row e sz false xs k))(hd:Drop [q] H H0)(hN:C.N.contains q=false):
 Wk C ⟨env,H,gl⟩ ⟨env,(n,.smap e sz (updF f s xs) none)::H0,gl⟩:=fun _ _ ⟨_,hB⟩=>hB.smapIn hl hr (jo5 hd).1 (jo5 hd).2 hN
theorem ka0 {c:Code}{S S':Sd}(hw:Wk E.C S S')(h:TC E c Q S'):TC E c Q S:=fun a w hS=>h a w (hw a w hS)
theorem kv3 {S:Sd}{t k e n e' sz:Nat}{x y:Operand}{f:ByteArray->List D}{s:ByteArray}{v:V}[ht:TMap E.P t k e][hkk:TKey E.P k .str][hz:TZeroV E.P e (.nils sz)](hx:S.ev x=some (.map n))(hox:okOp x=true)(hl:look n S.H=some (.smap e' sz f (some (s,v))))(hy:S.ev y=some (.d (.str s)))(hoy:okOp y=true):
 Quiet E S ⟨dst,.lookup t x y false,ty,pos,af,gd⟩ v:=Quiet.mk fun β a w h=>by
 obtain⟨r,h1,h2⟩:=h.ev hx hox
 obtain⟨r',es,c,h3,h4,h5,h6⟩:=h.obs n _ hl
 rw[h1]at h3
 cases h3
 obtain⟨u,hu1,hu2⟩:=h6 s v rfl
 have hkey:a.eval y=keyV (.str s):=h.ev hy hoy
 have hc:Comp .str (.str s) (.str s):=.str _ _
 refine⟨u,fun w' g=>?_,hu1⟩
 obtain⟨q,q1,q2⟩:=je8 (P:=E.P) (t:=k) (x:=.str s) w' es.toList (fun en he=>by
  obtain⟨s',hs'⟩:=h5.key en he
  exact⟨.str s',.str _ _,hs'⟩)
 rcases q2 with ⟨rfl,q3⟩|⟨j,en,rfl,q3,q4,_⟩
 ·obtain⟨ie,z,hi,hzi,hzr⟩:=ku2 hz
  have hz0:z=.slice none 0 0:=hzr (w:=w) (M:=Mut E.C.M0 β S.H) (β:=β) (H:=S.H)
  have hu0:u=.slice none 0 0:=by
   rcases hu2 with ⟨en,h7,h8,_⟩|⟨_,h7⟩
   ·exact absurd h8 (q3 en h7)
   ·exact h7
  subst hz0 hu0
  simp only[execOp,h2,hkey,Instr.lookup,Sem.run_bind,run_underlying (jf3 ht),Result.andThen_ok,jd5 (jh0 g h4),Sem.run_pure,hc.check,q1,jp9 hi hzi]
  rfl
 ·have hu0:en.val=u:=hu2.one h5.one (List.mem_of_getElem? q3) q4
  subst hu0
  simp only[execOp,h2,hkey,Instr.lookup,Sem.run_bind,run_underlying (jf3 ht),Result.andThen_ok,jd5 (jh0 g h4),Sem.run_pure,hc.check,q1]
  rfl
theorem SMap.hit {w:World}{M:Nat->Nat->Prop}{e sz c r j:Nat}{f:ByteArray->List D}{s:ByteArray}{es:List MapEntry}{bs:List Nat}(h:SMap w M e sz f (some s) es c r bs){en:MapEntry}(he:es[j]? =some en)(hk:en.key=.string s)(u:Value):
 SMap w M e sz f (some s) (es.modify j fun x=>{x with key:=en.key,val:=u}) c r bs/\Lies (es.modify j fun x=>{x with key:=en.key,val:=u}) s u:=by
 have hj:=(List.getElem?_eq_some_iff.1 he).1
 have hej:=(List.getElem?_eq_some_iff.1 he).2
 have old:∀ x∈es.modify j fun x=>{x with key:=en.key,val:=u},(x∈es/\x.key≠.string s)\/(x.key=.string s/\x.val=u/\x.born=en.born):=fun x hx=>by
  obtain⟨i,hi,rfl⟩:=List.mem_iff_getElem.1 hx
  rw[List.getElem_modify]
  split
  ·rename_i hij
   subst hij
   refine .inr ⟨hk,rfl,?_⟩
   dsimp only
   rw[hej]
  ·rename_i hij
   have hi':i<es.length:=by simpa using hi
   refine .inl ⟨List.getElem_mem hi',fun h2=>hij ?_⟩
   rcases Nat.lt_trichotomy i j with hlt|hlt|hlt
   ·exact absurd (h2.trans (by rw[hej];exact hk.symm)) (List.pairwise_iff_getElem.1 h.one i j hi' hj hlt)
   ·exact hlt.symm
   ·exact absurd ((by rw[hej];exact hk:es[j].key=.string s).trans h2.symm) (List.pairwise_iff_getElem.1 h.one j i hj hi' hlt)
 have new:∀ x∈es,x.key≠.string s->x∈es.modify j fun x=>{x with key:=en.key,val:=u}:=fun x hx hne=>by
  obtain⟨i,hi,rfl⟩:=List.mem_iff_getElem.1 hx
  have hij:j≠i:=by rintro rfl;rw[hej]at hne;exact hne hk
  exact List.mem_of_getElem? (i:=i) (by rw[List.getElem?_modify,List.getElem?_eq_getElem hi];simp[hij])
 have here:(⟨en.key,u,en.born⟩:MapEntry)∈es.modify j fun x=>{x with key:=en.key,val:=u}:=List.mem_of_getElem? (i:=j) (by rw[List.getElem?_modify,he];simp)
 refine⟨⟨fun x hx=>?_,?_,fun x hx=>?_,fun x hx s' hks hne=>?_,fun s' hne hno=>?_,fun b=>?_,fun x hx y hy s1 s2 b k1 k2 n1 n2=>?_,h.map⟩,.inl ⟨_,here,hk,rfl⟩⟩
 ·rcases old x hx with ⟨h1,_⟩|⟨h1,_⟩
  ·exact h.key x h1
  ·exact⟨s,h1⟩
 ·have:=(kz6 he (u:=u)).1
  rw[<-List.pairwise_map (f:=fun x:MapEntry=>x.key) (R:=fun a b=>a≠b),this,List.pairwise_map]
  exact h.one
 ·rcases old x hx with ⟨h1,_⟩|⟨_,_,h1⟩
  ·exact h.born x h1
  ·rw[h1];exact h.born en (List.mem_of_getElem? he)
 ·rcases old x hx with ⟨h1,_⟩|⟨h1,_⟩
  ·exact h.here x h1 s' hks hne
  ·rw[h1]at hks;cases hks;exact absurd rfl hne
 ·refine h.none s' hne fun x hx hks=>?_
  refine hno x (new x hx fun h1=>?_) hks
  rw[h1]at hks;cases hks;exact absurd rfl hne
 ·rw[h.blk b]
  constructor
  ·rintro⟨x,h1,s',h2,h3,h4⟩
   exact⟨x,new x h1 (fun h5=>by rw[h5]at h2;cases h2;exact absurd rfl h3),s',h2,h3,h4⟩
  ·rintro⟨x,h1,s',h2,h3,h4⟩
   rcases old x h1 with ⟨h5,_⟩|⟨h5,_⟩
   ·exact⟨x,h5,s',h2,h3,h4⟩
   ·rw[h5]at h2;cases h2;exact absurd rfl h3
 ·have hx':x∈es:=by
   rcases old x hx with ⟨h5,_⟩|⟨h5,_⟩
   ·exact h5
   ·rw[h5]at k1;cases k1;exact absurd rfl n1
  have hy':y∈es:=by
   rcases old y hy with ⟨h5,_⟩|⟨h5,_⟩
   ·exact h5
   ·rw[h5]at k2;cases k2;exact absurd rfl n2
  exact h.apart x hx' y hy' s1 s2 b k1 k2 n1 n2
theorem SMap.more {w:World}{M:Nat->Nat->Prop}{e sz c r:Nat}{f:ByteArray->List D}{s:ByteArray}{es:List MapEntry}{bs:List Nat}(h:SMap w M e sz f (some s) es c r bs)(hno:∀ en∈es,en.key≠.string s)(u:Value):
 SMap w M e sz f (some s) (es++[⟨.string s,u,c⟩]) (c+1) r bs/\Lies (es++[⟨.string s,u,c⟩]) s u:=by
 have old:∀ x∈es++[(⟨.string s,u,c⟩:MapEntry)],x∈es\/x=⟨.string s,u,c⟩:=fun x hx=>by simpa using hx
 refine⟨⟨fun x hx=>?_,?_,fun x hx=>?_,fun x hx s' hks hne=>?_,fun s' hne hn=>?_,fun b=>?_,fun x hx y hy s1 s2 b k1 k2 n1 n2=>?_,h.map⟩,.inl ⟨⟨.string s,u,c⟩,by simp,rfl,rfl⟩⟩
 ·rcases old x hx with h1|rfl
  ·exact h.key x h1
  ·exact⟨s,rfl⟩
 ·rw[List.pairwise_append]
  exact⟨h.one,List.pairwise_singleton ..,fun x hx y hy=>by rw[List.mem_singleton]at hy;subst hy;exact hno x hx⟩
 ·rcases old x hx with h1|rfl
  ·have:=h.born x h1;omega
  ·exact Nat.lt_succ_self c
 ·rcases old x hx with h1|rfl
  ·exact h.here x h1 s' hks hne
  ·cases hks;exact absurd rfl hne
 ·exact h.none s' hne fun x hx=>hn x (List.mem_append_left _ hx)
 ·rw[h.blk b]
  constructor
  ·rintro⟨x,h1,r⟩
   exact⟨x,List.mem_append_left _ h1,r⟩
  ·rintro⟨x,h1,s',h2,h3,h4⟩
   rcases old x h1 with h5|rfl
   ·exact⟨x,h5,s',h2,h3,h4⟩
   ·cases h2;exact absurd rfl h3
 ·have hx':x∈es:=by
   rcases old x hx with h5|rfl
   ·exact h5
   ·cases k1;exact absurd rfl n1
  have hy':y∈es:=by
   rcases old y hy with h5|rfl
   ·exact h5
   ·cases k2;exact absurd rfl n2
  exact h.apart x hx' y hy' s1 s2 b k1 k2 n1 n2
theorem ms3 {S:Sd}{t k e n e' sz:Nat}{x y z:Operand}{f:ByteArray->List D}{s:ByteArray}{v v':V}[ht:TMap E.P t k e][hkk:TKey E.P k .str](hx:S.ev x=some (.map n))(hox:okOp x=true)(hl:look n S.H=some (.smap e' sz f (some (s,v))))(hy:S.ev y=some (.d (.str s)))(hoy:okOp y=true)(hz:S.ev z=some v')(hoz:okOp z=true)
 :Turn E S ⟨none,.mapUpdate t x y z,ty,pos,af,gd⟩ {S with H:=(n,.smap e' sz f (some (s,v')))::S.H}:=Turn.mk fun β a w h=>by
 obtain⟨r,h1,h2⟩:=h.ev hx hox
 obtain⟨r',es,c,h3,h4,h5,h6⟩:=h.obs n _ hl
 rw[h1]at h3
 cases h3
 have hkey:a.eval y=keyV (.str s):=h.ev hy hoy
 have hval:=h.ev hz hoz
 have hc:Comp .str (.str s) (.str s):=.str _ _
 have hbn:hb (β n).v=some r:=by rw[h1];rfl
 have hH:∀ m e1 sz1 sh xs k,look m ((n,Ob.smap e' sz f (some (s,v')))::S.H)=some (.row e1 sz1 sh xs k)->∃ sh' xs',look m S.H=some (.row e1 sz1 sh' xs' k):=fun m e1 sz1 sh xs k hm=>by
  rw[jb4]at hm
  split at hm
  ·cases hm
  ·exact⟨sh,xs,hm⟩
 obtain⟨q,q1,q2⟩:=je8 (P:=E.P) (t:=k) (x:=.str s) w es.toList (fun en he=>by
  obtain⟨s',hs'⟩:=h5.key en he
  exact⟨.str s',.str _ _,hs'⟩)
 have main:∀ (es':Array MapEntry) (c':Nat),SMap w (Mut E.C.M0 β S.H) e' sz f (some s) es'.toList c' r (β n).bs->Lies es'.toList s (a.eval z)->
  StB E.C β {S with H:=(n,.smap e' sz f (some (s,v')))::S.H} a (w.putObj r (.map es' c')):=fun es' c' hm hly=>by
  refine h.turnG hl (fun _ _=>rfl) rfl rfl rfl (by simp[World.putObj]) (fun k _ hk=>World.putObj_heap_other (fun e=>hk (.inl (by rw[hbn,e])))) (fun b h=>.inl h) (fun b' o' y h4 h5 _=>absurd trivial h5) (fun _ _ _ _ _=>trivial)
   (fun k t x v _=>RepV.keep k (fun _=>rfl) hH x v) (fun _=>rfl) (fun k m cs vs _ _=>RepL.keep k (fun _=>rfl) hH _ vs) (fun kp=>?_)
  refine⟨r,es',c',h1,World.putObj_heap_same (Array.getElem?_eq_some_iff.1 h4).1,hm.keep kp (fun b hb'=>World.putObj_heap_other (fun e=>?_)),fun s' y hx=>?_⟩
  ·subst e
   exact h5.map hb'
  ·cases hx
   exact⟨_,RepV.keep kp (fun _=>rfl) hH _ _ hval,hly⟩
 rcases q2 with ⟨rfl,q3⟩|⟨j,en,rfl,q3,q4,_⟩
 ·obtain⟨m1,m2⟩:=h5.more q3 (a.eval z)
  refine⟨w.putObj r (.map (es.push {key:=keyV (.str s),val:=a.eval z,born:=c}) (c+1)),?_,β,main _ _ (by rw[Array.toList_push];exact m1) (by rw[Array.toList_push];exact m2)⟩
  simp only[execOp,h2,hkey,Instr.mapUpdate,Sem.run_bind,run_underlying (jf3 ht),Result.andThen_ok,jd5 h4,hc.check,q1,jo3 _ h4,Sem.run_pure]
 ·rw[Nat.zero_add]at q1
  have hge:es[j]? =some en:=by simpa using q3
  obtain⟨m1,m2⟩:=h5.hit q3 q4 (a.eval z)
  have q4':en.key=keyV (.str s):=q4
  rw[q4']at m1 m2
  refine⟨w.putObj r (.map (es.modify j fun x=>{x with key:=keyV (.str s),val:=a.eval z}) c),?_,β,main _ _ (by rw[Array.toList_modify];exact m1) (by rw[Array.toList_modify];exact m2)⟩
  simp only[execOp,h2,hkey,Instr.mapUpdate,Sem.run_bind,run_underlying (jf3 ht),Result.andThen_ok,jd5 h4,hc.check,q1,hge,Option.map_some,Option.getD_some,q4',hc.stays,jo3 _ h4,Sem.run_pure]
theorem StB.trunc {C:Ctx}{β:Nat->Hd}{S:Sd}{a:Act}{w:World}(h:StB C β S a w){n e sz k m:Nat}{xs:List D}(hl:look n S.H=some (.row e sz false xs k))(hm:m<=xs.length)(k':Nat)(hk:max (qo2 S.env) (qo3 S.H)<=k')(hN:C.N.contains n=false):
 ∃ ad c,(β n).v=.slice ad xs.length c/\xs.length<=c/\StB C (upd β n (.slice ad m c)) {S with H:=(n,.row e sz false (xs.take m) k')::S.H} a w:=by
 obtain⟨ys,h1,h2⟩:=h.obs n _ hl
 obtain⟨ad,c,h3,h4,_⟩:=h.row_shape hl
 refine⟨ad,c,h3,h4,?_⟩
 have hH:∀ m',m'≠n->look m' ((n,Ob.row e sz false (xs.take m) k')::S.H)=look m' S.H:=fun m' hm'=>by rw[jb4,if_neg (Ne.symm hm')]
 have hq:∀ e' sz' sh' xs' k'',look n ((n,Ob.row e sz false (xs.take m) k')::S.H)=some (.row e' sz' sh' xs' k'')->max (qo2 S.env) (qo3 S.H)<=k'':=fun e' sz' sh' xs' k'' h1=>by
  rw[jb4,if_pos rfl]at h1
  cases h1
  exact hk
 have hb0:∀ b,hb (.slice ad m c)=some b->hb (β n).v=some b:=fun b hb'=>by
  rw[h3]
  cases ad<;>exact hb'
 refine h.turn hl (fun m' hm'=>l8 β n _ hm') rfl rfl rfl (Nat.le_refl _) (fun _ _ _=>rfl) (fun b hb'=>?_) (fun _ _ _ _ _ h=>h) (fun _ _ _ _ _=>.inl rfl)
  (fun kp t x v hx hv=>RepV.bump kp (fun m' hm'=>l8 β n _ hm') ⟨_,_,_,h3⟩ hH hq x v (by have:=ke0 hx;omega) hv)
  (fun hm'=>absurd hm' (by simpa using hN))
  (fun kp m' cs vs _ hm' hv=>RepL.bump kp (fun m' hm'=>l8 β n _ hm') ⟨_,_,_,h3⟩ hH hq _ vs (by have:=ke1 hm';omega) hv) (fun kp=>?_)
 ·rw[mb1]at hb'
  exact .inl (hb0 b hb')
 ·rw[jf1]
  refine⟨ys.take (m * sz),?_,RepE.keep kp _ _ _ (h2.take m hm)⟩
  rw[List.length_take,Nat.min_eq_left hm]
  have hle:m * sz<=xs.length * sz:=Nat.mul_le_mul_right _ hm
  refine⟨by rw[List.length_take,h1.1,Nat.min_eq_left hle],?_⟩
  rcases h1.2 with ⟨q1,q2⟩|⟨g,cap,cur,q,q0,q1,q2,q3,q4,q5⟩
  ·rw[h3]at q1
   simp only[Value.slice.injEq]at q1
   obtain⟨rfl,_,rfl⟩:=q1
   obtain rfl:m=0:=by omega
   exact .inl ⟨rfl,rfl⟩
  ·rw[h3]at q
   simp only[Value.slice.injEq]at q
   obtain⟨rfl,_,rfl⟩:=q
   refine .inr ⟨g,c,cur,rfl,q0,q1,by omega,q3,q4,?_⟩
   rw[<-q5,List.take_take,Nat.min_eq_left hle]
theorem kv4 {P:Program}{t e sz:Nat}(ht:TSlice P t e sz)(a:Option Addr)(n c m:Nat)(k:IntKind)(hm:m<=c)(w:World):(Instr.slice t (.slice a n c) none (some (.int k (m:Nat))) none).run P w=.ok (sliced a 0 m c sz) w:=by
 obtain⟨ie,hu,hie,hs,hpos⟩:=jc0 ht
 have hb:(Instr.sliceBounds true n c none (some (.int k (m:Nat))) none).run P w=.ok (0,m,c) w:=by
  have:(m:Int)<=(c:Int):=by omega
  simp[Instr.sliceBounds,Instr.sliceBound,asIntOf,this,show ¬c<m by omega]
 simp[run_underlying hu,Instr.slice,hb,jd1 hie,hs,sliced]
end
end
section
structure SwiftK (E:Set)(S:Sd)(o:Oper)(S':Nat->Sd)(v:Nat->V):Prop where
 out:∀ β a w,StB E.C β S a w->∃ x β' k,(∀ w',(execOp a.eval o).run E.P w'=.ok (.value x) w')/\StB E.C β' (S' k) a w/\RepV w (Mut E.C.M0 β' (S' k).H) β' (S' k).H (v k) x
theorem ms4 {E:Set}{Q:Exit->Sd->Prop}{S:Sd}{ops:Array Oper}{draw:Bool}{rest:Todo}{way:Way3}{o:Oper}{d:Nat}{S':Nat->Sd}{v:Nat->V}(hq:SwiftK E S o S' v)(hdst:o.dst=some d)(hd:d<E.C.nt)(hg:S.gd ops o=some true)(hdf:jb9 o=false)(h:∀ k,TR E draw ops Q rest ((S' k).put d (v k))):TR E draw ops Q (.step o way rest) S:=fun a w hS=>by
 have hS0:=hS
 obtain⟨β,hB⟩:=hS
 obtain⟨x,β',k,h1,hB',h2⟩:=hq.out β a w hB
 have hput:∀ w',Grows w w'->St E.C ((S' k).put d (v k)) (a.put o.dst x) w':=fun w' g=>by
  rw[hdst]
  exact St.later ⟨β',hB'.put hd h2⟩ g
 cases draw with
 |true=>
  dsimp only
  cases way with
  |pure=>
   simp only[x7]
   rw[Sd.gd_sound hS0 hg,if_pos rfl]
   exact⟨x,fun w'=>h1 w',h k _ _ (hput w (Grows.refl w))⟩
  |quiet=>
   simp only[x7]
   rw[Sd.gd_sound hS0 hg,if_pos rfl]
   refine⟨x,fun n=>?_,h k _ _ (hput w (Grows.refl w))⟩
   rw[h1 n.w]
   exact⟨rfl,rfl⟩
  |grow=>
   simp only[x7]
   intro n
   rw[Sd.gd_sound hS0 hg,if_pos rfl]
   exact je2 (h1 n.w) ⟨Grows.refl _,h k _ _ (hput n.w n.grows)⟩
  |bar=>
   simp only[x7]
   intro n
   rw[Sd.gd_sound hS0 hg,if_pos rfl]
   exact je2 (h1 n.w) (h k _ _ (hput n.w n.grows))
 |false=>exact ja0 hS0 hg hdf fun K hK=>je2 (h1 w) (hK _ _ (h k _ _ (hput w (Grows.refl w))))
theorem ms5 (f:ByteArray->List D)(s:ByteArray):updF f s (f s)=f:=by
 funext t
 unfold updF
 split
 ·rename_i e;rw[e]
 ·rfl
section
variable {E:Set}{Q:Exit->Sd->Prop}{ops:Array Oper}{draw:Bool}{rest:Todo}{way:Way3}{ty:TypeId}{pos:String}{af:Array Edge}{gd:Option (Nat × Bool)}{dst:Option Tmp}
variable {env:List (Nat × V)}{H:List (Nat × Ob)}{gl:List (Nat × List D)}{d:Nat}
theorem je9 (q:Nat){t k e n e' sz:Nat}{x y:Operand}{f:ByteArray->List D}{s:ByteArray}[ht:TMap E.P t k e][hkk:TKey E.P k .str][hz:TZeroV E.P e (.nils sz)]
 (h:TR E draw ops Q rest ⟨(d,.own q 0)::env,(n,.smap e' sz f (some (s,.own q 0)))::(q,.row e' sz false (f s) 0)::H,gl⟩) (hx:Sd.ev ⟨env,H,gl⟩ x=some (.map n):=by exact rfl) (hox:okOp x=true:=by exact rfl) (hl:look n H=some (.smap e' sz f none):=by exact rfl)
 (hy:Sd.ev ⟨env,H,gl⟩ y=some (.d (.str s)):=by exact rfl) (hoy:okOp y=true:=by exact rfl) (hq:Sd.fresh ⟨env,H,gl⟩ q=true:=by exact rfl) (hd:d<E.C.nt:=by exact ltd rfl)
 (hg:Sd.gd ⟨env,(n,.smap e' sz f (some (s,.own q 0)))::(q,.row e' sz false (f s) 0)::H,gl⟩ ops ⟨some d,.lookup t x y false,ty,pos,af,gd⟩=some true:=by exact rfl) (hw:way.known=false:=by exact rfl):TR E draw ops Q (.step ⟨some d,.lookup t x y false,ty,pos,af,gd⟩ way rest) ⟨env,H,gl⟩:=by
 refine mr4 (ma0 s hl hq) ?_
 refine ju6 (kv3 (n:=n) (f:=f) (s:=s) (v:=.own q 0) (e':=e') (sz:=sz) ?_ hox ?_ ?_ hoy) rfl hd hg rfl hw h
 ·cases x<;>exact hx
 ·exact(jb4 n).trans (if_pos rfl)
 ·cases y<;>exact hy
theorem jo6 {t k e n e' sz:Nat}{x y:Operand}{f:ByteArray->List D}{s:ByteArray}{v:V}[ht:TMap E.P t k e][hkk:TKey E.P k .str][hz:TZeroV E.P e (.nils sz)]
 (h:TR E draw ops Q rest ⟨(d,v)::env,H,gl⟩) (hx:Sd.ev ⟨env,H,gl⟩ x=some (.map n):=by exact rfl) (hox:okOp x=true:=by exact rfl) (hl:look n H=some (.smap e' sz f (some (s,v))):=by exact rfl)
 (hy:Sd.ev ⟨env,H,gl⟩ y=some (.d (.str s)):=by exact rfl) (hoy:okOp y=true:=by exact rfl) (hd:d<E.C.nt:=by exact ltd rfl)
 (hg:Sd.gd ⟨env,H,gl⟩ ops ⟨some d,.lookup t x y false,ty,pos,af,gd⟩=some true:=by exact rfl) (hw:way.known=false:=by exact rfl):TR E draw ops Q (.step ⟨some d,.lookup t x y false,ty,pos,af,gd⟩ way rest) ⟨env,H,gl⟩:=
 ju6 (kv3 hx hox hl hy hoy) rfl hd hg rfl hw h
theorem jl7 {t k e n e' sz q kq:Nat}{x y z:Operand}{f:ByteArray->List D}{s:ByteArray}{v:V}{xs:List D}{H0:List (Nat × Ob)}[ht:TMap E.P t k e][hkk:TKey E.P k .str]
 (h:TR E draw ops Q rest ⟨env,(n,.smap e' sz (updF f s xs) none)::H0,gl⟩) (hx:Sd.ev ⟨env,H,gl⟩ x=some (.map n):=by exact rfl) (hox:okOp x=true:=by exact rfl) (hl:look n H=some (.smap e' sz f (some (s,v))):=by exact rfl)
 (hy:Sd.ev ⟨env,H,gl⟩ y=some (.d (.str s)):=by exact rfl) (hoy:okOp y=true:=by exact rfl) (hz:Sd.ev ⟨env,H,gl⟩ z=some (.own q kq):=by exact rfl) (hoz:okOp z=true:=by exact rfl)
 (hr:look q ((n,Ob.smap e' sz f (some (s,.own q kq)))::H)=some (.row e' sz false xs kq):=by exact rfl) (hd:Drop [q] ((n,Ob.smap e' sz f (some (s,.own q kq)))::H) H0:=by(repeat (first|exact Drop.nil|apply Drop.drop rfl|apply Drop.take rfl));fail_if_success intros) (hN:E.C.N.contains q=false:=by exact rfl)
 (hg:Sd.gd ⟨env,H,gl⟩ ops ⟨none,.mapUpdate t x y z,ty,pos,af,gd⟩=some true:=by exact rfl) (hw:isBar draw way=true:=by exact rfl):TR E draw ops Q (.step ⟨none,.mapUpdate t x y z,ty,pos,af,gd⟩ way rest) ⟨env,H,gl⟩:=
 kg9 (ms3 hx hox hl hy hoy hz hoz) rfl hg rfl hw (mr4 (kk6 ((jb4 n).trans (if_pos rfl)) hr hd hN) h)
theorem qr2 {C:Ctx}{n q e sz k:Nat}{f:ByteArray->List D}{s:ByteArray}{H0:List (Nat × Ob)}(hl:look n H=some (.smap e sz f (some (s,.own q k))):=by exact rfl)(hr:look q H=some (.row e sz false (f s) k):=by exact rfl)(hd:Drop [q] H H0:=by(repeat (first|exact Drop.nil|apply Drop.drop rfl|apply Drop.take rfl));fail_if_success intros)(hN:C.N.contains q=false:=by exact rfl):
 Wk C ⟨env,H,gl⟩ ⟨env,(n,.smap e sz f none)::H0,gl⟩:=by
 have:=kk6 (C:=C) (env:=env) (gl:=gl) hl hr hd hN
 rwa [ms5]at this
theorem qr3 {S:Sd}{t e sz n k m:Nat}{x hi:Operand}{xs:List D}{ki:IntKind}{mv:Int}[ht:TSlice E.P t e sz](hx:S.ev x=some (.own n k))(hox:okOp x=true)(hl:look n S.H=some (.row e sz false xs k))(hh:S.ev hi=some (.d (.int ki mv)))(hoh:okOp hi=true)(em:mv=(m:Nat))(hm:m<=xs.length)(hN:E.C.N.contains n=false):
 SwiftK E S ⟨some d,.slice t x none (some hi) none,ty,pos,af,gd⟩ (fun k'=>{S with H:=(n,.row e sz false (xs.take m) k')::S.H}) (fun k'=>.own n k'):=SwiftK.mk fun β a w h=>by
 subst em
 obtain⟨ad,c,h1,h2,h3⟩:=h.trunc hl hm _ (Nat.le_refl _) hN
 have h4:a.eval x=(β n).v:=h.ev hx hox e sz false xs hl
 have h5:a.eval hi=.int ki (m:Nat):=h.ev hh hoh
 refine⟨.slice ad m c,_,_,fun w=>?_,h3,jv5⟩
 have h6:=kv4 (P:=E.P) ht ad xs.length c m ki (by omega) w
 have h7:sliced ad 0 m c sz=.slice ad m c:=by
  unfold sliced
  cases ad with
  |none=>simp
  |some p=>simp[Addr.add]
 rw[h7]at h6
 obtain⟨ie,hu,_⟩:=jc0 ht
 simp[execOp,Instr.sliceAt,h4,h1,h5,h6,run_underlying hu]
theorem jw1 {t e sz n k m:Nat}{x hi:Operand}{xs:List D}{ki:IntKind}{mv:Int}[ht:TSlice E.P t e sz](h:∀ k',TR E draw ops Q rest ⟨(d,.own n k')::env,(n,.row e sz false (xs.take m) k')::H,gl⟩)(hx:Sd.ev ⟨env,H,gl⟩ x=some (.own n k):=by exact rfl)(hox:okOp x=true:=by exact rfl)
 (hl:look n H=some (.row e sz false xs k):=by exact rfl) (hh:Sd.ev ⟨env,H,gl⟩ hi=some (.d (.int ki mv)):=by exact rfl) (hoh:okOp hi=true:=by exact rfl) (em:mv=(m:Nat):=by first|exact rfl|omega) (hm:m<=xs.length:=by omega) (hN:E.C.N.contains n=false:=by exact rfl) (hd:d<E.C.nt:=by exact ltd rfl)
 (hg:Sd.gd ⟨env,H,gl⟩ ops ⟨some d,.slice t x none (some hi) none,ty,pos,af,gd⟩=some true:=by exact rfl):TR E draw ops Q (.step ⟨some d,.slice t x none (some hi) none,ty,pos,af,gd⟩ way rest) ⟨env,H,gl⟩:=
 ms4 (qr3 hx hox hl hh hoh em hm hN (d:=d)) rfl hd hg rfl h
theorem jd3 (n:Nat){e sz k:Nat}{sh:Bool}{xs:List D}(hl:look n H=some (.row e sz sh xs k))(h:xs.length<=9223372036854775807->TR E draw ops Q rest ⟨env,H,gl⟩):TR E draw ops Q rest ⟨env,H,gl⟩:=fun a w ⟨β,hB⟩=>by
 refine h ?_ a w ⟨β,hB⟩
 obtain⟨ys,h1,_⟩:=hB.obs n _ hl
 rcases h1.2 with ⟨_,q2⟩|⟨g,cap,cur,_,_,_,q3,q4,_⟩
 ·omega
 ·have:maxLen=9223372036854775807:=rfl
  omega
structure EndsW (C:Ctx)(P:Program)(rs:List ResultVar)(H0:List (Nat × Ob))(R:V->List (Nat × Ob)->Prop)(e:Exit)(S:Sd):Prop where
 out:∃ S',Wk C S S'/\EndsE P rs H0 R e S'
theorem qf8 {c:Code}{S:Sd}{P:Program}{rs:List ResultVar}{H0:List (Nat × Ob)}{R:V->List (Nat × Ob)->Prop}(h:TC E c (EndsW E.C P rs H0 R) S):TC E c (EndsE P rs H0 R) S:=
 fun a w hS=>wpIn_mono (h a w hS) fun _ a w ⟨_,hS',⟨S2,h1,h2⟩⟩=>⟨S2,h1 a w hS',h2⟩
theorem re0 {C:Ctx}{S S':Sd}{P:Program}{rs:List ResultVar}{H0:List (Nat × Ob)}{R:V->List (Nat × Ob)->Prop}{e:Exit}(hw:Wk C S S')(h:EndsE P rs H0 R e S'):EndsW C P rs H0 R e S:=⟨S',hw,h⟩
theorem je5 {P:Program}{H0 H1:List (Nat × Ob)}{R:V->List (Nat × Ob)->Prop}{S:Sd}(hr:R (.tup []) H1)(hsub:Sub S.H H1:=by(repeat (first|exact Sub.nil|apply Sub.cons rfl));fail_if_success intros)(hok:endOk H0 H1 (.tup [])=true:=by rfl):EndsE P [] H0 R .normal S:=EndsE.mk (.inr rfl) ⟨[],_,ResE.nil,hsub,hok,hr⟩
theorem qr4 {S:Sd}{n t e sz m:Nat}{kl k:IntKind}{p q:Int}{y x:Operand}[ht:TSlice E.P t e sz](hy:S.ev y=some (.d (.int kl q)))(hoy:okOp y=true)(hq:q=0)(hx:S.ev x=some (.d (.int k p)))(hox:okOp x=true)(hp:p=(m:Nat))(hm:m<=100000000000)(hn:S.fresh n=true):
 Grow E S ⟨some d,.makeSlice t y x,ty,pos,af,gd⟩ {S with H:=(n,.row e sz true [] 0)::S.H} (.own n 0):=Grow.mk fun β a w h=>by
 subst hp hq
 obtain⟨bytes,⟨i,z',hu,hi,hz',hs,hby,hzs,hpos⟩,hbl⟩:=jk3 ht
 have h0:a.eval y=.int kl 0:=h.ev hy hoy
 have h1:a.eval x=.int k (m:Nat):=h.ev hx hox
 obtain⟨w',h2,h3,h4⟩:=run_make_own (P:=E.P) w 0 t e i z' sz hu hi hz' hs kl k m (by rw[hby];have:=Nat.mul_le_mul hbl hm;omega) (by unfold maxLen;omega) (Nat.zero_le _)
 have g:Grows w w':=(Below.refl _ _).grown h4 (Nat.le_refl _) (fun k hk=>by cases hk)
 refine⟨_,w',_,?_,g,h.newRow (sh:=true) (xs:=[]) hn g (fun b hb'=>?_) h3 rfl,jv5⟩
 ·simp only[execOp,h0,h1,Sem.run_bind,h2,Result.andThen_ok,Sem.run_pure]
 ·simp only[Value.ownBlock,Option.some.injEq]at hb'
  omega
theorem jc3 {t e sz m:Nat}{kl k:IntKind}{p q:Int}{y x:Operand}[ht:TSlice E.P t e sz](n:Nat)(h:TR E draw ops Q rest ⟨(d,.own n 0)::env,(n,.row e sz true [] 0)::H,gl⟩)(hy:Sd.ev ⟨env,H,gl⟩ y=some (.d (.int kl q)):=by exact rfl)(hoy:okOp y=true:=by exact rfl)(hq:q=0:=by exact rfl)(hx:Sd.ev ⟨env,H,gl⟩ x=some (.d (.int k p)):=by exact rfl)(hox:okOp x=true:=by exact rfl)
 (hp:p=(m:Nat):=by first|with_reducible exact n9|exact rfl|exact(Int.toNat_of_nonneg (by omega)).symm) (hm:m<=100000000000:=by omega) (hn:Sd.fresh ⟨env,H,gl⟩ n=true:=by exact rfl) (hd:d<E.C.nt:=by exact ltd rfl)
 (hg:Sd.gd ⟨env,H,gl⟩ ops ⟨some d,.makeSlice t y x,ty,pos,af,gd⟩=some true:=by exact rfl) (hw:way.loud=true:=by exact rfl):TR E draw ops Q (.step ⟨some d,.makeSlice t y x,ty,pos,af,gd⟩ way rest) ⟨env,H,gl⟩:=jx5 (qr4 hy hoy hq hx hox hp hm hn) rfl hd hg rfl hw h
end
end
section
section
variable {E:Set}{S:Sd}{dst:Option Tmp}{ty:TypeId}{pos:String}{af:Array Edge}{gd:Option (Nat × Bool)}
theorem jq5 {t m e sz sz' i:Nat}{x y:Operand}{k:IntKind}{p:Int}{cs ds:List D}[ht:TArray E.P t m e sz][hc:TAgg E.P e sz'](hx:S.ev x=some (.d (.agg cs)))(hox:okOp x=true)(hy:S.ev y=some (.d (.int k p)))(hoy:okOp y=true)(hi:p=(i:Nat))(hm:i<m)(hv:Cut cs (i * sz) sz' ds):
 Swift E S ⟨dst,.index t x y,ty,pos,af,gd⟩ (.d (.agg ds)):=Swift.mk fun β a w h=>by
 subst hi
 obtain⟨vs,h1,h2⟩:=h.ev hx hox
 have hy':a.eval y=.int k (i:Nat):=h.ev hy hoy
 obtain⟨h3,h4⟩:=hv.eq
 obtain⟨ie,hu,hie,hs,_⟩:=md2 ht
 obtain⟨d,i',hu',n1,hi',hs'⟩:=jn7 hc
 have hee:sz=sz':=by rw[hie]at hi';cases hi';rw[<-hs,hs']
 subst hee
 have h5:RepA w (Mut E.C.M0 β S.H) ds ((vs.drop (i * sz)).take sz):=by rw[h3];exact(h2.drop _).take sz
 refine⟨.agg ((vs.drop (i * sz)).take sz).toArray,fun w' _=>?_,_,rfl,h5⟩
 have he:(vs.toArray.extract (i * sz) (i * sz+sz))=((vs.drop (i * sz)).take sz).toArray:=by simp[List.extract_eq_take_drop]
 have hlt:(i:Int)<(m:Int):=by omega
 simp[execOp,h1,hy',Instr.index,asIntOf,run_underlying hu,hlt,hm,jd1 hie,hs,part,kh0 hu' n1,jd1 hi',hs',he]
end
theorem z7 {E:Set}{Q:Exit->Sd->Prop}{S:Sd}{x y:Code}{ι:Type}(F:ι->Sd)(P:ι->Prop)(h1:TC E x (Exit.thenD (fun S1=>∃ i,P i/\Wk E.C S1 (F i)) Q) S)(h2:∀ i,P i->TC E y Q (F i)):TC E (.seq x y) Q S:=
 tc_seq fun K hK=>md1 h1 fun e S1 h=>match e,h with
  |.normal,⟨i,hp,hw⟩=>hK _ (ka0 hw (h2 i hp))
  |.ret,h=>h
  |.exit _,h=>h
  |.panic _,h=>h
  |.goto _,h=>h
  |.outgrown,h=>h
section
variable {E:Set}{Q:Exit->Sd->Prop}{env:List (Nat × V)}{H:List (Nat × Ob)}{gl:List (Nat × List D)}
theorem v6 {c:Code}(t i:Nat){sz:Nat}{xs ds:List D}(hl:look t env=some (.d (.agg ds)))(hi:ds[i]? =some (.list sz xs))(h:xs.length<=9223372036854775807->TC E c Q ⟨env,H,gl⟩):TC E c Q ⟨env,H,gl⟩:=fun a w ⟨β,hB⟩=>by
 obtain⟨x,_,vs,h2,h3⟩:=hB.env t _ hl
 obtain⟨_,_,_,h4⟩:=h3.get hi
 obtain⟨_,_,_,_,q1,q2,_⟩:=h4
 exact h (Nat.le_trans q1 q2) a w ⟨β,hB⟩
end
end
end Go.Proofs.YtdopmfifmgkmoaaGreatDoor
