/- Parts. -/
import Derived.Test.YtklklgfpkpglgaaGreatDoorQ12
set_option linter.all false
set_option maxRecDepth 100000
set_option maxHeartbeats 0
namespace Go.Proofs.YtklklgfpkpglgaaGreatDoor
open Go.RowKit Go.Proofs.Tryz
section
theorem jr3 {α:Type}{q:Nat}{l r:List (Nat × α)}(h:Drop [q] l r):(∀ m,m≠q->look m r=look m l)/\look q r=none:=by
 induction h with
 |nil=>exact⟨λ_ _=>rfl,rfl⟩
 |@take t v l r h1 _ ih=>
  have hne:t≠q:=λe=>by subst e;simp[Rl]at h1
  refine⟨λm hm=>?_,?_⟩
  ·rw[j6,j6];split
   ·rfl
   ·exact ih.1 m hm
  ·rw[j6,Af hne];exact ih.2
 |@drop t v l r h1 _ ih=>
  refine⟨λm hm=>?_,ih.2⟩;rw[j6,Af]
  ·exact ih.1 m hm
  ·rintro rfl;simp[Rl,Ne.symm hm]at h1
section
variable {E:Set}{Q:Exit->Sd->Prop}{ops:Array Oper}{draw:Bool}{rest:Todo}{way:Ji}{ty:TypeId}{pos:String}{af:Array Edge}{gd:Option (Nat × Bool)}{dst:Option Tmp}
variable {env:List (Nat × V)}{H:List (Nat × Ob)}{gl:List (Nat × List D)}{d:Nat}{C:Ctx}
theorem jt8 {n q e sz i:Nat}{xs:List D}{cs:List V}(hl:look n H=some (.hbox e sz xs i cs))(hq:Sd.aD ⟨env,H,gl⟩ q=true):Wk C ⟨env,H,gl⟩ ⟨env,(n,.box (cs.set i (.own q 0)))::(q,.row e sz false xs 0)::H,gl⟩:=
 λ_ _ ⟨_,hB⟩=>hB.hboxOut hl hq
theorem ka2 {n q e sz i k:Nat}{xs:List D}{cs:List V}{H0:List (Nat × Ob)}(hl:look n H=some (.box cs))(hi:cs[i]? =some (.own q k))(hr:look q H=some (.row e sz false xs k))(hs:Jj q (cs.set i (.nils 0))=false)(hd:Drop [q] H H0)(hN:C.N.contains q=false):
 Wk C ⟨env,H,gl⟩ ⟨env,(n,.hbox e sz xs i (cs.set i (.nils 0)))::H0,gl⟩:=
 λ_ _ ⟨_,hB⟩=>hB.hboxIn hl hi hr hs (jr3 hd).1 (jr3 hd).2 hN
theorem mm1 {n:Nat}(e sz:Nat)(hl:look n H=some (.map [] [])):Wk C ⟨env,H,gl⟩ ⟨env,(n,.smap e sz (λ_=>[]) none)::H,gl⟩:=λ_ _ ⟨_,hB⟩=>hB.smapNew e sz hl
theorem mm2 {n q e sz:Nat}{f:ByteArray->List D}(s:ByteArray)(hl:look n H=some (.smap e sz f none))(hq:Sd.aD ⟨env,H,gl⟩ q=true):Wk C ⟨env,H,gl⟩ ⟨env,(n,.smap e sz f (some (s,.own q 0)))::(q,.row e sz false (f s) 0)::H,gl⟩:=
 λ_ _ ⟨_,hB⟩=>hB.smapOut s hl hq
theorem kq6 {n q e sz k:Nat}{f:ByteArray->List D}{s:ByteArray}{xs:List D}{H0:List (Nat × Ob)}(hl:look n H=some (.smap e sz f (some (s,.own q k))))(hr:look q H=some (.row e sz false xs k))(hd:Drop [q] H H0)(hN:C.N.contains q=false):
 Wk C ⟨env,H,gl⟩ ⟨env,(n,.smap e sz (Qp f s xs) none)::H0,gl⟩:=λ_ _ ⟨_,hB⟩=>hB.smapIn hl hr (jr3 hd).1 (jr3 hd).2 hN
theorem jl3 {c:Code}{S S':Sd}(hw:Wk E.C S S')(h:TC E c Q S'):TC E c Q S:=λa w hS=>h a w (hw a w hS)
theorem md6 {S:Sd}{t k e n e' sz:Nat}{x y:Operand}{f:ByteArray->List D}{s:ByteArray}{v:V}[ht:TMap E.P t k e][hkk:TKey E.P k .str][hz:Jo E.P e (.nils sz)](hx:S.ev x=some (.map n))(hox:Cm x=true)(hl:look n S.H=some (.smap e' sz f (some (s,v))))(hy:S.ev y=some (.d (.str s)))(hoy:Cm y=true):
 Quiet E S ⟨dst,.lookup t x y false,ty,pos,af,gd⟩ v:=Quiet.mk λβ a w h=>by
 obtain⟨r,h1,h2⟩:=h.ev hx hox;obtain⟨r',es,c,h3,h4,h5,h6⟩:=h.obs n _ hl;rw[h1]at h3;cases h3;obtain⟨u,hu1,hu2⟩:=h6 s v rfl;have hkey:a.eval y=Jg (.str s):=h.ev hy hoy;have hc:Comp .str (.str s) (.str s):=.str _ _;refine⟨u,λw' g=>?_,hu1⟩;obtain⟨q,q1,q2⟩:=jg1 (P:=E.P) (t:=k) (x:=.str s) w' es.toList (λen he=>by
  obtain⟨s',hs'⟩:=h5.key en he;exact⟨.str s',.str _ _,hs'⟩)
 rcases q2 with ⟨rfl,q3⟩|⟨j,en,rfl,q3,q4,_⟩
 ·obtain⟨ie,z,hi,hzi,hzr⟩:=kp1 hz;have hz0:z=.slice none 0 0:=hzr (w:=w) (M:=Mut E.C.M0 β S.H) (β:=β) (H:=S.H);have hu0:u=.slice none 0 0:=by
   rcases hu2 with ⟨en,h7,h8,_⟩|⟨_,h7⟩
   ·exact absurd h8 (q3 en h7)
   ·exact h7
  subst hz0 hu0;simp only[execOp,h2,hkey,Instr.lookup,Sem.run_bind,run_underlying (jc9 ht),Result.andThen_ok,je5 (jb1 g h4),Sem.run_pure,hc.check,q1,jl6 hi hzi];rfl
 ·have hu0:en.val=u:=hu2.one h5.one (Ea q3) q4;subst hu0;simp only[execOp,h2,hkey,Instr.lookup,Sem.run_bind,run_underlying (jc9 ht),Result.andThen_ok,je5 (jb1 g h4),Sem.run_pure,hc.check,q1];rfl
theorem SMap.hit {w:World}{M:Nat->Nat->Prop}{e sz c r j:Nat}{f:ByteArray->List D}{s:ByteArray}{es:List MapEntry}{bs:List Nat}(h:SMap w M e sz f (some s) es c r bs){en:MapEntry}(he:es[j]? =some en)(hk:en.key=.string s)(u:Value):
 SMap w M e sz f (some s) (es.modify j λx=>{x with key:=en.key,val:=u}) c r bs/\Lies (es.modify j λx=>{x with key:=en.key,val:=u}) s u:=by
 have hj:=(Ay.1 he).1;have hej:=(Ay.1 he).2;have old:∀ x∈es.modify j λx=>{x with key:=en.key,val:=u},(x∈es/\x.key≠.string s)\/(x.key=.string s/\x.val=u/\x.born=en.born):=λx hx=>by
  obtain⟨i,hi,rfl⟩:=Ev.1 hx;rw[List.getElem_modify];split
  ·rename_i hij;subst hij;refine .inr ⟨hk,rfl,?_⟩;dsimp only;rw[hej]
  ·rename_i hij;have hi':i<es.length:=by simpa using hi
   refine .inl ⟨Ao hi',λh2=>hij ?_⟩;rcases Fp i j with hlt|hlt|hlt
   ·exact absurd (h2.trans (by rw[hej];exact hk.symm)) (Fj.1 h.one i j hi' hj hlt)
   ·exact hlt.symm
   ·exact absurd ((by rw[hej];exact hk:es[j].key=.string s).trans h2.symm) (Fj.1 h.one j i hj hi' hlt)
 have new:∀ x∈es,x.key≠.string s->x∈es.modify j λx=>{x with key:=en.key,val:=u}:=λx hx hne=>by
  obtain⟨i,hi,rfl⟩:=Ev.1 hx;have hij:j≠i:=by rintro rfl;rw[hej]at hne;exact hne hk
  exact Ea (i:=i) (by rw[List.getElem?_modify,Ar hi];simp[hij])
 have here:(⟨en.key,u,en.born⟩:MapEntry)∈es.modify j λx=>{x with key:=en.key,val:=u}:=Ea (i:=j) (by rw[List.getElem?_modify,he];simp);refine⟨⟨λx hx=>?_,?_,λx hx=>?_,λx hx s' hks hne=>?_,λs' hne hno=>?_,λb=>?_,λx hx y hy s1 s2 b k1 k2 n1 n2=>?_,h.map⟩,.inl ⟨_,here,hk,rfl⟩⟩
 ·rcases old x hx with ⟨h1,_⟩|⟨h1,_⟩
  ·exact h.key x h1
  ·exact⟨s,h1⟩
 ·have:=(map_set he (u:=u)).1;rw[<-List.pairwise_map (f:=λx:MapEntry=>x.key) (R:=λa b=>a≠b),this,List.pairwise_map];exact h.one
 ·rcases old x hx with ⟨h1,_⟩|⟨_,_,h1⟩
  ·exact h.born x h1
  ·rw[h1];exact h.born en (Ea he)
 ·rcases old x hx with ⟨h1,_⟩|⟨h1,_⟩
  ·exact h.here x h1 s' hks hne
  ·rw[h1]at hks;cases hks;exact absurd rfl hne
 ·refine h.none s' hne λx hx hks=>?_;refine hno x (new x hx λh1=>?_) hks;rw[h1]at hks;cases hks;exact absurd rfl hne
 ·rw[h.blk b];constructor
  ·rintro⟨x,h1,s',h2,h3,h4⟩;exact⟨x,new x h1 (λh5=>by rw[h5]at h2;cases h2;exact absurd rfl h3),s',h2,h3,h4⟩
  ·rintro⟨x,h1,s',h2,h3,h4⟩;rcases old x h1 with ⟨h5,_⟩|⟨h5,_⟩
   ·exact⟨x,h5,s',h2,h3,h4⟩
   ·rw[h5]at h2;cases h2;exact absurd rfl h3
 ·have hx':x∈es:=by
   rcases old x hx with ⟨h5,_⟩|⟨h5,_⟩
   ·exact h5
   ·rw[h5]at k1;cases k1;exact absurd rfl n1
  have hy':y∈es:=by
   rcases old y hy with ⟨h5,_⟩|⟨h5,_⟩
   ·exact h5
   ·rw[h5]at k2;cases k2;exact absurd rfl n2
  exact h.apart x hx' y hy' s1 s2 b k1 k2 n1 n2
theorem SMap.more {w:World}{M:Nat->Nat->Prop}{e sz c r:Nat}{f:ByteArray->List D}{s:ByteArray}{es:List MapEntry}{bs:List Nat}(h:SMap w M e sz f (some s) es c r bs)(hno:∀ en∈es,en.key≠.string s)(u:Value):
 SMap w M e sz f (some s) (es++[⟨.string s,u,c⟩]) (c+1) r bs/\Lies (es++[⟨.string s,u,c⟩]) s u:=by
 have old:∀ x∈es++[(⟨.string s,u,c⟩:MapEntry)],x∈es\/x=⟨.string s,u,c⟩:=λx hx=>by simpa using hx
 refine⟨⟨λx hx=>?_,?_,λx hx=>?_,λx hx s' hks hne=>?_,λs' hne hn=>?_,λb=>?_,λx hx y hy s1 s2 b k1 k2 n1 n2=>?_,h.map⟩,.inl ⟨⟨.string s,u,c⟩,by simp,rfl,rfl⟩⟩
 ·rcases old x hx with h1|rfl
  ·exact h.key x h1
  ·exact⟨s,rfl⟩
 ·rw[List.pairwise_append];exact⟨h.one,List.pairwise_singleton ..,λx hx y hy=>by rw[Bs]at hy;subst hy;exact hno x hx⟩
 ·rcases old x hx with h1|rfl
  ·have:=h.born x h1;omega
  ·exact Nat.lt_succ_self c
 ·rcases old x hx with h1|rfl
  ·exact h.here x h1 s' hks hne
  ·cases hks;exact absurd rfl hne
 ·exact h.none s' hne λx hx=>hn x (List.mem_append_left _ hx)
 ·rw[h.blk b];constructor
  ·rintro⟨x,h1,r⟩;exact⟨x,List.mem_append_left _ h1,r⟩
  ·rintro⟨x,h1,s',h2,h3,h4⟩;rcases old x h1 with h5|rfl
   ·exact⟨x,h5,s',h2,h3,h4⟩
   ·cases h2;exact absurd rfl h3
 ·have hx':x∈es:=by
   rcases old x hx with h5|rfl
   ·exact h5
   ·cases k1;exact absurd rfl n1
  have hy':y∈es:=by
   rcases old y hy with h5|rfl
   ·exact h5
   ·cases k2;exact absurd rfl n2
  exact h.apart x hx' y hy' s1 s2 b k1 k2 n1 n2
theorem qh0 {S:Sd}{t k e n e' sz:Nat}{x y z:Operand}{f:ByteArray->List D}{s:ByteArray}{v v':V}[ht:TMap E.P t k e][hkk:TKey E.P k .str](hx:S.ev x=some (.map n))(hox:Cm x=true)(hl:look n S.H=some (.smap e' sz f (some (s,v))))(hy:S.ev y=some (.d (.str s)))(hoy:Cm y=true)(hz:S.ev z=some v')(hoz:Cm z=true)
 :Turn E S ⟨none,.mapUpdate t x y z,ty,pos,af,gd⟩ {S with H:=(n,.smap e' sz f (some (s,v')))::S.H}:=Turn.mk λβ a w h=>by
 obtain⟨r,h1,h2⟩:=h.ev hx hox;obtain⟨r',es,c,h3,h4,h5,h6⟩:=h.obs n _ hl;rw[h1]at h3;cases h3;have hkey:a.eval y=Jg (.str s):=h.ev hy hoy;have hval:=h.ev hz hoz;have hc:Comp .str (.str s) (.str s):=.str _ _;have hbn:hb (β n).v=some r:=by rw[h1];rfl
 have hH:∀ m e1 sz1 sh xs k,look m ((n,Ob.smap e' sz f (some (s,v')))::S.H)=some (.row e1 sz1 sh xs k)->∃ sh' xs',look m S.H=some (.row e1 sz1 sh' xs' k):=λm e1 sz1 sh xs k hm=>by
  rw[n3]at hm;split at hm
  ·cases hm
  ·exact⟨sh,xs,hm⟩
 obtain⟨q,q1,q2⟩:=jg1 (P:=E.P) (t:=k) (x:=.str s) w es.toList (λen he=>by
  obtain⟨s',hs'⟩:=h5.key en he;exact⟨.str s',.str _ _,hs'⟩)
 have main:∀ (es':Array MapEntry) (c':Nat),SMap w (Mut E.C.M0 β S.H) e' sz f (some s) es'.toList c' r (β n).bs->Lies es'.toList s (a.eval z)->
  StB E.C β {S with H:=(n,.smap e' sz f (some (s,v')))::S.H} a (w.putObj r (.map es' c')):=λes' c' hm hly=>by
  refine h.Ym hl (λ_ _=>rfl) rfl rfl rfl (by simp[World.putObj]) (λk _ hk=>World.putObj_heap_other (λe=>hk (.inl (by rw[hbn,e])))) (λb h=>.inl h) (λb' o' y h4 h5 _=>absurd trivial h5) (λ_ _ _ _ _=>trivial)
   (λk t x v _=>Dc.keep k (λ_=>rfl) hH x v) (λ_=>rfl) (λk m cs vs _ _=>Cs.keep k (λ_=>rfl) hH _ vs) (λkp=>?_)
  refine⟨r,es',c',h1,World.putObj_heap_same (Bw.1 h4).1,hm.keep kp (λb hb'=>World.putObj_heap_other (λe=>?_)),λs' y hx=>?_⟩
  ·subst e;exact h5.map hb'
  ·cases hx;exact⟨_,Dc.keep kp (λ_=>rfl) hH _ _ hval,hly⟩
 rcases q2 with ⟨rfl,q3⟩|⟨j,en,rfl,q3,q4,_⟩
 ·obtain⟨m1,m2⟩:=h5.more q3 (a.eval z);refine⟨w.putObj r (.map (es.push {key:=Jg (.str s),val:=a.eval z,born:=c}) (c+1)),?_,β,main _ _ (by rw[Array.toList_push];exact m1) (by rw[Array.toList_push];exact m2)⟩;simp only[execOp,h2,hkey,Instr.mapUpdate,Sem.run_bind,run_underlying (jc9 ht),Result.andThen_ok,je5 h4,hc.check,q1,jt0 _ h4,Sem.run_pure]
 ·rw[Es]at q1;have hge:es[j]? =some en:=by simpa using q3
  obtain⟨m1,m2⟩:=h5.hit q3 q4 (a.eval z);have q4':en.key=Jg (.str s):=q4;rw[q4']at m1 m2;refine⟨w.putObj r (.map (es.modify j λx=>{x with key:=Jg (.str s),val:=a.eval z}) c),?_,β,main _ _ (by rw[Array.toList_modify];exact m1) (by rw[Array.toList_modify];exact m2)⟩;simp only[execOp,h2,hkey,Instr.mapUpdate,Sem.run_bind,run_underlying (jc9 ht),Result.andThen_ok,je5 h4,hc.check,q1,hge,Er,Option.getD_some,q4',hc.stays,jt0 _ h4,Sem.run_pure]
theorem StB.trunc {C:Ctx}{β:Nat->Hd}{S:Sd}{a:Act}{w:World}(h:StB C β S a w){n e sz k m:Nat}{xs:List D}(hl:look n S.H=some (.row e sz false xs k))(hm:m<=xs.length)(k':Nat)(hk:max (ro5 S.env) (ro6 S.H)<=k')(hN:C.N.contains n=false):
 ∃ ad c,(β n).v=.slice ad xs.length c/\xs.length<=c/\StB C (upd β n (.slice ad m c)) {S with H:=(n,.row e sz false (xs.take m) k')::S.H} a w:=by
 obtain⟨ys,h1,h2⟩:=h.obs n _ hl;obtain⟨ad,c,h3,h4,_⟩:=h.Uh hl;refine⟨ad,c,h3,h4,?_⟩;have hH:∀ m',m'≠n->look m' ((n,Ob.row e sz false (xs.take m) k')::S.H)=look m' S.H:=λm' hm'=>by rw[n3,Af (Ne.symm hm')]
 have hq:∀ e' sz' sh' xs' k'',look n ((n,Ob.row e sz false (xs.take m) k')::S.H)=some (.row e' sz' sh' xs' k'')->max (ro5 S.env) (ro6 S.H)<=k'':=λe' sz' sh' xs' k'' h1=>by
  rw[n3,Ad rfl]at h1;cases h1;exact hk
 have hb0:∀ b,hb (.slice ad m c)=some b->hb (β n).v=some b:=λb hb'=>by
  rw[h3];cases ad<;>exact hb'
 refine h.turn hl (λm' hm'=>n0 β n _ hm') rfl rfl rfl (Ap _) (λ_ _ _=>rfl) (λb hb'=>?_) (λ_ _ _ _ _ h=>h) (λ_ _ _ _ _=>.inl rfl)
  (λkp t x v hx hv=>Dc.bump kp (λm' hm'=>n0 β n _ hm') ⟨_,_,_,h3⟩ hH hq x v (by have:=kj5 hx;omega) hv)
  (λhm'=>absurd hm' (by simpa using hN))
  (λkp m' cs vs _ hm' hv=>Cs.bump kp (λm' hm'=>n0 β n _ hm') ⟨_,_,_,h3⟩ hH hq _ vs (by have:=kj6 hm';omega) hv) (λkp=>?_)
 ·rw[jw6]at hb';exact .inl (hb0 b hb')
 ·rw[jg3];refine⟨ys.take (m * sz),?_,Gb.keep kp _ _ _ (h2.take m hm)⟩;rw[Aq,Nat.min_eq_left hm];have hle:m * sz<=xs.length * sz:=Nat.mul_le_mul_right _ hm;refine⟨by rw[Aq,h1.1,Nat.min_eq_left hle],?_⟩;rcases h1.2 with ⟨q1,q2⟩|⟨g,cap,cur,q,q0,q1,q2,q3,q4,q5⟩
  ·rw[h3]at q1;simp only[Value.slice.injEq]at q1;obtain⟨rfl,_,rfl⟩:=q1;obtain rfl:m=0:=by omega
   exact .inl ⟨rfl,rfl⟩
  ·rw[h3]at q;simp only[Value.slice.injEq]at q;obtain⟨rfl,_,rfl⟩:=q;refine .inr ⟨g,c,cur,rfl,q0,q1,by omega,q3,q4,?_⟩;rw[<-q5,List.take_take,Nat.min_eq_left hle]
theorem kc8 {P:Program}{t e sz:Nat}(ht:aK P t e sz)(a:Option Addr)(n c m:Nat)(k:IntKind)(hm:m<=c)(w:World):(Instr.slice t (.slice a n c) none (some (.int k (m:Nat))) none).run P w=.ok (sliced a 0 m c sz) w:=by
 obtain⟨ie,hu,hie,hs,hpos⟩:=g8 ht;have hb:(Instr.sliceBounds true n c none (some (.int k (m:Nat))) none).run P w=.ok (0,m,c) w:=by
  have:(m:Int)<=(c:Int):=by omega
  simp[Instr.sliceBounds,Instr.sliceBound,asIntOf,this,show ¬c<m by omega]
 simp[run_underlying hu,Instr.slice,hb,jc1 hie,hs,sliced]
end
end
section
structure Vx (E:Set)(S:Sd)(o:Oper)(S':Nat->Sd)(v:Nat->V):Prop where
 out:∀ β a w,StB E.C β S a w->∃ x β' k,(∀ w',(execOp a.eval o).run E.P w'=.ok (.value x) w')/\StB E.C β' (S' k) a w/\Dc w (Mut E.C.M0 β' (S' k).H) β' (S' k).H (v k) x
theorem qh1 {E:Set}{Q:Exit->Sd->Prop}{S:Sd}{ops:Array Oper}{draw:Bool}{rest:Todo}{way:Ji}{o:Oper}{d:Nat}{S':Nat->Sd}{v:Nat->V}(hq:Vx E S o S' v)(hdst:o.dst=some d)(hd:d<E.C.nt)(hg:S.gd ops o=some true)(hdf:p9 o=false)(h:∀ k,TR E draw ops Q rest ((S' k).put d (v k))):TR E draw ops Q (.step o way rest) S:=λa w hS=>by
 have hS0:=hS;obtain⟨β,hB⟩:=hS;obtain⟨x,β',k,h1,hB',h2⟩:=hq.out β a w hB;have hput:∀ w',aG w w'->St E.C ((S' k).put d (v k)) (a.put o.dst x) w':=λw' g=>by
  rw[hdst];exact St.later ⟨β',hB'.put hd h2⟩ g
 cases draw with
 |true=>
  dsimp only;cases way with
  |pure=>
   simp only[x5];rw[Sd.Dv hS0 hg,Ad rfl];exact⟨x,λw'=>h1 w',h k _ _ (hput w (aG.refl w))⟩
  |quiet=>
   simp only[x5];rw[Sd.Dv hS0 hg,Ad rfl];refine⟨x,λn=>?_,h k _ _ (hput w (aG.refl w))⟩;rw[h1 n.w];exact⟨rfl,rfl⟩
  |grow=>
   simp only[x5];intro n;rw[Sd.Dv hS0 hg,Ad rfl];exact p8 (h1 n.w) ⟨aG.refl _,h k _ _ (hput n.w n.grows)⟩
  |bar=>
   simp only[x5];intro n;rw[Sd.Dv hS0 hg,Ad rfl];exact p8 (h1 n.w) (h k _ _ (hput n.w n.grows))
 |false=>exact l5 hS0 hg hdf λK hK=>p8 (h1 w) (hK _ _ (h k _ _ (hput w (aG.refl w))))
theorem qh2 (f:ByteArray->List D)(s:ByteArray):Qp f s (f s)=f:=by
 funext t;unfold Qp;split
 ·rename_i e;rw[e]
 ·rfl
section
variable {E:Set}{Q:Exit->Sd->Prop}{ops:Array Oper}{draw:Bool}{rest:Todo}{way:Ji}{ty:TypeId}{pos:String}{af:Array Edge}{gd:Option (Nat × Bool)}{dst:Option Tmp}
variable {env:List (Nat × V)}{H:List (Nat × Ob)}{gl:List (Nat × List D)}{d:Nat}
theorem mm3 (q:Nat){t k e n e' sz:Nat}{x y:Operand}{f:ByteArray->List D}{s:ByteArray}[ht:TMap E.P t k e][hkk:TKey E.P k .str][hz:Jo E.P e (.nils sz)]
 (h:TR E draw ops Q rest ⟨(d,.own q 0)::env,(n,.smap e' sz f (some (s,.own q 0)))::(q,.row e' sz false (f s) 0)::H,gl⟩) (hx:Sd.ev ⟨env,H,gl⟩ x=some (.map n):=by exact rfl) (hox:Cm x=true:=by exact rfl) (hl:look n H=some (.smap e' sz f none):=by exact rfl)
 (hy:Sd.ev ⟨env,H,gl⟩ y=some (.d (.str s)):=by exact rfl) (hoy:Cm y=true:=by exact rfl) (hq:Sd.aD ⟨env,H,gl⟩ q=true:=by exact rfl) (hd:d<E.C.nt:=by exact ltd rfl)
 (hg:Sd.gd ⟨env,(n,.smap e' sz f (some (s,.own q 0)))::(q,.row e' sz false (f s) 0)::H,gl⟩ ops ⟨some d,.lookup t x y false,ty,pos,af,gd⟩=some true:=by exact rfl) (hw:way.known=false:=by exact rfl):TR E draw ops Q (.step ⟨some d,.lookup t x y false,ty,pos,af,gd⟩ way rest) ⟨env,H,gl⟩:=by
 refine qg2 (mm2 s hl hq) ?_;refine jk6 (md6 (n:=n) (f:=f) (s:=s) (v:=.own q 0) (e':=e') (sz:=sz) ?_ hox ?_ ?_ hoy) rfl hd hg rfl hw h
 ·cases x<;>exact hx
 ·exact(n3 n).trans (Ad rfl)
 ·cases y<;>exact hy
theorem rb1 {t k e n e' sz:Nat}{x y:Operand}{f:ByteArray->List D}{s:ByteArray}{v:V}[ht:TMap E.P t k e][hkk:TKey E.P k .str][hz:Jo E.P e (.nils sz)]
 (h:TR E draw ops Q rest ⟨(d,v)::env,H,gl⟩) (hx:Sd.ev ⟨env,H,gl⟩ x=some (.map n):=by exact rfl) (hox:Cm x=true:=by exact rfl) (hl:look n H=some (.smap e' sz f (some (s,v))):=by exact rfl)
 (hy:Sd.ev ⟨env,H,gl⟩ y=some (.d (.str s)):=by exact rfl) (hoy:Cm y=true:=by exact rfl) (hd:d<E.C.nt:=by exact ltd rfl)
 (hg:Sd.gd ⟨env,H,gl⟩ ops ⟨some d,.lookup t x y false,ty,pos,af,gd⟩=some true:=by exact rfl) (hw:way.known=false:=by exact rfl):TR E draw ops Q (.step ⟨some d,.lookup t x y false,ty,pos,af,gd⟩ way rest) ⟨env,H,gl⟩:=
 jk6 (md6 hx hox hl hy hoy) rfl hd hg rfl hw h
theorem rn7 {t k e n e' sz q kq:Nat}{x y z:Operand}{f:ByteArray->List D}{s:ByteArray}{v:V}{xs:List D}{H0:List (Nat × Ob)}[ht:TMap E.P t k e][hkk:TKey E.P k .str]
 (h:TR E draw ops Q rest ⟨env,(n,.smap e' sz (Qp f s xs) none)::H0,gl⟩) (hx:Sd.ev ⟨env,H,gl⟩ x=some (.map n):=by exact rfl) (hox:Cm x=true:=by exact rfl) (hl:look n H=some (.smap e' sz f (some (s,v))):=by exact rfl)
 (hy:Sd.ev ⟨env,H,gl⟩ y=some (.d (.str s)):=by exact rfl) (hoy:Cm y=true:=by exact rfl) (hz:Sd.ev ⟨env,H,gl⟩ z=some (.own q kq):=by exact rfl) (hoz:Cm z=true:=by exact rfl)
 (hr:look q ((n,Ob.smap e' sz f (some (s,.own q kq)))::H)=some (.row e' sz false xs kq):=by exact rfl) (hd:Drop [q] ((n,Ob.smap e' sz f (some (s,.own q kq)))::H) H0:=by(repeat (first|exact Drop.nil|apply Drop.drop rfl|apply Drop.take rfl));fail_if_success intros) (hN:E.C.N.contains q=false:=by exact rfl)
 (hg:Sd.gd ⟨env,H,gl⟩ ops ⟨none,.mapUpdate t x y z,ty,pos,af,gd⟩=some true:=by exact rfl) (hw:Jv draw way=true:=by exact rfl):TR E draw ops Q (.step ⟨none,.mapUpdate t x y z,ty,pos,af,gd⟩ way rest) ⟨env,H,gl⟩:=
 kl9 (qh0 hx hox hl hy hoy hz hoz) rfl hg rfl hw (qg2 (kq6 ((n3 n).trans (Ad rfl)) hr hd hN) h)
theorem rs9 {C:Ctx}{n q e sz k:Nat}{f:ByteArray->List D}{s:ByteArray}{H0:List (Nat × Ob)}(hl:look n H=some (.smap e sz f (some (s,.own q k))):=by exact rfl)(hr:look q H=some (.row e sz false (f s) k):=by exact rfl)(hd:Drop [q] H H0:=by(repeat (first|exact Drop.nil|apply Drop.drop rfl|apply Drop.take rfl));fail_if_success intros)(hN:C.N.contains q=false:=by exact rfl):
 Wk C ⟨env,H,gl⟩ ⟨env,(n,.smap e sz f none)::H0,gl⟩:=by
 have:=kq6 (C:=C) (env:=env) (gl:=gl) hl hr hd hN
 rwa [qh2]at this
theorem rt0 {S:Sd}{t e sz n k m:Nat}{x hi:Operand}{xs:List D}{ki:IntKind}{mv:Int}[ht:aK E.P t e sz](hx:S.ev x=some (.own n k))(hox:Cm x=true)(hl:look n S.H=some (.row e sz false xs k))(hh:S.ev hi=some (.d (.int ki mv)))(hoh:Cm hi=true)(em:mv=(m:Nat))(hm:m<=xs.length)(hN:E.C.N.contains n=false):
 Vx E S ⟨some d,.slice t x none (some hi) none,ty,pos,af,gd⟩ (λk'=>{S with H:=(n,.row e sz false (xs.take m) k')::S.H}) (λk'=>.own n k'):=Vx.mk λβ a w h=>by
 subst em;obtain⟨ad,c,h1,h2,h3⟩:=h.trunc hl hm _ (Ap _) hN;have h4:a.eval x=(β n).v:=h.ev hx hox e sz false xs hl;have h5:a.eval hi=.int ki (m:Nat):=h.ev hh hoh;refine⟨.slice ad m c,_,_,λw=>?_,h3,js8⟩;have h6:=kc8 (P:=E.P) ht ad xs.length c m ki (by omega) w;have h7:sliced ad 0 m c sz=.slice ad m c:=by
  unfold sliced;cases ad with
  |none=>simp
  |some p=>simp[Addr.add]
 rw[h7]at h6;obtain⟨ie,hu,_⟩:=g8 ht;simp[execOp,Instr.sliceAt,h4,h1,h5,h6,run_underlying hu]
theorem rt1 {t e sz n k m:Nat}{x hi:Operand}{xs:List D}{ki:IntKind}{mv:Int}[ht:aK E.P t e sz](h:∀ k',TR E draw ops Q rest ⟨(d,.own n k')::env,(n,.row e sz false (xs.take m) k')::H,gl⟩)(hx:Sd.ev ⟨env,H,gl⟩ x=some (.own n k):=by exact rfl)(hox:Cm x=true:=by exact rfl)
 (hl:look n H=some (.row e sz false xs k):=by exact rfl) (hh:Sd.ev ⟨env,H,gl⟩ hi=some (.d (.int ki mv)):=by exact rfl) (hoh:Cm hi=true:=by exact rfl) (em:mv=(m:Nat):=by first|exact rfl|omega) (hm:m<=xs.length:=by omega) (hN:E.C.N.contains n=false:=by exact rfl) (hd:d<E.C.nt:=by exact ltd rfl)
 (hg:Sd.gd ⟨env,H,gl⟩ ops ⟨some d,.slice t x none (some hi) none,ty,pos,af,gd⟩=some true:=by exact rfl):TR E draw ops Q (.step ⟨some d,.slice t x none (some hi) none,ty,pos,af,gd⟩ way rest) ⟨env,H,gl⟩:=
 qh1 (rt0 hx hox hl hh hoh em hm hN (d:=d)) rfl hd hg rfl h
theorem kh5 (n:Nat){e sz k:Nat}{sh:Bool}{xs:List D}(hl:look n H=some (.row e sz sh xs k))(h:xs.length<=9223372036854775807->TR E draw ops Q rest ⟨env,H,gl⟩):TR E draw ops Q rest ⟨env,H,gl⟩:=λa w ⟨β,hB⟩=>by
 refine h ?_ a w ⟨β,hB⟩;obtain⟨ys,h1,_⟩:=hB.obs n _ hl;rcases h1.2 with ⟨_,q2⟩|⟨g,cap,cur,_,_,_,q3,q4,_⟩
 ·omega
 ·have:maxLen=9223372036854775807:=rfl;omega
theorem rb2 {c:Code}{S:Sd}{P:Program}{rs:List ResultVar}{H0:List (Nat × Ob)}{R:V->List (Nat × Ob)->Prop}(h:TC E c (EndsW E.C P rs H0 R) S):TC E c (Pm P rs H0 R) S:=
 λa w hS=>wpIn_mono (h a w hS) λ_ a w ⟨_,hS',⟨S2,h1,h2⟩⟩=>⟨S2,h1 a w hS',h2⟩
theorem vp3 {C:Ctx}{S S':Sd}{P:Program}{rs:List ResultVar}{H0:List (Nat × Ob)}{R:V->List (Nat × Ob)->Prop}{e:Exit}(hw:Wk C S S')(h:Pm P rs H0 R e S'):EndsW C P rs H0 R e S:=⟨S',hw,h⟩
theorem ji3 {P:Program}{H0 H1:List (Nat × Ob)}{R:V->List (Nat × Ob)->Prop}{S:Sd}(hr:R (.tup []) H1)(hsub:Sub S.H H1:=by(repeat (first|exact Sub.nil|apply Sub.cons rfl));fail_if_success intros)(hok:Na H0 H1 (.tup [])=true:=by rfl):Pm P [] H0 R .normal S:=Pm.mk (.inr rfl) ⟨[],_,Ol.nil,hsub,hok,hr⟩
theorem rt2 {S:Sd}{n t e sz m:Nat}{kl k:IntKind}{p q:Int}{y x:Operand}[ht:aK E.P t e sz](hy:S.ev y=some (.d (.int kl q)))(hoy:Cm y=true)(hq:q=0)(hx:S.ev x=some (.d (.int k p)))(hox:Cm x=true)(hp:p=(m:Nat))(hm:m<=100000000000)(hn:S.aD n=true):
 Grow E S ⟨some d,.makeSlice t y x,ty,pos,af,gd⟩ {S with H:=(n,.row e sz true [] 0)::S.H} (.own n 0):=Grow.mk λβ a w h=>by
 subst hp hq;obtain⟨bytes,⟨i,z',hu,hi,hz',hs,hby,hzs,hpos⟩,hbl⟩:=jg0 ht;have h0:a.eval y=.int kl 0:=h.ev hy hoy;have h1:a.eval x=.int k (m:Nat):=h.ev hx hox;obtain⟨w',h2,h3,h4⟩:=run_make_own (P:=E.P) w 0 t e i z' sz hu hi hz' hs kl k m (by rw[hby];have:=Nat.mul_le_mul hbl hm;omega) (by unfold maxLen;omega) (Ak _);have g:aG w w':=(Below.refl _ _).grown h4 (Ap _) (λk hk=>by cases hk);refine⟨_,w',_,?_,g,h.newRow (sh:=true) (xs:=[]) hn g (λb hb'=>?_) h3 rfl,js8⟩
 ·simp only[execOp,h0,h1,Sem.run_bind,h2,Result.andThen_ok,Sem.run_pure]
 ·simp only[Value.ownBlock,Bi]at hb';omega
theorem ka3 {t e sz m:Nat}{kl k:IntKind}{p q:Int}{y x:Operand}[ht:aK E.P t e sz](n:Nat)(h:TR E draw ops Q rest ⟨(d,.own n 0)::env,(n,.row e sz true [] 0)::H,gl⟩)(hy:Sd.ev ⟨env,H,gl⟩ y=some (.d (.int kl q)):=by exact rfl)(hoy:Cm y=true:=by exact rfl)(hq:q=0:=by exact rfl)(hx:Sd.ev ⟨env,H,gl⟩ x=some (.d (.int k p)):=by exact rfl)(hox:Cm x=true:=by exact rfl)
 (hp:p=(m:Nat):=by first|with_reducible exact n8|exact rfl|exact(Ep (by omega)).symm) (hm:m<=100000000000:=by omega) (hn:Sd.aD ⟨env,H,gl⟩ n=true:=by exact rfl) (hd:d<E.C.nt:=by exact ltd rfl)
 (hg:Sd.gd ⟨env,H,gl⟩ ops ⟨some d,.makeSlice t y x,ty,pos,af,gd⟩=some true:=by exact rfl) (hw:way.loud=true:=by exact rfl):TR E draw ops Q (.step ⟨some d,.makeSlice t y x,ty,pos,af,gd⟩ way rest) ⟨env,H,gl⟩:=jn3 (rt2 hy hoy hq hx hox hp hm hn) rfl hd hg rfl hw h
end
end
section
section
variable {E:Set}{S:Sd}{dst:Option Tmp}{ty:TypeId}{pos:String}{af:Array Edge}{gd:Option (Nat × Bool)}
theorem jt9 {t m e sz sz' i:Nat}{x y:Operand}{k:IntKind}{p:Int}{cs ds:List D}[ht:TArray E.P t m e sz][hc:TAgg E.P e sz'](hx:S.ev x=some (.d (.agg cs)))(hox:Cm x=true)(hy:S.ev y=some (.d (.int k p)))(hoy:Cm y=true)(hi:p=(i:Nat))(hm:i<m)(hv:Cut cs (i * sz) sz' ds):
 aH E S ⟨dst,.index t x y,ty,pos,af,gd⟩ (.d (.agg ds)):=aH.mk λβ a w h=>by
 subst hi;obtain⟨vs,h1,h2⟩:=h.ev hx hox;have hy':a.eval y=.int k (i:Nat):=h.ev hy hoy;obtain⟨h3,h4⟩:=hv.eq;obtain⟨ie,hu,hie,hs,_⟩:=mq0 ht;obtain⟨d,i',hu',n1,hi',hs'⟩:=jq2 hc;have hee:sz=sz':=by rw[hie]at hi';cases hi';rw[<-hs,hs']
 subst hee;have h5:Dz w (Mut E.C.M0 β S.H) ds ((vs.drop (i * sz)).take sz):=by rw[h3];exact(h2.drop _).take sz
 refine⟨.agg ((vs.drop (i * sz)).take sz).toArray,λw' _=>?_,_,rfl,h5⟩;have he:(vs.toArray.extract (i * sz) (i * sz+sz))=((vs.drop (i * sz)).take sz).toArray:=by simp[List.extract_eq_take_drop]
 have hlt:(i:Int)<(m:Int):=by omega
 simp[execOp,h1,hy',Instr.index,asIntOf,run_underlying hu,hlt,hm,jc1 hie,hs,part,kn9 hu' n1,jc1 hi',hs',he]
end
theorem z7 {E:Set}{Q:Exit->Sd->Prop}{S:Sd}{x y:Code}{ι:Type}(F:ι->Sd)(P:ι->Prop)(h1:TC E x (Exit.Oc (λS1=>∃ i,P i/\Wk E.C S1 (F i)) Q) S)(h2:∀ i,P i->TC E y Q (F i)):TC E (.seq x y) Q S:=
 Cb λK hK=>mo8 h1 λe S1 h=>match e,h with
  |.normal,⟨i,hp,hw⟩=>hK _ (jl3 hw (h2 i hp))
  |.ret,h=>h
  |.exit _,h=>h
  |.panic _,h=>h
  |.goto _,h=>h
  |.outgrown,h=>h
section
variable {E:Set}{Q:Exit->Sd->Prop}{env:List (Nat × V)}{H:List (Nat × Ob)}{gl:List (Nat × List D)}
theorem x4 {c:Code}(t i:Nat){sz:Nat}{xs ds:List D}(hl:look t env=some (.d (.agg ds)))(hi:ds[i]? =some (.list sz xs))(h:xs.length<=9223372036854775807->TC E c Q ⟨env,H,gl⟩):TC E c Q ⟨env,H,gl⟩:=λa w ⟨β,hB⟩=>by
 obtain⟨x,_,vs,h2,h3⟩:=hB.env t _ hl;obtain⟨_,_,_,h4⟩:=h3.get hi;obtain⟨_,_,_,_,q1,q2,_⟩:=h4;exact h (Fe q1 q2) a w ⟨β,hB⟩
end
end
section
instance decBytes:DecidableEq ByteArray:=λa b=>decidable_of_iff (a.data.toList=b.data.toList) ⟨λh=>by
 cases a with|mk a=>cases b with|mk b=>cases a with|mk a=>cases b with|mk b=>exact congrArg (λl=>ByteArray.mk (Array.mk l)) h,λh=>by rw[h]⟩
inductive Ex where
 |mk (kind:Int) (op:UInt8) (ty n:Int) (s:ByteArray) (l:List Ex)
mutual
def dEx:Ex->D
 |.mk kind op ty n s l=>.agg [.int .u8 kind,.int .u8 op.toNat,.int .u8 ty,.int .i32 n,.str s,.list 6 (ve7 l)]
def ve7:List Ex->List D
 |[]=>[]
 |e::l=>dEx e::ve7 l
end
theorem mr6:∀ l:List Ex,ve7 l=l.map dEx
 |[]=>by simp[ve7]
 |e::l=>by rw[ve7,mr6 l];rfl
def Ex.kind:Ex->Int|.mk k _ _ _ _ _=>k
def Ex.op:Ex->Int|.mk _ o _ _ _ _=>o.toNat
def Ex.ty:Ex->Int|.mk _ _ t _ _ _=>t
def Ex.n:Ex->Int|.mk _ _ _ n _ _=>n
def Ex.s:Ex->ByteArray|.mk _ _ _ _ s _=>s
def Ex.l:Ex->List Ex|.mk _ _ _ _ _ l=>l
def dE (e:Ex):D:=.agg [.int .u8 e.kind,.int .u8 e.op,.int .u8 e.ty,.int .i32 e.n,.str e.s,.list 6 (e.l.map dEx)]
theorem r8:dEx=dE:=by
 funext e;cases e;simp only[dEx,dE,Ex.kind,Ex.op,Ex.ty,Ex.n,Ex.s,Ex.l,mr6]
mutual
def exN:Ex->Nat
 |.mk _ _ _ _ _ l=>Gw l+1
def Gw:List Ex->Nat
 |[]=>0
 |e::l=>exN e+Gw l
end
theorem jo4:∀ e:Ex,1<=exN e
 |.mk _ _ _ _ _ l=>by simp[exN]
theorem jd0:∀ l:List Ex,l.length<=Gw l
 |[]=>by simp[Gw]
 |e::l=>by have:=jd0 l;have:=jo4 e;simp only[Aj,Gw];omega
theorem jb6:∀ (l:List Ex) (j:Nat) (hj:j<l.length),Gw (l.take j)+exN l[j]<=Gw l
 |[],_,h=>by simp at h
 |e::l,0,_=>by simp[Gw]
 |e::l,j+1,h=>by
  have:=jb6 l j (by simpa using h);simp only[Ez,Gw,Fb];omega
theorem jh8 {e:Ex}:∀ {l:List Ex},e∈l->exN e<=Gw l
 |x::l,h=>by
  rcases Bc.1 h with rfl|h
  ·simp only[Gw];omega
  ·have:=jh8 h;simp only[Gw];omega
theorem my7 (e:Ex):exN e=Gw e.l+1:=by cases e;rfl
def ex0:Ex:=.mk 0 0 0 0 ByteArray.empty []
structure Ty where
 kind:Int
 dim:Int
 item:Int
 aN:ByteArray
def dTy (t:Ty):D:=.agg [.int .u8 t.kind,.int .i64 t.dim,.int .u8 t.item,.str t.aN]
def ty0:Ty:=⟨0,0,0,ByteArray.empty⟩
structure Va where
 tag:ByteArray
 items:List Int
def dVa (v:Va):D:=.agg [.str v.tag,.list 1 (v.items.map (.int .u8))]
structure Pt where
 cases:Bool
 l:List Va
def dPt (p:Pt):D:=.agg [.bool p.cases,.list 2 (p.l.map dVa)]
def pt0:Pt:=⟨false,[]⟩
structure Fo where
 val:Bool
 type:Ty
 name:ByteArray
def dFo (f:Fo):D:=.agg [.bool f.val,.int .u8 f.type.kind,.int .i64 f.type.dim,.int .u8 f.type.item,.str f.type.aN,.str f.name]
structure Rp where
 name:ByteArray
 base:Ex
 count:Ex
def dRp (r:Rp):D:=.agg [.str r.name,.int .u8 r.base.kind,.int .u8 r.base.op,.int .u8 r.base.ty,.int .i32 r.base.n,.str r.base.s,.list 6 (r.base.l.map dEx),
 .int .u8 r.count.kind,.int .u8 r.count.op,.int .u8 r.count.ty,.int .i32 r.count.n,.str r.count.s,.list 6 (r.count.l.map dEx)]
def rp0:Rp:=⟨ByteArray.empty,ex0,ex0⟩
mutual
inductive Pr where
 |mk (kind:Int) (name:ByteArray) (av:Ex) (aj au:List Ex) (rep:Rp) (ak:List Gu) (l:List Pr) (ay:List Int) (spec:Sp)
inductive Gu where
 |mk (kind:Int) (name:ByteArray) (cond av:Ex) (aj values:List Ex) (time:Ex) (body:List Pr)
inductive Sp where
 |mk (kind:Int) (type:Ty) (names:List ByteArray) (e:Ex) (aN:Pt) (ax:List Fo) (body:List Pr)
end
namespace Pr
def kind:Pr->Int|mk k _ _ _ _ _ _ _ _ _=>k
def name:Pr->ByteArray|mk _ x _ _ _ _ _ _ _ _=>x
def av:Pr->Ex|mk _ _ x _ _ _ _ _ _ _=>x
def aj:Pr->List Ex|mk _ _ _ x _ _ _ _ _ _=>x
def au:Pr->List Ex|mk _ _ _ _ x _ _ _ _ _=>x
def rep:Pr->Rp|mk _ _ _ _ _ x _ _ _ _=>x
def ak:Pr->List Gu|mk _ _ _ _ _ _ x _ _ _=>x
def l:Pr->List Pr|mk _ _ _ _ _ _ _ x _ _=>x
def ay:Pr->List Int|mk _ _ _ _ _ _ _ _ x _=>x
def spec:Pr->Sp|mk _ _ _ _ _ _ _ _ _ x=>x
end Pr
namespace Gu
def kind:Gu->Int|mk x _ _ _ _ _ _ _=>x
def name:Gu->ByteArray|mk _ x _ _ _ _ _ _=>x
def cond:Gu->Ex|mk _ _ x _ _ _ _ _=>x
def av:Gu->Ex|mk _ _ _ x _ _ _ _=>x
def aj:Gu->List Ex|mk _ _ _ _ x _ _ _=>x
def values:Gu->List Ex|mk _ _ _ _ _ x _ _=>x
def time:Gu->Ex|mk _ _ _ _ _ _ x _=>x
def body:Gu->List Pr|mk _ _ _ _ _ _ _ x=>x
end Gu
namespace Sp
def kind:Sp->Int|mk x _ _ _ _ _ _=>x
def type:Sp->Ty|mk _ x _ _ _ _ _=>x
def names:Sp->List ByteArray|mk _ _ x _ _ _ _=>x
def e:Sp->Ex|mk _ _ _ x _ _ _=>x
def aN:Sp->Pt|mk _ _ _ _ x _ _=>x
def ax:Sp->List Fo|mk _ _ _ _ _ x _=>x
def body:Sp->List Pr|mk _ _ _ _ _ _ x=>x
end Sp
def sp0:Sp:=.mk 0 ty0 [] ex0 pt0 [] []
def pr0:Pr:=.mk 0 ByteArray.empty ex0 [] [] rp0 [] [] [] sp0
def gu0:Gu:=.mk 0 ByteArray.empty ex0 ex0 [] [] ex0 []
mutual
def dPr:Pr->D
 |.mk kind name av aj au rep ak l ay (.mk sk st sn se spp sf sb)=>.agg [.int .u8 kind,.str name,
  .int .u8 av.kind,.int .u8 av.op,.int .u8 av.ty,.int .i32 av.n,.str av.s,.list 6 (av.l.map dEx),
  .list 6 (aj.map dEx),.list 6 (au.map dEx),
  .str rep.name,.int .u8 rep.base.kind,.int .u8 rep.base.op,.int .u8 rep.base.ty,.int .i32 rep.base.n,.str rep.base.s,.list 6 (rep.base.l.map dEx),
  .int .u8 rep.count.kind,.int .u8 rep.count.op,.int .u8 rep.count.ty,.int .i32 rep.count.n,.str rep.count.s,.list 6 (rep.count.l.map dEx),
  .list 23 (ve8 ak),.list 42 (rt3 l),.list 1 (ay.map (.int .i64)),
  .int .u8 sk,.int .u8 st.kind,.int .i64 st.dim,.int .u8 st.item,.str st.aN,.list 1 (sn.map .str),
  .int .u8 se.kind,.int .u8 se.op,.int .u8 se.ty,.int .i32 se.n,.str se.s,.list 6 (se.l.map dEx),
  .bool spp.cases,.list 2 (spp.l.map dVa),.list 6 (sf.map dFo),.list 42 (rt3 sb)]
def rt3:List Pr->List D
 |[]=>[]
 |p::l=>dPr p::rt3 l
def dGu:Gu->D
 |.mk kind name cond av aj values time body=>.agg [.int .u8 kind,.str name,
  .int .u8 cond.kind,.int .u8 cond.op,.int .u8 cond.ty,.int .i32 cond.n,.str cond.s,.list 6 (cond.l.map dEx),
  .int .u8 av.kind,.int .u8 av.op,.int .u8 av.ty,.int .i32 av.n,.str av.s,.list 6 (av.l.map dEx),
  .list 6 (aj.map dEx),.list 6 (values.map dEx),
  .int .u8 time.kind,.int .u8 time.op,.int .u8 time.ty,.int .i32 time.n,.str time.s,.list 6 (time.l.map dEx),
  .list 42 (rt3 body)]
def ve8:List Gu->List D
 |[]=>[]
 |g::l=>dGu g::ve8 l
end
theorem kv7:∀ l:List Pr,rt3 l=l.map dPr
 |[]=>by simp[rt3]
 |e::l=>by rw[rt3,kv7 l];rfl
theorem mr7:∀ l:List Gu,ve8 l=l.map dGu
 |[]=>by simp[ve8]
 |e::l=>by rw[ve8,mr7 l];rfl
def dP (p:Pr):D:=.agg [.int .u8 p.kind,.str p.name,
    .int .u8 p.av.kind,.int .u8 p.av.op,.int .u8 p.av.ty,.int .i32 p.av.n,.str p.av.s,.list 6 (p.av.l.map dEx),
    .list 6 (p.aj.map dEx),.list 6 (p.au.map dEx),
    .str p.rep.name,.int .u8 p.rep.base.kind,.int .u8 p.rep.base.op,.int .u8 p.rep.base.ty,.int .i32 p.rep.base.n,.str p.rep.base.s,.list 6 (p.rep.base.l.map dEx),
    .int .u8 p.rep.count.kind,.int .u8 p.rep.count.op,.int .u8 p.rep.count.ty,.int .i32 p.rep.count.n,.str p.rep.count.s,.list 6 (p.rep.count.l.map dEx),
    .list 23 (p.ak.map dGu),.list 42 (p.l.map dPr),.list 1 (p.ay.map (.int .i64)),
    .int .u8 p.spec.kind,.int .u8 p.spec.type.kind,.int .i64 p.spec.type.dim,.int .u8 p.spec.type.item,.str p.spec.type.aN,.list 1 (p.spec.names.map .str),
    .int .u8 p.spec.e.kind,.int .u8 p.spec.e.op,.int .u8 p.spec.e.ty,.int .i32 p.spec.e.n,.str p.spec.e.s,.list 6 (p.spec.e.l.map dEx),
    .bool p.spec.aN.cases,.list 2 (p.spec.aN.l.map dVa),.list 6 (p.spec.ax.map dFo),.list 42 (p.spec.body.map dPr)]
def dG (g:Gu):D:=.agg [.int .u8 g.kind,.str g.name,
    .int .u8 g.cond.kind,.int .u8 g.cond.op,.int .u8 g.cond.ty,.int .i32 g.cond.n,.str g.cond.s,.list 6 (g.cond.l.map dEx),
    .int .u8 g.av.kind,.int .u8 g.av.op,.int .u8 g.av.ty,.int .i32 g.av.n,.str g.av.s,.list 6 (g.av.l.map dEx),
    .list 6 (g.aj.map dEx),.list 6 (g.values.map dEx),
    .int .u8 g.time.kind,.int .u8 g.time.op,.int .u8 g.time.ty,.int .i32 g.time.n,.str g.time.s,.list 6 (g.time.l.map dEx),
    .list 42 (g.body.map dPr)]
def dSp (s:Sp):D:=.agg [.int .u8 s.kind,.int .u8 s.type.kind,.int .i64 s.type.dim,.int .u8 s.type.item,.str s.type.aN,.list 1 (s.names.map .str),
    .int .u8 s.e.kind,.int .u8 s.e.op,.int .u8 s.e.ty,.int .i32 s.e.n,.str s.e.s,.list 6 (s.e.l.map dEx),
    .bool s.aN.cases,.list 2 (s.aN.l.map dVa),.list 6 (s.ax.map dFo),.list 42 (s.body.map dPr)]
theorem v7:dPr=dP:=by
 funext p;obtain⟨_,_,_,_,_,_,_,_,_,⟨⟩⟩:=p;simp only[dPr,dP,Pr.kind,Pr.name,Pr.av,Pr.aj,Pr.au,Pr.rep,Pr.ak,Pr.l,Pr.ay,Pr.spec,Sp.kind,Sp.type,Sp.names,Sp.e,Sp.aN,Sp.ax,Sp.body,kv7,mr7]
theorem jb7:dGu=dG:=by
 funext g;cases g;simp only[dGu,dG,Gu.kind,Gu.name,Gu.cond,Gu.av,Gu.aj,Gu.values,Gu.time,Gu.body,kv7]
end
section
namespace Lx
def letter (c:UInt8):Bool:=decide (97<=c.toNat/\c.toNat<=122) || decide (65<=c.toNat/\c.toNat<=90)
def digit (c:UInt8):Bool:=decide (48<=c.toNat/\c.toNat<=57)
def Kv (c:UInt8):Bool:=letter c || digit c || decide (c.toNat=46)
def run:List UInt8->Nat
 |[]=>0
 |c::l=>if Kv c then run l+1 else 0
def keys:List ByteArray:=[⟨#[65,70,84,69,82]⟩,⟨#[65,76,84]⟩,⟨#[65,78,68]⟩,⟨#[66,79,79,76]⟩,⟨#[66,89,84,69]⟩,⟨#[67,65,83,69]⟩,⟨#[67,72,65,78]⟩,⟨#[69,76,83,69]⟩,⟨#[70,65,76,83,69]⟩,⟨#[70,79,82]⟩,⟨#[73,70]⟩,⟨#[73,78,84]⟩,⟨#[73,83]⟩,⟨#[77,73,78,85,83]⟩,⟨#[78,79,84]⟩,⟨#[79,70]⟩,⟨#[79,82]⟩,⟨#[80,65,82]⟩,⟨#[80,76,65,67,69,68]⟩,⟨#[80,76,85,83]⟩,⟨#[80,82,73]⟩,⟨#[80,82,79,67]⟩,⟨#[80,82,79,67,69,83,83,79,82]⟩,⟨#[80,82,79,84,79,67,79,76]⟩,⟨#[83,69,81]⟩,⟨#[83,73,90,69]⟩,⟨#[83,75,73,80]⟩,⟨#[83,84,79,80]⟩,⟨#[84,73,77,69,82]⟩,⟨#[84,73,77,69,83]⟩,⟨#[84,82,85,69]⟩,⟨#[86,65,76]⟩,⟨#[87,72,73,76,69]⟩]
def isKey (s:ByteArray):Bool:=keys.any λk=>decide (k=s)
def Cw (s:ByteArray):Bool:=match s.data.toList with
 |[]=>false
 |c::l=>decide (l.length<32) && letter c && l.all Kv && !isKey s
theorem rn8:∀ l:List UInt8,run l<=l.length
 |[]=>Ap _
 |c::l=>by
  have:=rn8 l;simp only[run,Aj];split<;>omega
theorem Rs:∀ l:List UInt8,run l=l.length↔l.all Kv=true
 |[]=>by simp[run]
 |c::l=>by
  have h1:=Rs l;have h2:=rn8 l;simp only[run,Aj,Ei,Aa,<-h1];split<;>simp_all
end Lx
end
section
open Classical in
noncomputable def eqB {α:Type}(a b:α):Bool:=decide (a=b)
theorem j9 {α:Type}{a b:α}:eqB a b=true↔a=b:=by simp[eqB]
theorem r9 {α:Type}{a b:α}:eqB a b=false↔a≠b:=by simp[eqB]
namespace Lx
def prim (k:Int):Bool:=decide (k=1) || decide (k=2) || decide (k=3)
def Oe (t:Ty):Bool:=
 decide (0<=t.dim/\t.dim<=64) && (if prim t.kind then decide (t.item=0) && decide (t.aN=ByteArray.empty)
  else if t.kind=4 then (if t.item=0 then Cw t.aN else prim t.item && decide (t.aN=ByteArray.empty))
  else decide (t.kind=5/\t.dim=0/\t.item=0/\t.aN=ByteArray.empty))
def Lc (l:List Int)(least:Int):Bool:=decide (least<=l.length/\(l.length:Int)<=8) && l.all prim
def Oi (pre:List Va):List Va->Bool
 |[]=>true
 |v::l=>Cw v.tag && Lc v.items 0 && !(pre.any λw=>decide (w.tag=v.tag)) && Oi (pre++[v]) l
def Ns (p:Pt):Bool:=if p.cases then decide (1<=p.l.length/\p.l.length<=16) && Oi [] p.l else match p.l with
 |[v]=>decide (v.tag=ByteArray.empty) && Lc v.items 1
 |_=>false
def Jf (kind op ty n:Int)(s:ByteArray):Int × Bool:=
 if kind=1 then (0,decide (op=0/\ty=0/\s=ByteArray.empty))
 else if kind=2 then (if 0<=n/\n<=255 then (0,decide (op=0/\ty=0/\s=ByteArray.empty)) else (0,false))
 else if kind=3 then (if 0<=n/\n<=1 then (0,decide (op=0/\ty=0/\s=ByteArray.empty)) else (0,false))
 else if kind=4\/kind=9\/kind=5 then (if Cw s then (if kind=5 then 1 else 0,decide (op=0/\ty=0/\n=0)) else (0,false))
 else if kind=6 then (if 23<=op/\op<=26 then (1,decide (ty=0/\n=0/\s=ByteArray.empty)) else (0,false))
 else if kind=7 then (if 1<=op/\op<=22 then (2,decide (ty=0/\n=0/\s=ByteArray.empty)) else (0,false))
 else if kind=8 then (if prim ty then (1,decide (op=0/\n=0/\s=ByteArray.empty)) else (0,false))
 else (0,false)
def Kn (e:Ex):Bool:=(Jf e.kind e.op e.ty e.n e.s).2 && decide ((e.l.length:Int)=(Jf e.kind e.op e.ty e.n e.s).1)
mutual
def Dp (deep left:Int):Ex->Bool × Int
 |.mk kind op ty n s l=>
  if Kn (.mk kind op ty n s l)=false\/left - 1<0\/32<deep then (false,left - 1) else Fs (deep+1) (left - 1) l
def Fs (deep left:Int):List Ex->Bool × Int
 |[]=>(true,left)
 |e::l=>if (Dp deep left e).1 then Fs deep (Dp deep left e).2 l else Dp deep left e
end
mutual
def Ig (inside left:Int):Ex->Int
 |.mk kind op ty n s l=>
  if inside=32\/left=0\/Kn (.mk kind op ty n s l)=false then -1 else Io (inside+1) (left - 1) l
def Io (inside left:Int):List Ex->Int
 |[]=>left
 |e::l=>if Ig inside left e<0 then -1 else Io inside (Ig inside left e) l
end
def Gd (e:Ex):Bool:=(Dp 1 256 e).1
mutual
theorem Pk:∀ (e:Ex) (inside left:Int),0<=left->0<=inside->inside<=32->
 ((Dp (inside+1) left e).1=true↔0<=Ig inside left e)/\(0<=Ig inside left e->(Dp (inside+1) left e).2=Ig inside left e/\Ig inside left e<=left - 1)
 |.mk kind op ty n s l,inside,left,h0,h1,h2=>by
  by_cases hc:inside=32\/left=0\/Kn (.mk kind op ty n s l)=false
  ·have e1:Dp (inside+1) left (.mk kind op ty n s l)=(false,left - 1):=by rw[Dp,Ad (hc.elim (λh=>.inr (.inr (by omega))) λh=>h.elim (λh=>.inr (.inl (by omega))) .inl)]
   have e2:Ig inside left (.mk kind op ty n s l)=-1:=by rw[Ig,Ad hc]
   rw[e1,e2];simp
  ·have e1:Dp (inside+1) left (.mk kind op ty n s l)=Fs (inside+1+1) (left - 1) l:=by rw[Dp,Af (λh=>hc (h.elim (λh=>.inr (.inr h)) λh=>h.elim (λh=>.inr (.inl (by omega))) λh=>.inl (by omega)))]
   have e2:Ig inside left (.mk kind op ty n s l)=Io (inside+1) (left - 1) l:=by rw[Ig,Af hc]
   rw[e1,e2];exact kc9 l (inside+1) (left - 1) (by omega) (by omega) (by omega)
theorem kc9:∀ (l:List Ex) (inside left:Int),0<=left->0<=inside->inside<=32->
 ((Fs (inside+1) left l).1=true↔0<=Io inside left l)/\(0<=Io inside left l->(Fs (inside+1) left l).2=Io inside left l/\Io inside left l<=left)
 |[],inside,left,h0,h1,h2=>by simp[Fs,Io,h0]
 |e::l,inside,left,h0,h1,h2=>by
  have h3:=Pk e inside left h0 h1 h2;by_cases hr:Ig inside left e<0
  ·have hf:(Dp (inside+1) left e).1=false:=by
    cases h:(Dp (inside+1) left e).1 with
    |false=>rfl
    |true=>have:=h3.1.1 h;omega
   have e2:Io inside left (e::l)=-1:=by rw[Io,Ad hr]
   have e1:Fs (inside+1) left (e::l)=Dp (inside+1) left e:=by rw[Fs,hf];rfl
   rw[e1,e2,hf];simp
  ·have h5:=h3.2 (by omega);have e2:Io inside left (e::l)=Io inside (Ig inside left e) l:=by rw[Io,Af hr]
   have e1:Fs (inside+1) left (e::l)=Fs (inside+1) (Ig inside left e) l:=by rw[Fs,h3.1.2 (by omega),Ad rfl,h5.1]
   rw[e1,e2];have h6:=kc9 l inside (Ig inside left e) (by omega) h1 h2;exact⟨h6.1,λh=>⟨(h6.2 h).1,by have:=(h6.2 h).2;omega⟩⟩
end
theorem Vz (e:Ex):Gd e=true↔0<=Ig 0 256 e:=(Pk e 0 256 (by omega) (by omega) (by omega)).1
end Lx
end
end Go.Proofs.YtklklgfpkpglgaaGreatDoor
