/- Parts. -/
import Derived.Test.YtklklgfpkpglgaaGreatDoorQ7
set_option linter.all false
set_option maxRecDepth 100000
set_option maxHeartbeats 0
namespace Go.Proofs.YtklklgfpkpglgaaGreatDoor
open Go.RowKit
section
section
variable {P:Program}
theorem Hg.mem {w:World}{M:Nat->Nat->Prop}{ks:List D}{us:List Value}(h:Hg w M ks us){u:Value}(hu:u∈us):∃ (i:Nat) (x:D),ks[i]? =some x/\us[i]? =some u/\Gv w M x u:=by
 obtain⟨i,hi,rfl⟩:=Ev.1 hu;have hlen:=h.length;obtain⟨v,h1,h2⟩:=h.get (i:=i) (x:=ks[i]'(by omega)) (by simp);have:v=us[i]:=by rw[Ar hi]at h1;exact(Option.some.inj h1).symm
 exact⟨i,_,Ar (by omega),Ar hi,this ▸ h2⟩
theorem jz8 {kk:Nf}{key:D}{ks:List D}{w:World}{M:Nat->Nat->Prop}{es:List MapEntry}(h1:Hg w M ks (es.map (·.key)))(hk:∀ y∈ks,Comp kk key y):∀ e∈es,∃ y,Comp kk key y/\e.key=Jg y:=λe he=>by
 obtain⟨i,x,h2,_,h4⟩:=h1.mem (List.mem_map_of_mem (f:=(·.key)) he);have hc:=hk x (Ea h2);exact⟨x,hc,hc.rep.2 _ h4⟩
theorem qz5 {kk:Nf}{key:D}{ks:List D}{w:World}{M:Nat->Nat->Prop}{es:List MapEntry}(h1:Hg w M ks (es.map (·.key)))(hk:∀ y∈ks,Comp kk key y){j:Nat}{e:MapEntry}(he:es[j]? =some e):∃ y,ks[j]? =some y/\(e.key=Jg key↔y=key):=by
 have hlen:=h1.length;have hj:j<es.length:=(Ay.1 he).1;simp only[Ab]at hlen;obtain⟨v,h2,h3⟩:=h1.get (i:=j) (x:=ks[j]'(by omega)) (by simp);rw[Bp,he]at h2;simp only[Er,Bi]at h2;have hc:=hk _ (Ao (l:=ks) (n:=j) (by omega));refine⟨_,Ar (by omega),?_⟩;rw[h2,hc.rep.2 _ h3,hc.inj]
theorem je5 {w:World}{r c:Nat}{es:Array MapEntry}(h:w.heap[r]? =some (.map es c)):(getObj r).run P w=.ok (.map es c) w:=by simp[getObj,Sem.run,h]
theorem jt0 {w:World}{r c:Nat}{es:Array MapEntry}(o:Obj)(h:w.heap[r]? =some (.map es c)):(setObj r o).run P w=.ok () (w.putObj r o):=by simp[setObj,Sem.run,h,World.putObj]
theorem jl6 {t:TypeId}{i:TypeInfo}{z:Value}(hi:P.info? t=some i)(hz:i.zero=some z)(w:World):(zeroValue t).run P w=.ok z w:=by simp[zeroValue,typeInfo,hi,hz]
theorem ml0 {kk:Nf}{key:D}{ks:List D}{w:World}{M:Nat->Nat->Prop}{es:List MapEntry}(h1:Hg w M ks (es.map (·.key)))(hk:∀ y∈ks,Comp kk key y){i:Nat}(hi:ks[i]? =some key)(hf:∀ j,j<i->ks[j]? ≠some key){r:Option (Nat × Value)}(h:Found (Jg key) es 0 r):
 ∃ e,es[i]? =some e/\e.key=Jg key/\r=some (i,e.val):=by
 have hlen:=h1.length;simp only[Ab]at hlen;have hil:i<ks.length:=(Ay.1 hi).1;obtain⟨ei,hei⟩:∃ e,es[i]? =some e:=⟨_,Ar (by omega)⟩;obtain⟨y,h2,h3⟩:=qz5 h1 hk hei;rw[hi]at h2;cases h2;have h4:=h3.2 rfl;rcases h with ⟨_,h5⟩|⟨j,e,rfl,h5,h6,h7⟩
 ·exact absurd h4 (h5 ei (Ea hei))
 ·obtain⟨z,h8,h9⟩:=qz5 h1 hk h5;have h10:=h9.1 h6;subst h10;have:i=j:=by
   rcases Fp i j with hij|hij|hij
   ·exact absurd h4 (h7 i ei hij hei)
   ·exact hij
   ·exact absurd h8 (hf j hij)
  subst this;rw[hei]at h5;cases h5;exact⟨ei,hei,h4,by simp⟩
theorem kv0 {kk:Nf}{key:D}{ks:List D}{w:World}{M:Nat->Nat->Prop}{es:List MapEntry}(h1:Hg w M ks (es.map (·.key)))(hk:∀ y∈ks,Comp kk key y)(hn:key∉ks){r:Option (Nat × Value)}(h:Found (Jg key) es 0 r):r=none:=by
 rcases h with h|⟨j,e,_,h5,h6,_⟩
 ·exact h.1
 ·obtain⟨y,h8,h9⟩:=qz5 h1 hk h5;have:=h9.1 h6;subst this;exact absurd (Ea h8) hn
theorem jt7 {t k e i r c:Nat}{kk:Nf}{es:Array MapEntry}[ht:TMap P t k e][hkk:TKey P k kk]{key y:D}{ks vs:List D}{w:World}{M:Nat->Nat->Prop}(h1:Hg w M ks (es.toList.map (·.key)))(h2:Hg w M vs (es.toList.map (·.val)))
 (hk:∀ y∈ks,Comp kk key y) (hc:Comp kk key key) (hi:ks[i]? =some key) (hf:∀ j,j<i->ks[j]? ≠some key) (hv:vs[i]? =some y) (ok:Bool):
 ∃ u,Gv w M y u/\∀ w',w'.heap[r]? =some (.map es c)->(Instr.lookup t (.map (some r)) (Jg key) ok).run P w'=.ok (if ok then .tuple #[u,.bool true] else u) w':=by
 obtain⟨u,h3,h4⟩:=h2.get hv;refine⟨u,h4,λw' hw'=>?_⟩;obtain⟨q,h5,h6⟩:=jg1 (P:=P) (t:=k) (x:=key) w' es.toList (jz8 h1 hk);obtain⟨en,h7,h8,rfl⟩:=ml0 h1 hk hi hf h6;rw[Bp,h7]at h3;simp only[Er,Bi]at h3;subst h3;simp only[Instr.lookup,Sem.run_bind,run_underlying (jc9 ht),Result.andThen_ok,je5 hw',Sem.run_pure,hc.check,h5]
theorem jr0 {t k e r c:Nat}{kk:Nf}{es:Array MapEntry}[ht:TMap P t k e][hkk:TKey P k kk]{key:D}{ks:List D}{w:World}{M:Nat->Nat->Prop}(h1:Hg w M ks (es.toList.map (·.key)))
 (hk:∀ y∈ks,Comp kk key y) (hc:Comp kk key key) (hn:key∉ks) {i:TypeInfo} {z:Value} (hi:P.info? e=some i) (hz:i.zero=some z) (ok:Bool):
 ∀ w',w'.heap[r]? =some (.map es c)->(Instr.lookup t (.map (some r)) (Jg key) ok).run P w'=.ok (if ok then .tuple #[z,.bool false] else z) w':=by
 intro w' hw';obtain⟨q,h5,h6⟩:=jg1 (P:=P) (t:=k) (x:=key) w' es.toList (jz8 h1 hk);have:=kv0 h1 hk hn h6;subst this;simp only[Instr.lookup,Sem.run_bind,run_underlying (jc9 ht),Result.andThen_ok,je5 hw',Sem.run_pure,hc.check,h5,jl6 hi hz]
end
section
variable {E:Set}{Q:Exit->Sd->Prop}{ops:Array Oper}{draw:Bool}{rest:Todo}{way:Ji}{ty:TypeId}{pos:String}{af:Array Edge}{gd:Option (Nat × Bool)}{dst:Option Tmp}
variable {env:List (Nat × V)}{H:List (Nat × Ob)}{gl:List (Nat × List D)}{d:Nat}
def jz9:Bool->V->Bool->V
 |true,v,b=>.tup [v,.d (.bool b)]
 |false,v,_=>v
theorem vt7 {S:Sd}{t k e n i:Nat}{kk:Nf}{x y:Operand}{key z:D}{ks vs:List D}{ok:Bool}[ht:TMap E.P t k e][hkk:TKey E.P k kk](hx:S.ev x=some (.map n))(hox:Cm x=true)(hl:look n S.H=some (.map ks vs))(hy:S.ev y=some (.d key))(hoy:Cm y=true)
 (hk:∀ y∈ks,Comp kk key y) (hc:Comp kk key key) (hi:ks[i]? =some key) (hf:∀ j,j<i->ks[j]? ≠some key) (hv:vs[i]? =some z):Quiet E S ⟨dst,.lookup t x y ok,ty,pos,af,gd⟩ (jz9 ok (.d z) true):=Quiet.mk λβ a w h=>by
 obtain⟨r,h1,h2⟩:=h.ev hx hox;obtain⟨r',es,c,h3,h4,h5,h6,hbn⟩:=h.obs n _ hl;rw[h1]at h3;cases h3;have hkey:a.eval y=Jg key:=hc.rep.1 _ (h.ev hy hoy);obtain⟨u,h7,h8⟩:=jt7 (P:=E.P) (t:=t) (r:=r) (c:=c) h5 h6 hk hc hi hf hv ok;refine⟨if ok then .tuple #[u,.bool true] else u,λw' g=>?_,?_⟩
 ·have:=h8 w' (jb1 g h4);simp only[execOp,h2,hkey,Sem.run_bind,this,Result.andThen_ok,Sem.run_pure]
 ·cases ok
  ·exact h7
  ·exact⟨[u,.bool true],rfl,u,_,rfl,h7,_,_,rfl,rfl,rfl⟩
theorem vo3 {S:Sd}{t k e n:Nat}{kk:Nf}{x y:Operand}{key:D}{ks vs:List D}{ok:Bool}{zv:V}[ht:TMap E.P t k e][hkk:TKey E.P k kk][hz:Jo E.P e zv](hx:S.ev x=some (.map n))(hox:Cm x=true)(hl:look n S.H=some (.map ks vs))(hy:S.ev y=some (.d key))(hoy:Cm y=true)
 (hk:∀ y∈ks,Comp kk key y) (hc:Comp kk key key) (hn:key∉ks):Quiet E S ⟨dst,.lookup t x y ok,ty,pos,af,gd⟩ (jz9 ok zv false):=Quiet.mk λβ a w h=>by
 obtain⟨r,h1,h2⟩:=h.ev hx hox;obtain⟨r',es,c,h3,h4,h5,h6,hbn⟩:=h.obs n _ hl;rw[h1]at h3;cases h3;have hkey:a.eval y=Jg key:=hc.rep.1 _ (h.ev hy hoy);obtain⟨i,z,hi,hzi,hzr⟩:=kp1 hz;have h8:=jr0 (P:=E.P) (t:=t) (r:=r) (c:=c) h5 hk hc hn hi hzi ok;refine⟨if ok then .tuple #[z,.bool false] else z,λw' g=>?_,?_⟩
 ·have:=h8 w' (jb1 g h4);simp only[execOp,h2,hkey,Sem.run_bind,this,Result.andThen_ok,Sem.run_pure]
 ·cases ok
  ·exact hzr
  ·exact⟨[z,.bool false],rfl,z,_,rfl,hzr,_,_,rfl,rfl,rfl⟩
theorem ve0 {S:Sd}{t k e i:Nat}{kk:Nf}{x y:Operand}{key z:D}{ks vs:List D}{ok:Bool}[ht:TMap E.P t k e][hkk:TKey E.P k kk](hx:S.ev x=some (.d (.map ks vs)))(hox:Cm x=true)(hy:S.ev y=some (.d key))(hoy:Cm y=true)
 (hk:∀ y∈ks,Comp kk key y) (hc:Comp kk key key) (hi:ks[i]? =some key) (hf:∀ j,j<i->ks[j]? ≠some key) (hv:vs[i]? =some z):Quiet E S ⟨dst,.lookup t x y ok,ty,pos,af,gd⟩ (jz9 ok (.d z) true):=Quiet.mk λβ a w h=>by
 obtain⟨r,es,c,h3,h4,_,h5,h6,_⟩:=h.ev hx hox;have hkey:a.eval y=Jg key:=hc.rep.1 _ (h.ev hy hoy);obtain⟨u,h7,h8⟩:=jt7 (P:=E.P) (t:=t) (r:=r) (c:=c) h5 h6 hk hc hi hf hv ok;refine⟨if ok then .tuple #[u,.bool true] else u,λw' g=>?_,?_⟩
 ·have:=h8 w' (jb1 g h4);simp only[execOp,h3,hkey,Sem.run_bind,this,Result.andThen_ok,Sem.run_pure]
 ·cases ok
  ·exact h7
  ·exact⟨[u,.bool true],rfl,u,_,rfl,h7,_,_,rfl,rfl,rfl⟩
theorem rm8 {S:Sd}{t k e:Nat}{kk:Nf}{x y:Operand}{key:D}{ks vs:List D}{ok:Bool}{zv:V}[ht:TMap E.P t k e][hkk:TKey E.P k kk][hz:Jo E.P e zv](hx:S.ev x=some (.d (.map ks vs)))(hox:Cm x=true)(hy:S.ev y=some (.d key))(hoy:Cm y=true)
 (hk:∀ y∈ks,Comp kk key y) (hc:Comp kk key key) (hn:key∉ks):Quiet E S ⟨dst,.lookup t x y ok,ty,pos,af,gd⟩ (jz9 ok zv false):=Quiet.mk λβ a w h=>by
 obtain⟨r,es,c,h3,h4,_,h5,h6,_⟩:=h.ev hx hox;have hkey:a.eval y=Jg key:=hc.rep.1 _ (h.ev hy hoy);obtain⟨i,z,hi,hzi,hzr⟩:=kp1 hz;have h8:=jr0 (P:=E.P) (t:=t) (r:=r) (c:=c) h5 hk hc hn hi hzi ok;refine⟨if ok then .tuple #[z,.bool false] else z,λw' g=>?_,?_⟩
 ·have:=h8 w' (jb1 g h4);simp only[execOp,h3,hkey,Sem.run_bind,this,Result.andThen_ok,Sem.run_pure]
 ·cases ok
  ·exact hzr
  ·exact⟨[z,.bool false],rfl,z,_,rfl,hzr,_,_,rfl,rfl,rfl⟩
theorem mc2 {ks:List D}{key:D}(h:key∈ks):∃ i:Nat,ks[i]? =some key/\∀ j:Nat,j<i->ks[j]? ≠some key:=by
 obtain⟨i,hi,h1⟩:=Ev.1 h;obtain⟨m,h2,h3⟩:=least (p:=λi:Nat=>ks[i]? =some key) ⟨i,by rw[Ar hi,h1]⟩;exact⟨m,h2,λj hj hk=>by have:=h3 j hk;omega⟩
theorem mc3 {t k e n:Nat}{kk:Nf}{x y:Operand}{key:D}{ks vs:List D}{ok:Bool}{zv:V}[ht:TMap E.P t k e][hkk:TKey E.P k kk][hz:Jo E.P e zv](hx:Sd.ev ⟨env,H,gl⟩ x=some (.map n))(hox:Cm x=true)(hl:look n H=some (.map ks vs))(hy:Sd.ev ⟨env,H,gl⟩ y=some (.d key))(hoy:Cm y=true)
 (hc:Comp kk key key) (hd:d<E.C.nt) (hg:Sd.gd ⟨env,H,gl⟩ ops ⟨some d,.lookup t x y ok,ty,pos,af,gd⟩=some true) (hw:way.known=false) (hk:∀ y∈ks,Comp kk key y) (hlen:vs.length=ks.length)
 (h1:∀ (i:Nat) z,ks[i]? =some key->vs[i]? =some z->(∀ j:Nat,j<i->ks[j]? ≠some key)->TR E draw ops Q rest ⟨(d,jz9 ok (.d z) true)::env,H,gl⟩)
 (h2:key∉ks->TR E draw ops Q rest ⟨(d,jz9 ok zv false)::env,H,gl⟩):TR E draw ops Q (.step ⟨some d,.lookup t x y ok,ty,pos,af,gd⟩ way rest) ⟨env,H,gl⟩:=by
 by_cases hm:key∈ks
 ·obtain⟨i,hi,hf⟩:=mc2 hm;have hlt:i<ks.length:=(Ay.1 hi).1;have hv:vs[i]? =some (vs[i]'(by omega)):=Ar (by omega);exact jk6 (vt7 (kk:=kk) hx hox hl hy hoy hk hc hi hf hv) rfl hd hg rfl hw (h1 i _ hi hv hf)
 ·exact jk6 (vo3 (kk:=kk) hx hox hl hy hoy hk hc hm) rfl hd hg rfl hw (h2 hm)
theorem qf3 {t k e:Nat}{kk:Nf}{x y:Operand}{key:D}{ks vs:List D}{ok:Bool}{zv:V}[ht:TMap E.P t k e][hkk:TKey E.P k kk][hz:Jo E.P e zv](hx:Sd.ev ⟨env,H,gl⟩ x=some (.d (.map ks vs)))(hox:Cm x=true)(hy:Sd.ev ⟨env,H,gl⟩ y=some (.d key))(hoy:Cm y=true)
 (hc:Comp kk key key) (hd:d<E.C.nt) (hg:Sd.gd ⟨env,H,gl⟩ ops ⟨some d,.lookup t x y ok,ty,pos,af,gd⟩=some true) (hw:way.known=false) (hk:∀ y∈ks,Comp kk key y) (hlen:vs.length=ks.length)
 (h1:∀ (i:Nat) z,ks[i]? =some key->vs[i]? =some z->(∀ j:Nat,j<i->ks[j]? ≠some key)->TR E draw ops Q rest ⟨(d,jz9 ok (.d z) true)::env,H,gl⟩)
 (h2:key∉ks->TR E draw ops Q rest ⟨(d,jz9 ok zv false)::env,H,gl⟩):TR E draw ops Q (.step ⟨some d,.lookup t x y ok,ty,pos,af,gd⟩ way rest) ⟨env,H,gl⟩:=by
 by_cases hm:key∈ks
 ·obtain⟨i,hi,hf⟩:=mc2 hm;have hlt:i<ks.length:=(Ay.1 hi).1;have hv:vs[i]? =some (vs[i]'(by omega)):=Ar (by omega);exact jk6 (ve0 (kk:=kk) hx hox hy hoy hk hc hi hf hv) rfl hd hg rfl hw (h1 i _ hi hv hf)
 ·exact jk6 (rm8 (kk:=kk) hx hox hy hoy hk hc hm) rfl hd hg rfl hw (h2 hm)
theorem StB.Yk {C:Ctx}{S:Sd}{β:Nat->Hd}{a:Act}{w:World}(h:StB C β S a w){n r:Nat}{ob ob':Ob}(hl:look n S.H=some ob)(hob:ob'.mut=λ_=>True)(hom:∀ o,ob.mut o)(hnr:∀ e sz sh xs k,ob'≠.row e sz sh xs k)(hb':(β n).v=.map (some r)){o o':Obj}(ho:w.heap[r]? =some o)
 (hrep:La (w.putObj r o') (Mut C.M0 β ((n,ob')::S.H)) β ((n,ob')::S.H) (β n) ob'\/(aI w (Mut C.M0 β S.H) (w.putObj r o') (Mut C.M0 β ((n,ob')::S.H))->La (w.putObj r o') (Mut C.M0 β ((n,ob')::S.H)) β ((n,ob')::S.H) (β n) ob')) (hd:ob.deep=false:=by rfl) (hd':ob'.deep=false:=by rfl):StB C β {S with H:=(n,ob')::S.H} a (w.putObj r o'):=by
 have hbn:hb (β n).v=some r:=by rw[hb'];rfl
 have hH:∀ m e sz sh xs k,look m ((n,ob')::S.H)=some (.row e sz sh xs k)->∃ sh' xs',look m S.H=some (.row e sz sh' xs' k):=λm e sz sh xs k hm=>by
  rw[n3]at hm;split at hm
  ·cases hm;exact absurd rfl (hnr _ _ _ _ _)
  ·exact⟨sh,xs,hm⟩
 refine h.turn hl (λ_ _=>rfl) rfl rfl rfl (by simp[World.putObj]) (λk _ hk=>World.putObj_heap_other (λe=>hk (by rw[hbn,e]))) (λb h=>.inl h) (λb' o' y h4 h5 _=>absurd (hom o') h5) (λ_ _ _ _ _=>hom _)
  (λk t x v _=>Dc.keep k (λ_=>rfl) hH x v) (λ_=>rfl) (λk m cs vs _ _=>Cs.keep k (λ_=>rfl) hH _ vs) (λk=>?_) hd hd'
 rcases hrep with h|h
 ·exact h
 ·exact h k
theorem map_set {es:List MapEntry}{i:Nat}{e:MapEntry}(he:es[i]? =some e){u:Value}:(es.modify i λx=>{x with key:=e.key,val:=u}).map (·.key)=es.map (·.key)/\(es.modify i λx=>{x with key:=e.key,val:=u}).map (·.val)=(es.map (·.val)).set i u:=by
 have hi:=(Ay.1 he).1;have e1:=(Ay.1 he).2;constructor
 ·apply Fm;intro j;rw[Bp,Bp,List.getElem?_modify];split
  ·rename_i hij;subst hij;rw[he];rfl
  ·simp
 ·apply Fm;intro j;rw[Bp,List.getElem?_modify,List.getElem?_set];split
  ·rename_i hij;subst hij;rw[he,Ad (by simpa using hi)];rfl
  ·simp
theorem ml1 {S:Sd}{t k e n i:Nat}{kk:Nf}{x y z:Operand}{key u:D}{v:V}{ks vs:List D}[ht:TMap E.P t k e][hkk:TKey E.P k kk](hx:S.ev x=some (.map n))(hox:Cm x=true)(hl:look n S.H=some (.map ks vs))(hy:S.ev y=some (.d key))(hoy:Cm y=true)(hz:S.ev z=some v)(hoz:Cm z=true)(hu:ToD S.H v u)
 (hk:∀ y∈ks,Comp kk key y) (hc:Comp kk key key) (hi:ks[i]? =some key) (hf:∀ j,j<i->ks[j]? ≠some key):Turn E S ⟨none,.mapUpdate t x y z,ty,pos,af,gd⟩ {S with H:=(n,.map ks (vs.set i u))::S.H}:=Turn.mk λβ a w h=>by
 obtain⟨r,h1,h2⟩:=h.ev hx hox;obtain⟨r',es,c,h3,h4,h5,h6,hbn⟩:=h.obs n _ hl;rw[h1]at h3;cases h3;have hkey:a.eval y=Jg key:=hc.rep.1 _ (h.ev hy hoy);have hval:=hu.rep h (h.ev hz hoz);obtain⟨q,h7,h8⟩:=jg1 (P:=E.P) (t:=k) (x:=key) w es.toList (jz8 h5 hk);obtain⟨en,h9,h10,rfl⟩:=ml0 h5 hk hi hf h8;have hge:es[i]? =some en:=by simpa using h9
 refine⟨w.putObj r (.map (es.modify i λx=>{x with key:=Jg key,val:=a.eval z}) c),?_,β,h.Yk hl rfl (λ_=>trivial) (λ_ _ _ _ _ h=>by cases h) h1 h4 (.inr λkp=>⟨r,_,c,h1,World.putObj_heap_same (Bw.1 h4).1,?_,?_,?_⟩)⟩
 ·simp only[execOp,h2,hkey,Instr.mapUpdate,Sem.run_bind,run_underlying (jc9 ht),Result.andThen_ok,je5 h4,hc.check,h7,hge,Er,Option.getD_some,h10,hc.stays,jt0 _ h4,Sem.run_pure]
 ·have:=(map_set h9 (u:=a.eval z)).1;rw[h10]at this;rw[Array.toList_modify,this];exact Hg.keep kp _ _ h5
 ·have:=(map_set h9 (u:=a.eval z)).2;rw[h10]at this;rw[Array.toList_modify,this];exact(Hg.keep kp _ _ h6).set i (Gv.keep kp _ _ hval)
 ·rw[Array.toList_modify];exact hbn.modify i _ λ_=>rfl
theorem mc4 {S:Sd}{t k e n:Nat}{kk:Nf}{x y z:Operand}{key u:D}{v:V}{ks vs:List D}[ht:TMap E.P t k e][hkk:TKey E.P k kk](hx:S.ev x=some (.map n))(hox:Cm x=true)(hl:look n S.H=some (.map ks vs))(hy:S.ev y=some (.d key))(hoy:Cm y=true)(hz:S.ev z=some v)(hoz:Cm z=true)(hu:ToD S.H v u)
 (hk:∀ y∈ks,Comp kk key y) (hc:Comp kk key key) (hn:key∉ks):Turn E S ⟨none,.mapUpdate t x y z,ty,pos,af,gd⟩ {S with H:=(n,.map (ks++[key]) (vs++[u]))::S.H}:=Turn.mk λβ a w h=>by
 obtain⟨r,h1,h2⟩:=h.ev hx hox;obtain⟨r',es,c,h3,h4,h5,h6,hbn⟩:=h.obs n _ hl;rw[h1]at h3;cases h3;have hkr:=h.ev hy hoy;have hkey:a.eval y=Jg key:=hc.rep.1 _ hkr;have hval:=hu.rep h (h.ev hz hoz);obtain⟨q,h7,h8⟩:=jg1 (P:=E.P) (t:=k) (x:=key) w es.toList (jz8 h5 hk);have:=kv0 h5 hk hn h8;subst this;refine⟨w.putObj r (.map (es.push {key:=Jg key,val:=a.eval z,born:=c}) (c+1)),?_,β,h.Yk hl rfl (λ_=>trivial) (λ_ _ _ _ _ h=>by cases h) h1 h4 (.inr λkp=>⟨r,_,c+1,h1,World.putObj_heap_same (Bw.1 h4).1,?_,?_,?_⟩)⟩
 ·simp only[execOp,h2,hkey,Instr.mapUpdate,Sem.run_bind,run_underlying (jc9 ht),Result.andThen_ok,je5 h4,hc.check,h7,jt0 _ h4,Sem.run_pure]
 ·rw[Array.toList_push,Av];exact(Hg.keep kp _ _ h5).append ⟨_,[],rfl,Gv.keep kp _ _ (hkey ▸ hkr),rfl⟩
 ·rw[Array.toList_push,Av];exact(Hg.keep kp _ _ h6).append ⟨_,[],rfl,Gv.keep kp _ _ hval,rfl⟩
 ·rw[Array.toList_push];exact hbn.push rfl
theorem mc5 {t k e n:Nat}{kk:Nf}{x y z:Operand}{key u:D}{v:V}{ks vs:List D}[ht:TMap E.P t k e][hkk:TKey E.P k kk](hx:Sd.ev ⟨env,H,gl⟩ x=some (.map n))(hox:Cm x=true)(hl:look n H=some (.map ks vs))(hy:Sd.ev ⟨env,H,gl⟩ y=some (.d key))(hoy:Cm y=true)(hz:Sd.ev ⟨env,H,gl⟩ z=some v)(hoz:Cm z=true)(hu:ToD H v u)
 (hc:Comp kk key key) (hg:Sd.gd ⟨env,H,gl⟩ ops ⟨none,.mapUpdate t x y z,ty,pos,af,gd⟩=some true) (hw:Jv draw way=true) (hk:∀ y∈ks,Comp kk key y)
 (h1:∀ i:Nat,ks[i]? =some key->(∀ j:Nat,j<i->ks[j]? ≠some key)->TR E draw ops Q rest ⟨env,(n,.map ks (vs.set i u))::H,gl⟩)
 (h2:key∉ks->TR E draw ops Q rest ⟨env,(n,.map (ks++[key]) (vs++[u]))::H,gl⟩):TR E draw ops Q (.step ⟨none,.mapUpdate t x y z,ty,pos,af,gd⟩ way rest) ⟨env,H,gl⟩:=by
 by_cases hm:key∈ks
 ·obtain⟨i,hi,hf⟩:=mc2 hm;exact kl9 (ml1 (kk:=kk) hx hox hl hy hoy hz hoz hu hk hc hi hf) rfl hg rfl hw (h1 i hi hf)
 ·exact kl9 (mc4 (kk:=kk) hx hox hl hy hoy hz hoz hu hk hc hm) rfl hg rfl hw (h2 hm)
theorem StB.newMap {C:Ctx}{S:Sd}{β:Nat->Hd}{a:Act}{w:World}(h:StB C β S a w){n:Nat}(hn:S.aD n=true):StB C (upd β n (.map (some w.heap.size))) {S with H:=(n,.map [] [])::S.H} a (w.alloc (.map #[] 0)):=by
 refine h.newObj hn (.map (some w.heap.size)) (aG.alloc w _) (λb hb'=>?_) (.map [] []) λk=>⟨_,#[],0,rfl,heap_alloc_new w _,rfl,rfl,Born.nil 0⟩;simp only[hb,Bi]at hb';omega
theorem qz6 {S:Sd}{n t:Nat}(hn:S.aD n=true):Grow E S ⟨some d,.makeMap t none,ty,pos,af,gd⟩ {S with H:=(n,.map [] [])::S.H} (.map n):=Grow.mk λβ a w h=>by
 refine⟨.map (some w.heap.size),_,_,?_,aG.alloc w _,h.newMap hn,⟨w.heap.size,jw6 _ _ _,rfl⟩⟩;simp[execOp,run_makeMap]
theorem qz7 (n:Nat){t:Nat}(hn:Sd.aD ⟨env,H,gl⟩ n=true)(hd:d<E.C.nt)(hg:Sd.gd ⟨env,H,gl⟩ ops ⟨some d,.makeMap t none,ty,pos,af,gd⟩=some true)(hw:way.loud=true)
 (h:TR E draw ops Q rest ⟨(d,.map n)::env,(n,.map [] [])::H,gl⟩):TR E draw ops Q (.step ⟨some d,.makeMap t none,ty,pos,af,gd⟩ way rest) ⟨env,H,gl⟩:=jn3 (qz6 hn) rfl hd hg rfl hw h
end
end
end Go.Proofs.YtklklgfpkpglgaaGreatDoor
