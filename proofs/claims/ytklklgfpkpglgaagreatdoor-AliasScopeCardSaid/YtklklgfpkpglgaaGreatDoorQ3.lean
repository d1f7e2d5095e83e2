/- Parts. -/
import Derived.Test.YtklklgfpkpglgaaGreatDoorQ2
set_option linter.all false
set_option maxRecDepth 100000
set_option maxHeartbeats 0
namespace Go.Proofs.YtklklgfpkpglgaaGreatDoor
open Go.RowKit
section
def upd (β:Nat->Hd)(n:Nat)(v:Value):Nat->Hd:=λm=>if m=n then ⟨v,[]⟩ else β m
theorem jg3 (β:Nat->Hd)(n:Nat)(v:Value):upd β n v n=⟨v,[]⟩:=by simp[upd]
theorem jw6 (β:Nat->Hd)(n:Nat)(v:Value):(upd β n v n).v=v:=by simp[upd]
theorem n0 (β:Nat->Hd)(n:Nat)(v:Value){m:Nat}(h:m≠n):upd β n v m=β m:=by simp[upd,h]
theorem La.Xz {w:World}{M:Nat->Nat->Prop}{β:Nat->Hd}{H:List (Nat × Ob)}{v:Hd}{ob:Ob}(h:La w M β H v ob){D:Nat}{o:Obj}(ho:w.heap[D]? =some o)(hs:rr7 o=true):¬own v ob D:=λhb'=>by
 obtain⟨o',h1,h2,_⟩:=h.kind hb';rw[ho]at h1;cases h1;rw[hs]at h2;cases h2
theorem StB.old {C:Ctx}{β:Nat->Hd}{S:Sd}{a:Act}{w:World}(h:StB C β S a w){n:Nat}{ob:Ob}(hl:look n S.H=some ob){b:Nat}(hb':own (β n) ob b):b<w.heap.size:=(h.obs n ob hl).lt hb'
theorem StB.newObj {C:Ctx}{β:Nat->Hd}{S:Sd}{a:Act}{w w':World}(h:StB C β S a w){n:Nat}(hn:S.aD n=true)(v:Value)(g:aG w w')(hv0:∀ b,hb v=some b->w.heap.size<=b)(ob:Ob)
 (hrep:aI w (Mut C.M0 β S.H) w' (Mut C.M0 (upd β n v) ((n,ob)::S.H))->La w' (Mut C.M0 (upd β n v) ((n,ob)::S.H)) (upd β n v) ((n,ob)::S.H) ⟨v,[]⟩ ob):
 StB C (upd β n v) {S with H:=(n,ob)::S.H} a w':=by
 have hnone:=Sd.Mg hn;have hv:∀ {ob:Ob} b,own ⟨v,[]⟩ ob b->w.heap.size<=b:=λb hb'=>by
  rcases hb' with hb'|⟨_,hb'⟩
  ·exact hv0 b hb'
  ·cases hb'
 simp only[Sd.aD,Aa]at hn;have k0:∀ b o,b<w.heap.size->¬Mut C.M0 β S.H b o->¬Mut C.M0 (upd β n v) ((n,ob)::S.H) b o:=λb o hlt h1 hm=>by
  rcases hm with hm|⟨m,ob',h3,h4,h5⟩
  ·exact h1 (.inl hm)
  ·rw[j6]at h3;split at h3
   ·rename_i e;subst e;cases h3;rw[jg3]at h4;have:=hv b h4;omega
   ·rename_i e;rw[n0 β n v (Ne.symm e)]at h4;exact h1 (.inr ⟨m,ob',h3,h4,h5⟩)
 have k:aI w (Mut C.M0 β S.H) w' (Mut C.M0 (upd β n v) ((n,ob)::S.H)):=
  ⟨λb o y h1 h2=>have hlt:=World.block_lt_of_cell? w ⟨b,o,none⟩ h2;⟨k0 b o hlt h1,(g.cell (p:=⟨b,o,none⟩) hlt).trans h2⟩,
   λb ob' _ h1 h2=>have hlt:=(Bw.1 h2).1;⟨λo=>k0 b o hlt (h1 o),(g.block b hlt).trans h2⟩⟩
 have hH:∀ m,m≠n->look m ((n,ob)::S.H)=look m S.H:=λm hm=>by rw[j6,Af (Ne.symm hm)]
 refine⟨h.size,h.small,(h.later g).defers,(h.later g).sys,λt x hl=>?_,λm ob' hl=>?_,λm m' b ob1 ob2 hne h1 h2 h3=>?_,λm ob' b hl hb'=>?_,λq cs hl=>(h.glob q cs hl).keep k,h.frame.grows g,λm ob' b o hl hb' hm=>?_,h.low,λm hm=>?_,λm hm=>?_⟩
 ·obtain⟨u,h1,h2⟩:=h.env t x hl;exact⟨u,h1,Dc.aD k (λm hm=>n0 β n v hm) hH x u (jh9 hn.1 hl) h2⟩
 ·have hl':=hl;dsimp only at hl';rw[j6]at hl';split at hl'
  ·rename_i e;subst e;cases hl';rw[jg3];exact hrep k
  ·rename_i e;rw[n0 β n v (Ne.symm e)];exact La.keep k (λb hb'=>g.block b (h.old hl' hb')) (λvs=>Cs.aD k (λm hm=>n0 β n v hm) hH _ vs (ja8 hn.2 hl').2) (h.obs m ob' hl')
 ·dsimp only at h1 h2;rw[j6]at h1 h2;split at h1
  ·rename_i e;subst e;rw[Af hne]at h2;rw[jg3]at h3;rw[n0 β n v (Ne.symm hne)];intro h4;have:=h.old h2 h4;have:=hv b h3;omega
  ·rename_i e;rw[n0 β n v (Ne.symm e)]at h3;split at h2
   ·rename_i e2;subst e2;rw[jg3];intro h4;have:=h.old h1 h3;have:=hv b h4;omega
   ·rename_i e2;rw[n0 β n v (Ne.symm e2)];exact h.apart m m' b ob1 ob2 hne h1 h2 h3
 ·dsimp only at hl;rw[j6]at hl;split at hl
  ·rename_i e;subst e;rw[jg3]at hb';exact .inr (Fe h.frame.size (hv b hb'))
  ·rename_i e;rw[n0 β n v (Ne.symm e)]at hb';exact h.place m ob' b hl hb'
 ·dsimp only at hl;rw[j6]at hl;split at hl
  ·rename_i e;subst e;rw[jg3]at hb';have:=hv b hb';have:=h.low b o hm;have:=h.frame.size;omega
  ·rename_i e;rw[n0 β n v (Ne.symm e)]at hb';exact h.out m ob' b o hl hb' hm
 ·have h1:=h.has m hm;have h2:m≠n:=by rintro rfl;rw[hnone]at h1;cases h1
  rw[n0 β n v h2];exact h.fix m hm
 ·dsimp only;rw[j6];split
  ·rfl
  ·exact h.has m hm
theorem StB.Ym {C:Ctx}{β β':Nat->Hd}{S:Sd}{a:Act}{w w':World}(h:StB C β S a w){n:Nat}{ob ob':Ob}(hl:look n S.H=some ob)
 (hβ:∀ m,m≠n->β' m=β m) (ho:w'.os=w.os) (ht:w'.tape=w.tape) (hu:w'.output=w.output) (hs:w.heap.size<=w'.heap.size)
 (hblk:∀ k,k<w.heap.size->¬own (β n) ob k->w'.heap[k]? =w.heap[k]?)
 (hnew:∀ b,own (β' n) ob' b->own (β n) ob b\/w.heap.size<=b)
 (hcell:∀ b o y,own (β n) ob b->¬ob.mut o->w.cell? ⟨b,o,none⟩=some y->w'.cell? ⟨b,o,none⟩=some y)
 (hmut:∀ b o,own (β n) ob b->own (β' n) ob' b->ob'.mut o->ob.mut o)
 (hV:aI w (Mut C.M0 β S.H) w' (Mut C.M0 β' ((n,ob')::S.H))->∀ t x v,look t S.env=some x->Dc w (Mut C.M0 β S.H) β S.H x v->Dc w' (Mut C.M0 β' ((n,ob')::S.H)) β' ((n,ob')::S.H) x v)
 (hfix:n∈C.N->(β' n).v=(β n).v)
 (hL:aI w (Mut C.M0 β S.H) w' (Mut C.M0 β' ((n,ob')::S.H))->∀ m ob2 vs,m≠n->look m S.H=some ob2->Cs w (Mut C.M0 β S.H) β S.H ob2.cells vs->Cs w' (Mut C.M0 β' ((n,ob')::S.H)) β' ((n,ob')::S.H) ob2.cells vs)
 (hrep:aI w (Mut C.M0 β S.H) w' (Mut C.M0 β' ((n,ob')::S.H))->La w' (Mut C.M0 β' ((n,ob')::S.H)) β' ((n,ob')::S.H) (β' n) ob'):
 StB C β' {S with H:=(n,ob')::S.H} a w':=by
 have k0:∀ b o,b<w.heap.size->¬Mut C.M0 β S.H b o->¬Mut C.M0 β' ((n,ob')::S.H) b o:=λb o hlt h1 hm=>by
  rcases hm with hm|⟨m,ob2,h3,h4,h5⟩
  ·exact h1 (.inl hm)
  ·rw[j6]at h3;split at h3
   ·rename_i e;subst e;cases h3;rcases hnew b h4 with h6|h6
    ·exact h1 (.inr ⟨n,ob,hl,h6,hmut b o h6 h4 h5⟩)
    ·omega
   ·rename_i e;rw[hβ m (Ne.symm e)]at h4;exact h1 (.inr ⟨m,ob2,h3,h4,h5⟩)
 have k:aI w (Mut C.M0 β S.H) w' (Mut C.M0 β' ((n,ob')::S.H)):=by
  refine⟨λb o y h1 h2=>?_,λb ob3 _ h1 h2=>?_⟩
  ·have hlt:b<w.heap.size:=World.block_lt_of_cell? w ⟨b,o,none⟩ h2;refine⟨k0 b o hlt h1,?_⟩;by_cases hbn:own (β n) ob b
   ·exact hcell b o y hbn (λhm=>h1 (.inr ⟨n,ob,hl,hbn,hm⟩)) h2
   ·rw[<-h2];exact World.cell?_of_block (hblk b hlt hbn)
  ·have hlt:=(Bw.1 h2).1;refine⟨λo=>k0 b o hlt (h1 o),?_⟩;by_cases hbn:own (β n) ob b
   ·obtain⟨o,h3⟩:=ob.Xx;exact absurd (.inr ⟨n,ob,hl,hbn,h3⟩) (h1 o)
   ·exact(hblk b hlt hbn).trans h2
 have hsys:∀ D o,w.heap[D]? =some o->rr7 o=true->w'.heap[D]? =some o:=λD o ho hs'=>
  (hblk D (Bw.1 ho).1 ((h.obs n ob hl).Xz ho hs')).trans ho
 obtain⟨Ds,hd1,hd2,hd3⟩:=h.defers;refine⟨h.size,h.small,⟨Ds,hd1,hd2,λD hD=>⟨hsys D _ (hd3 D hD).1 rfl,(hd3 D hD).2⟩⟩,λp hp=>⟨hsys _ _ (h.sys p hp).1 (h.sys p hp).2.1,(h.sys p hp).2⟩,λt x hx=>?_,λm ob2 hm=>?_,λm m' b ob1 ob2 hne h1 h2 h3=>?_,λm ob2 b hm hb'=>?_,λq cs hq=>(h.glob q cs hq).keep k,?_,λm ob2 b o hm hb' hM=>?_,h.low,λm hm=>?_,λm hm=>?_⟩
 ·obtain⟨u,h1,h2⟩:=h.env t x hx;exact⟨u,h1,hV k t x u hx h2⟩
 ·dsimp only at hm;rw[j6]at hm;split at hm
  ·rename_i e;subst e;cases hm;exact hrep k
  ·rename_i e;rw[hβ m (Ne.symm e)];exact La.keep (ob:=ob2) k (λb hb'=>hblk b (h.old hm hb') (λh2=>h.apart n m b ob ob2 e hl hm h2 hb')) (λvs=>hL k m ob2 vs (Ne.symm e) hm) (h.obs m ob2 hm)
 ·dsimp only at h1 h2;rw[j6]at h1 h2;split at h1
  ·rename_i e;subst e;cases h1;rw[Af hne]at h2;rw[hβ m' (Ne.symm hne)];rcases hnew b h3 with h4|h4
   ·exact h.apart n m' b ob ob2 hne hl h2 h4
   ·intro h5;have:=h.old h2 h5;omega
  ·rename_i e;rw[hβ m (Ne.symm e)]at h3;split at h2
   ·rename_i e2;subst e2;cases h2;intro h5;rcases hnew b h5 with h4|h4
    ·exact h.apart n m b ob ob1 e hl h1 h4 h3
    ·have:=h.old h1 h3;omega
   ·rename_i e2;rw[hβ m' (Ne.symm e2)];exact h.apart m m' b ob1 ob2 hne h1 h2 h3
 ·dsimp only at hm;rw[j6]at hm;split at hm
  ·rename_i e;subst e;cases hm;rcases hnew b hb' with h4|h4
   ·exact h.place n ob b hl h4
   ·exact .inr (Fe h.frame.size h4)
  ·rename_i e;rw[hβ m (Ne.symm e)]at hb';exact h.place m ob2 b hm hb'
 ·refine⟨ho.trans h.frame.os,ht.trans h.frame.tape,hu.trans h.frame.output,Fe h.frame.size hs,λi hi he=>?_⟩;have hlt:i<w.heap.size:=Nat.lt_of_lt_of_le hi h.frame.size;by_cases hbn:own (β n) ob i
  ·rcases h.place n ob i hl hbn with h4|h4
   ·exact absurd h4 he
   ·omega
  ·exact(hblk i hlt hbn).trans (h.frame.block i hi he)
 ·dsimp only at hm;rw[j6]at hm;split at hm
  ·rename_i e;subst e;cases hm;rcases hnew b hb' with h4|h4
   ·exact h.out n ob b o hl h4 hM
   ·have:=h.low b o hM;have:=h.frame.size;omega
  ·rename_i e;rw[hβ m (Ne.symm e)]at hb';exact h.out m ob2 b o hm hb' hM
 ·by_cases e:m=n
  ·subst e;rw[hfix hm];exact h.fix m hm
  ·rw[hβ m e];exact h.fix m hm
 ·dsimp only;rw[j6];split
  ·rfl
  ·exact h.has m hm
theorem StB.turn {C:Ctx}{β β':Nat->Hd}{S:Sd}{a:Act}{w w':World}(h:StB C β S a w){n:Nat}{ob ob':Ob}(hl:look n S.H=some ob)
 (hβ:∀ m,m≠n->β' m=β m) (ho:w'.os=w.os) (ht:w'.tape=w.tape) (hu:w'.output=w.output) (hs:w.heap.size<=w'.heap.size)
 (hblk:∀ k,k<w.heap.size->hb (β n).v≠some k->w'.heap[k]? =w.heap[k]?)
 (hnew:∀ b,hb (β' n).v=some b->hb (β n).v=some b\/w.heap.size<=b)
 (hcell:∀ b o y,hb (β n).v=some b->¬ob.mut o->w.cell? ⟨b,o,none⟩=some y->w'.cell? ⟨b,o,none⟩=some y)
 (hmut:∀ b o,hb (β n).v=some b->hb (β' n).v=some b->ob'.mut o->ob.mut o)
 (hV:aI w (Mut C.M0 β S.H) w' (Mut C.M0 β' ((n,ob')::S.H))->∀ t x v,look t S.env=some x->Dc w (Mut C.M0 β S.H) β S.H x v->Dc w' (Mut C.M0 β' ((n,ob')::S.H)) β' ((n,ob')::S.H) x v)
 (hfix:n∈C.N->(β' n).v=(β n).v)
 (hL:aI w (Mut C.M0 β S.H) w' (Mut C.M0 β' ((n,ob')::S.H))->∀ m ob2 vs,m≠n->look m S.H=some ob2->Cs w (Mut C.M0 β S.H) β S.H ob2.cells vs->Cs w' (Mut C.M0 β' ((n,ob')::S.H)) β' ((n,ob')::S.H) ob2.cells vs)
 (hrep:aI w (Mut C.M0 β S.H) w' (Mut C.M0 β' ((n,ob')::S.H))->La w' (Mut C.M0 β' ((n,ob')::S.H)) β' ((n,ob')::S.H) (β' n) ob') (hd:ob.deep=false:=by rfl) (hd':ob'.deep=false:=by rfl):
 StB C β' {S with H:=(n,ob')::S.H} a w':=
 h.Ym hl hβ ho ht hu hs (λk h1 h2=>hblk k h1 (λh3=>h2 (.inl h3))) (λb h1=>by rw[z8 hd']at h1;rw[z8 hd];exact hnew b h1)
  (λb o y h1=>hcell b o y ((z8 hd).1 h1)) (λb o h1 h2=>hmut b o ((z8 hd).1 h1) ((z8 hd').1 h2)) hV hfix hL hrep
theorem n3 {n:Nat}{ob:Ob}{H:List (Nat × Ob)}(m:Nat):look m ((n,ob)::H)=if n=m then some ob else look m H:=j6 m n ob H
theorem StB.share {C:Ctx}{β:Nat->Hd}{S:Sd}{a:Act}{w:World}(h:StB C β S a w){n e sz k:Nat}{sh:Bool}{xs:List D}(hl:look n S.H=some (.row e sz sh xs k)):
 StB C β {S with H:=(n,.row e sz true xs k)::S.H} a w:=by
 have hH:∀ m e' sz' sh' xs' k',look m ((n,Ob.row e sz true xs k)::S.H)=some (.row e' sz' sh' xs' k')->∃ sh' xs',look m S.H=some (.row e' sz' sh' xs' k'):=λm e' sz' sh' xs' k' hm=>by
  rw[n3]at hm;split at hm
  ·rename_i e;subst e;cases hm;exact⟨sh,xs,hl⟩
  ·exact⟨sh',xs',hm⟩
 refine h.turn hl (λ_ _=>rfl) rfl rfl rfl (Ap _) (λ_ _ _=>rfl) (λb h=>.inl h) (λ_ _ _ _ _ h=>h) (λb o _ _ h=>?_)
  (λk t x v _=>Dc.keep k (λ_=>rfl) hH x v) (λ_=>rfl) (λk m cs vs _ _=>Cs.keep k (λ_=>rfl) hH _ vs) (λk=>?_)
 ·rcases h with h|h
  ·cases h
  ·exact .inr h
 ·obtain⟨ys,h1,h2⟩:=h.obs n _ hl;exact⟨ys,h1,Gb.keep k _ _ _ h2⟩
mutual
def V.top:V->Nat
 |.own _ k=>k+1
 |.el _ k _ _=>k+1
 |.suf _ k _=>k+1
 |.win _ k _ _=>k+1
 |.clo _ f c=>max (re8 f) (re8 c)
 |.tup vs=>re8 vs
 |.agg vs=>re8 vs
 |.ifc _ x=>x.top
 |_=>0
def re8:List V->Nat
 |[]=>0
 |v::r=>max v.top (re8 r)
end
def ro5:List (Nat × V)->Nat
 |[]=>0
 |(_,v)::r=>max v.top (ro5 r)
def ro6:List (Nat × Ob)->Nat
 |[]=>0
 |(_,ob)::r=>max (re8 ob.cells) (ro6 r)
theorem kj5 {t:Nat}:∀ {l:List (Nat × V)} {v:V},look t l=some v->v.top<=ro5 l
 |[],_,h=>by simp[look]at h
 |(s,u)::r,v,h=>by
  rw[j6]at h;simp only[ro5];split at h
  ·cases h;omega
  ·have:=kj5 h;omega
theorem kj6 {t:Nat}:∀ {l:List (Nat × Ob)} {ob:Ob},look t l=some ob->re8 ob.cells<=ro6 l
 |[],_,h=>by simp[look]at h
 |(s,u)::r,ob,h=>by
  rw[j6]at h;simp only[ro6];split at h
  ·cases h;omega
  ·have:=kj6 h;omega
mutual
theorem Dc.bump {w w':World}{M M':Nat->Nat->Prop}{β β':Nat->Hd}{H H':List (Nat × Ob)}{q top:Nat}(k:aI w M w' M')(hβ:∀ n,n≠q->β' n=β n)(hsl:(∃ a n c,(β q).v=.slice a n c))
 (hH:∀ n,n≠q->look n H'=look n H) (hq:∀ e sz sh xs k,look q H'=some (.row e sz sh xs k)->top<=k):
 ∀ (x:V) (v:Value),x.top<=top->Dc w M β H x v->Dc w' M' β' H' x v
 |.d x,v,_,h=>Gv.keep k x v h
 |.own n q',v,hs,h=>λe sz sh xs hl=>by
  by_cases hn:n=q
  ·subst hn;have:=hq e sz sh xs q' hl;simp only[V.top]at hs;omega
  ·rw[hH n hn]at hl;rw[hβ n hn];exact h e sz sh xs hl
 |.nils _,_,_,h=>h
 |.zc,_,_,h=>h
 |.ptr n off,_,_,h=>by
  simp only[Dc]at h ⊢;by_cases hn:n=q
  ·subst hn;obtain⟨a,m,c,e⟩:=hsl;obtain⟨b,h1,_⟩:=h;rw[e]at h1;cases h1
  ·rw[hβ n hn];exact h
 |.sl n off _ _,_,_,h=>by
  simp only[Dc]at h ⊢;by_cases hn:n=q
  ·subst hn;obtain⟨a,m,c,e⟩:=hsl;obtain⟨b,h1,_⟩:=h;rw[e]at h1;cases h1
  ·rw[hβ n hn];exact h
 |.el n q' i off,v,hs,h=>λe sz sh xs hl=>by
  by_cases hn:n=q
  ·subst hn;have:=hq e sz sh xs q' hl;simp only[V.top]at hs;omega
  ·rw[hH n hn]at hl;rw[hβ n hn];exact h e sz sh xs hl
 |.suf n q' p,v,hs,h=>λe sz sh xs hl=>by
  by_cases hn:n=q
  ·subst hn;have:=hq e sz sh xs q' hl;simp only[V.top]at hs;omega
  ·rw[hH n hn]at hl;rw[hβ n hn];exact h e sz sh xs hl
 |.win n q' p m,v,hs,h=>λe sz sh xs hl=>by
  by_cases hn:n=q
  ·subst hn;have:=hq e sz sh xs q' hl;simp only[V.top]at hs;omega
  ·rw[hH n hn]at hl;rw[hβ n hn];exact h e sz sh xs hl
 |.map n,_,_,h=>by
  simp only[Dc]at h ⊢;by_cases hn:n=q
  ·subst hn;obtain⟨a,m,c,e⟩:=hsl;obtain⟨b,h1,_⟩:=h;rw[e]at h1;cases h1
  ·rw[hβ n hn];exact h
 |.clo _ f c,_,hs,⟨fs,gs,h1,h2,h3⟩=>by
  simp only[V.top]at hs;exact⟨fs,gs,h1,Cs.bump k hβ hsl hH hq f fs (by omega) h2,Cs.bump k hβ hsl hH hq c gs (by omega) h3⟩
 |.tup vs,_,hs,⟨us,h1,h2⟩=>⟨us,h1,Cs.bump k hβ hsl hH hq vs us (by simpa only[V.top]using hs) h2⟩
 |.agg vs,_,hs,⟨us,h1,h0,h2⟩=>⟨us,h1,h0,Cs.bump k hβ hsl hH hq vs us (by simpa only[V.top]using hs) h2⟩
 |.ifc _ x,_,hs,⟨u,h1,h2⟩=>⟨u,h1,Dc.bump k hβ hsl hH hq x u (by simpa only[V.top]using hs) h2⟩
 |.bsl n off _,_,_,h=>by
  simp only[Dc]at h ⊢;by_cases hn:n=q
  ·subst hn;obtain⟨a,m,c,e⟩:=hsl;obtain⟨b,_,h1,_⟩:=h;rw[e]at h1;cases h1
  ·rw[hβ n hn];exact h
theorem Cs.bump {w w':World}{M M':Nat->Nat->Prop}{β β':Nat->Hd}{H H':List (Nat × Ob)}{q top:Nat}(k:aI w M w' M')(hβ:∀ n,n≠q->β' n=β n)(hsl:(∃ a n c,(β q).v=.slice a n c))
 (hH:∀ n,n≠q->look n H'=look n H) (hq:∀ e sz sh xs k,look q H'=some (.row e sz sh xs k)->top<=k):
 ∀ (xs:List V) (vs:List Value),re8 xs<=top->Cs w M β H xs vs->Cs w' M' β' H' xs vs
 |[],_,_,h=>h
 |x::xs,_,hs,⟨v,r,h1,h2,h3⟩=>by
  simp only[re8]at hs;exact⟨v,r,h1,Dc.bump k hβ hsl hH hq x v (by omega) h2,Cs.bump k hβ hsl hH hq xs r (by omega) h3⟩
end
end
section
theorem ql3 {P:Program}(w:World){t ty e:TypeId}{size bytes:Nat}(he:ve2 P t e size bytes){v:Value}{n:Nat}{xs:List Value}(hown:w.ownsRow 0 e size v n xs)
 {xa:Option Addr} {m xc:Nat} {news:List Value} (hl:news.length=m * size) (hrd:∀ j u,news[j]? =some u->∃ b o,xa=some ⟨b,o,none⟩/\w.cell? ⟨b,o+j,none⟩=some u) (hnil:xa=none->xc=0) (hmc:m<=xc)
 (h1:∀ u∈news,u.oneCell'=true) (h63:n+m<=100000000000) (hby:bytes<=1024):
 ∃ v' w',(Builtin.append_ #[t,t] ty #[v,.slice xa m xc]).run P w=.ok v' w'/\w'.ownsRow 0 e size v' (n+m) (xs++news)/\
   ((v'.ownBlock=v.ownBlock/\w.grownBy w' v.ownBlock)\/((∀ b,v'.ownBlock=some b->w.heap.size<=b)/\w.grownBy w' none)):=by
 obtain⟨i,z,ht,hi,hz,hsize,hbytes,hzs,hpos⟩:=he;have hbound:(n+m) * bytes<=140737488355328:=Fe (Nat.mul_le_mul h63 hby) (by omega);have hmax:n+m<=maxLen:=by unfold maxLen;omega
 cases xa with
 |none=>
  have hc0:=hnil rfl;have hm0:m=0:=by omega
  subst hm0;subst hc0;have hn0:news=[]:=Bg (by omega);subst hn0;have hrun:=run_append_owned_none (P:=P) (w:=w) 0 t ty e i size ht hi v n xs hown;exact⟨v,w,hrun,by simpa using hown,.inl ⟨rfl,rfl,rfl,rfl,Ap _,λ_ _ _=>rfl⟩⟩
 |some ad=>
  have hnews:∀ j u,news[j]? =some u->w.cell? (ad.add j)=some u:=by
   intro j u hu;obtain⟨b,o',e',hc⟩:=hrd j u hu;cases e';have ha:(⟨b,o',none⟩:Addr).add j=⟨b,o'+j,none⟩:=by unfold Addr.add;split<;>simp_all
   rw[ha];exact hc
  rcases hown.2 with ⟨rfl,rfl⟩|⟨g,cap,cur,rfl,hbg,hg,hnc,hcm,hcs,htake⟩
  ·obtain⟨v',w',hr,h2,h3,h4,h5⟩:=run_append_own_at (P:=P) w 0 t ty e i z size bytes ht hi hz hsize hbytes hzs hpos _ 0 xs hown ad m xc news hl hnews h1 hmax hbound (Ak _);refine⟨v',w',hr,h2,.inr ⟨λb hb'=>?_,h3⟩⟩;rcases h5 with h5|h5
   ·rw[h5]at hb';cases hb'
   ·rw[h5]at hb';cases hb';exact Ap _
  ·by_cases hroom:n+m<=cap
   ·obtain⟨w',hr,h2,h3⟩:=run_append_fits (P:=P) w 0 t ty e i size ht hi hsize g n cap xs hown ad m xc news hl hnews h1 hroom;exact⟨_,w',hr,h2,.inl ⟨rfl,h3⟩⟩
   ·obtain⟨v',w',hr,h2,h3⟩:=run_append_arg_grows (P:=P) w t ty e i z size bytes ht hi hz hsize hbytes hzs hpos ⟨g,0,none⟩ n cap xs hown.1
     (λj u hu=>hown.cells (g:=g) (by simp[Value.ownBlock]) j u hu) ad m xc news hl hnews (by omega) hmax hbound
    exact⟨v',w',hr,md2 h2 (Ak _),.inr ⟨λb hb'=>(h2.lt b hb').1,h3⟩⟩
theorem ql4 {w:World}{base:Nat}{e:TypeId}{size:Nat}{v:Value}{n:Nat}{xs:List Value}(h:w.ownsRow base e size v n xs):hb v=v.ownBlock:=by
 rcases h.2 with ⟨rfl,_⟩|⟨g,cap,cur,rfl,_⟩<;>rfl
theorem re9 {w:World}{e:TypeId}{size:Nat}{v:Value}{n:Nat}{xs:List Value}(h:w.ownsRow 0 e size v n xs){b:Nat}(hv:v.ownBlock=some b){o:Nat}{y:Value}(ho:o<n * size)(hc:w.cell? ⟨b,o,none⟩=some y):xs[o]? =some y:=by
 have hlt:o<xs.length:=by rw[h.1];exact ho
 have:=h.cells (g:=b) hv o xs[o] (by simp[hlt]);have ha:(⟨b,0,none⟩:Addr).add o=⟨b,o,none⟩:=by unfold Addr.add;split<;>simp_all
 rw[ha,hc]at this;cases this;simp[hlt]
theorem StB.append {C:Ctx}{β:Nat->Hd}{S:Sd}{a:Act}{w w':World}(h:StB C β S a w){n e sz k:Nat}{sh:Bool}{xs:List D}(hl:look n S.H=some (.row e sz sh xs k)){old news:List Value}{zs:List D}
 (hold:w.ownsRow 0 e sz (β n).v xs.length old) (hxs:Gb w (Mut C.M0 β S.H) sz xs old) (hzs:Gb w (Mut C.M0 β S.H) sz zs news) {v':Value}
 (hown:w'.ownsRow 0 e sz v' (xs.length+zs.length) (old++news))
 (hw:(v'.ownBlock=(β n).v.ownBlock/\w.grownBy w' (β n).v.ownBlock)\/((∀ b,v'.ownBlock=some b->w.heap.size<=b)/\w.grownBy w' none)) (k':Nat) (hk:max (ro5 S.env) (ro6 S.H)<=k') (hN:C.N.contains n=false):
 StB C (upd β n v') {S with H:=(n,.row e sz sh (xs++zs) k')::S.H} a w':=by
 have hbo:=ql4 hold;have hbn:=ql4 hown;have hg:w.grownBy w' (β n).v.ownBlock:=by
  rcases hw with ⟨_,h1⟩|⟨_,h1⟩
  ·exact h1
  ·exact⟨h1.os,h1.tape,h1.output,h1.size,λk hk _=>h1.block k hk (by simp)⟩
 have hsl:∃ a n' c,(upd β n v' n).v=.slice a n' c:=by
  rw[jg3];obtain⟨a,c,e,_⟩:=jd9 hown;exact⟨a,_,c,e⟩
 have hsl0:∃ a n' c,(β n).v=.slice a n' c:=by
  obtain⟨a,c,e,_⟩:=jd9 hold;exact⟨a,_,c,e⟩
 have hH:∀ m,m≠n->look m ((n,Ob.row e sz sh (xs++zs) k')::S.H)=look m S.H:=λm hm=>by rw[n3,Af (Ne.symm hm)]
 have hq:∀ e' sz' sh' xs' k'',look n ((n,Ob.row e sz sh (xs++zs) k')::S.H)=some (.row e' sz' sh' xs' k'')->max (ro5 S.env) (ro6 S.H)<=k'':=λe' sz' sh' xs' k'' h1=>by
  rw[n3,Ad rfl]at h1;cases h1;exact hk
 refine h.turn hl (λm hm=>n0 β n v' hm) hg.os hg.tape hg.output hg.size (λq hq hne=>hg.block q hq (λe=>hne (by rw[hbo,<-e]))) (λb hb'=>?_) (λb o y hb' hm hc=>?_) (λb o h1 h2 h3=>?_)
  (λkp t x v hx hv=>Dc.bump kp (λm hm=>n0 β n v' hm) hsl0 hH hq x v (by have:=kj5 hx;omega) hv)
  (λhm=>absurd hm (by simpa using hN))
  (λkp m cs vs _ hm hv=>Cs.bump kp (λm hm=>n0 β n v' hm) hsl0 hH hq _ vs (by have:=kj6 hm;omega) hv) (λkp=>?_)
 ·rw[jg3,hbn]at hb';rcases hw with ⟨h1,_⟩|⟨h1,_⟩
  ·exact .inl (by rw[hbo,<-h1,hb'])
  ·exact .inr (h1 b hb')
 ·have ho:o<xs.length * sz:=by
   simp only[Ob.mut,not_or,Nat.not_le]at hm;exact hm.2
  rcases hw with ⟨h1,h2⟩|⟨h1,h2⟩
  ·have hy:=re9 hold (hbo ▸ hb') ho hc;have hlt:o<old.length:=by rw[hold.1];exact ho
   have:=hown.cells (g:=b) (by rw[h1,<-hbo];exact hb') o y (by rw[En hlt];exact hy);have ha:(⟨b,0,none⟩:Addr).add o=⟨b,o,none⟩:=by unfold Addr.add;split<;>simp_all
   rwa [ha]at this
  ·rw[<-hc];exact World.cell?_of_block (h2.block b (h.old hl (.inl hb')) (by simp))
 ·rcases h3 with h3|h3
  ·exact .inl h3
  ·refine .inr (Fe ?_ h3);rw[Ag,Fa];omega
 ·rw[jg3];exact⟨old++news,by rw[Ag];exact hown,(Gb.keep kp _ _ _ hxs).append (Gb.keep kp _ _ _ hzs)⟩
end
section
section
variable {P:Program}{ops:Array Oper}{Q:Exit->Act->World->Prop}{md:Region.Mode}
def Ll (P:Program)(ops:Array Oper)(J:World->Prop)(o:Oper)(v:Value)(a:Act):Prop:=
 (Region.wanted o (yielded ops a.tmps)=true/\∀ w',J w'->(execOp a.eval o).run P w'=.ok (.value v) w')\/
 (Region.wanted o (yielded ops a.tmps)=false/\v=undef)
theorem Ll.of_same {J:World->Prop}{o:Oper}{v:Value}{a a':Act}(hy:Ll P ops J o v a)(he:execOp a'.eval o=execOp a.eval o)
 (hw:Region.wanted o (yielded ops a'.tmps)=Region.wanted o (yielded ops a.tmps)):Ll P ops J o v a':=by
 unfold Ll at *;rw[he,hw];exact hy
theorem Ll.opG {J:World->Prop}{i:Nat}{o:Oper}{v:Value}{a:Act}{w':World}(hi:ops[i]? =some o)(hy:Ll P ops J o v a)(hJ:J w'){K:Act->World->Prop}(h:K (a.put o.dst v) w'):opG P ops Q i K a w':=by
 unfold Go.Proofs.YtklklgfpkpglgaaGreatDoor.opG;simp only[hi];rcases hy with ⟨hw,hv⟩|⟨hw,rfl⟩
 ·rw[Ad hw];unfold Oper.wp;rw[hv w' hJ];exact h
 ·rw[Af (by rw[hw];decide)];exact h
theorem rv9 {J:World->Prop}{j:Nat}{oi oj:Oper}{v:Value}(hj:ops[j]? =some oj)(hap:oi.apart ops oj=true)
 (hsi:∀ cs b,oi.op≠.select cs b) (hsj:∀ cs b,oj.op≠.select cs b)
 (hQ:∀ c a w,Q (.panic c) (a.put oi.dst v) w->Q (.panic c) a w) {K:Act->World->Prop} {a:Act} {w:World}
 (hy:Ll P ops J oi v a) (h:opG P ops Q j K (a.put oi.dst v) w):
 opG P ops Q j (λa' w'=>Ll P ops J oi v a'/\K (a'.put oi.dst v) w') a w:=by
 obtain⟨h1,h2,h3⟩:=Oper.apart_spec hap;have keep:∀ (b:Act),Ll P ops J oi v b->∀ u,Ll P ops J oi v (b.put oj.dst u):=λb hb u=>
  hb.of_same (execOp_put oi hsi b oj.dst u h3) (wanted_put oi b oj.dst u h3)
 unfold opG at *;simp only[hj]at *;rw[wanted_put oj a oi.dst v h1]at h;split
 ·rename_i hw;rw[Ad hw]at h;unfold Oper.wp at *;rw[execOp_put oj hsj a oi.dst v h1]at h;generalize (execOp a.eval oj).run P w=r at *;cases r with
  |ok x w'=>
   cases x<;>simp only[Oper.upon]at h ⊢
   case value u=>exact⟨keep a hy u,by rw[<-Act.put_comm a v u h2];exact h⟩
   case skip=>exact⟨keep a hy _,by rw[<-Act.put_comm a v undef h2];exact h⟩
   case defer d=>
    refine⟨keep {a with defers:=d::a.defers} (hy.of_same rfl rfl) _,?_⟩;rw[<-Act.put_comm _ v undef h2,<-Act.put_defers];exact h
   case enter f args=>
    refine Calls.mono h λe w'' he=>?_;cases e with
    |returned u=>exact⟨keep a hy u,by rw[<-Act.put_comm a v u h2];exact he⟩
    |panicked c=>exact hQ _ _ _ he
    |outgrown=>exact he
   case row row args=>exact Rows.mono h λu w'' he=>⟨keep a hy u,by rw[<-Act.put_comm a v u h2];exact he⟩
  |halt x w'=>
   cases x<;>simp only[Oper.upon]at h ⊢
   case panic u=>exact hQ _ _ _ h
 ·rename_i hw;rw[Af hw]at h;exact⟨keep a hy _,by rw[<-Act.put_comm a v undef h2];exact h⟩
def Ms (P:Program)(md:Region.Mode)(ops:Array Oper)(Q:Exit->Act->World->Prop)(bar:Nat->Bool)(J:World->Prop):Nat->Array Bool->Act->World->Prop
 |0,listed,a,w=>∀ w',aG w w'->Region.ready md ops listed=[]/\Q .normal a w'
 |f+1,listed,a,w=>∀ w',aG w w'->(Region.ready md ops listed=[]->Q .normal a w')/\
   ∀ i∈Region.ready md ops listed,opG P ops Q i (λa' w''=>(bar i=false->aG w' w'')/\J w''/\Ms P md ops Q bar J f (listed.setIfInBounds i true) a' w'') a w'
theorem Ms.up {bar:Nat->Bool}{J:World->Prop}{f:Nat}{listed:Array Bool}{a:Act}{w w':World}(h:Ms P md ops Q bar J f listed a w)(hg:aG w w'):Ms P md ops Q bar J f listed a w':=by
 cases f with
 |zero=>exact λw2 h2=>h w2 (hg.trans h2)
 |succ f=>exact λw2 h2=>h w2 (hg.trans h2)
theorem Ms.mono {bar:Nat->Bool}{J J':World->Prop}(hJ:∀ w,J w->J' w):∀ (f:Nat) (listed:Array Bool) (a:Act) (w:World),Ms P md ops Q bar J f listed a w->Ms P md ops Q bar J' f listed a w
 |0,_,_,_,h=>h
 |f+1,_,_,_,h=>λw' hg=>⟨(h w' hg).1,λi hi=>jr2 (λ_ _ h3=>⟨h3.1,hJ _ h3.2.1,Ms.mono hJ f _ _ _ h3.2.2⟩) ((h w' hg).2 i hi)⟩
theorem Ms.any {bar:Nat->Bool}{J:World->Prop}:∀ (f:Nat) (listed:Array Bool) (a:Act) (w:World),Ms P md ops Q bar J f listed a w->AnyG P md ops Q bar f listed a w
 |0,_,_,_,h=>h
 |f+1,_,_,_,h=>λw' hg=>⟨(h w' hg).1,λi hi=>jr2 (λ_ _ h3=>⟨h3.1,Ms.any f _ _ _ h3.2.2⟩) ((h w' hg).2 i hi)⟩
theorem Ms.first {bar:Nat->Bool}{J J':World->Prop}(sJ:∀ w w',aG w w'->J w->J w')(sJ':∀ w w',aG w w'->J' w->J' w'){i:Nat}{oi:Oper}{v:Value}(hi:ops[i]? =some oi)(hsel:∀ (j:Nat) (o:Oper) cs b,ops[j]? =some o->o.op≠.select cs b)
 (hQ:∀ c a w,Q (.panic c) (a.put oi.dst v) w->Q (.panic c) a w):
 ∀ (f:Nat) (listed:Array Bool) (a:Act) (w:World),
   (∀ j oj,ops[j]? =some oj->j≠i->listed.getD j true=false->(∀ e∈oj.after,Region.binds md e=true->e.on≠i)->oi.apart ops oj=true)->
   i∈Region.ready md ops listed->Ll P ops J' oi v a->J w->J' w->
   Ms P md ops Q bar (λw=>J w/\J' w) f (listed.setIfInBounds i true) (a.put oi.dst v) w->Ms P md ops Q bar J (f+1) listed a w:=by
 intro f
 induction f with
 |zero=>
  intro listed a w _ hr hy hJ hJ' H w' hg;refine⟨λh=>(by rw[h]at hr;cases hr),λj hj=>?_⟩;by_cases hji:j=i
  ·subst hji;exact hy.opG hi (sJ' _ _ hg hJ') ⟨λ_=>aG.refl _,sJ _ _ hg hJ,(Ms.mono (λ_ h=>h.1) _ _ _ _ H).up hg⟩
  ·have:=ready_mono hj hji;rw[(H w' hg).1]at this;cases this
 |succ f ih=>
  intro listed a w hfree hr hy hJ hJ' H w' hg;refine⟨λh=>(by rw[h]at hr;cases hr),λj hj=>?_⟩;by_cases hji:j=i
  ·subst hji;exact hy.opG hi (sJ' _ _ hg hJ') ⟨λ_=>aG.refl _,sJ _ _ hg hJ,(Ms.mono (λ_ h=>h.1) _ _ _ _ H).up hg⟩
  ·obtain⟨hjun,oj,hoj,hall⟩:=mem_ready.1 hj;have hnot:∀ e∈oj.after,Region.binds md e=true->e.on≠i:=λe he hb heq=>by
    have h1:=hall e he hb;have h0:=(mem_ready.1 hr).1;rw[heq]at h1;rcases Ai i listed.size with h'|h'
    ·simp[h']at h0 h1;rw[h0]at h1;cases h1
    ·simp[Array.getElem?_eq_none h']at h1
   have h1:=(H w' hg).2 j (ready_mono hj hji);have h2:=rv9 hoj (hfree j oj hoj hji hjun hnot) (λcs b=>hsel i oi cs b hi) (λcs b=>hsel j oj cs b hoj) hQ hy h1;have hfree':∀ k ok,ops[k]? =some ok->k≠i->(listed.setIfInBounds j true).getD k true=false->
    (∀ e∈ok.after,Region.binds md e=true->e.on≠i)->oi.apart ops ok=true:=λk ok hk hki hun hno=>by
    refine hfree k ok hk hki ?_ hno;by_cases hjk:j=k
    ·subst hjk;exact hjun
    ·rw[getD_set_ne true hjk]at hun;exact hun
   refine jr2 (λa' w'' h3=>⟨h3.2.1,h3.2.2.1.1,ih (listed.setIfInBounds j true) a' w'' hfree' (ready_mono hr (Ne.symm hji)) h3.1 h3.2.2.1.1 h3.2.2.1.2 ?_⟩) h2;rw[Array.setIfInBounds_comm _ _ hji];exact h3.2.2.2
inductive TW where
 |pure
 |firm
 |keep
def jo9 (P:Program)(ops:Array Oper)(Q:Exit->Act->World->Prop):(World->Prop)->List (Oper × TW)->Act->World->Prop
 |_,[],a,w=>∀ n:Late w,Q .normal a n.w
 |J,(o,.pure)::rest,a,w=>
  if Region.wanted o (yielded ops a.tmps)=true then ∃ v,(∀ w',(execOp a.eval o).run P w'=.ok (.value v) w')/\jo9 P ops Q J rest (a.put o.dst v) w
  else jo9 P ops Q J rest (a.put o.dst undef) w
 |J,(o,.firm)::rest,a,w=>
  if Region.wanted o (yielded ops a.tmps)=true then ∃ (v:Value) (J':World->Prop),(∀ w w',aG w w'->J' w->J' w')/\J' w/\(∀ w',J' w'->(execOp a.eval o).run P w'=.ok (.value v) w')/\jo9 P ops Q (λw=>J w/\J' w) rest (a.put o.dst v) w
  else jo9 P ops Q J rest (a.put o.dst undef) w
 |J,(o,.keep)::rest,a,w=>∀ n:Late w,
  if Region.wanted o (yielded ops a.tmps)=true then o.wp P a n.w (λa' w'=>J w'/\jo9 P ops Q J rest a' w') Q else jo9 P ops Q J rest (a.put o.dst undef) n.w
def jw7 (md:Region.Mode)(ops:Array Oper)(bars:List Nat):Array Bool->List (Nat × TW)->Bool
 |listed,[]=>(Region.ready md ops listed).isEmpty
 |listed,(i,.pure)::rest=>(Region.ready md ops listed).contains i && Region.free md ops listed i && jw7 md ops bars (listed.setIfInBounds i true) rest
 |listed,(i,.firm)::rest=>(Region.ready md ops listed).contains i && Region.free md ops listed i && jw7 md ops bars (listed.setIfInBounds i true) rest
 |listed,(i,.keep)::rest=>(Region.ready md ops listed == [i]) && bars.contains i && jw7 md ops bars (listed.setIfInBounds i true) rest
def jp0 (ops:Array Oper):List (Nat × TW)->List (Oper × TW)
 |[]=>[]
 |(i,x)::rest=>match ops[i]? with
  |some o=>(o,x)::jp0 ops rest
  |none=>[]
theorem jb8 (hs:Region.noSelect ops=true)(hQ:∀ c (a:Act) d v w,Q (.panic c) (a.put d v) w->Q (.panic c) a w){bars:List Nat}:
 ∀ (l:List (Nat × TW)) (J:World->Prop) (listed:Array Bool) (a:Act) (w:World),(∀ w w',aG w w'->J w->J w')->J w->jw7 md ops bars listed l=true->jo9 P ops Q J (jp0 ops l) a w->
   Ms P md ops Q (λj=>bars.contains j) J l.length listed a w
 |[],J,listed,a,w,_,_,h0,h=>λw' hg=>⟨by simpa [jw7]using h0,h ⟨w',hg⟩⟩
 |(i,.pure)::rest,J,listed,a,w,sJ,hJ,h0,h=>by
  simp only[jw7,Aa]at h0;obtain⟨⟨hr,hf⟩,h0⟩:=h0;have hr:i∈Region.ready md ops listed:=by simpa using hr
  obtain⟨_,o,ho,_⟩:=mem_ready.1 hr;simp only[jp0,ho,jo9]at h;have sT:∀ w w',aG w w'->(λ_:World=>True) w->(λ_:World=>True) w':=λ_ _ _ _=>trivial;by_cases hw:Region.wanted o (yielded ops a.tmps)=true
  ·rw[Ad hw]at h;obtain⟨v,hv,h⟩:=h;exact Ms.first sJ sT ho (Region.noSelect_spec hs) (λc a w=>hQ c a o.dst v w) _ listed a w (Region.free_spec ho hf) hr (.inl ⟨hw,λw' _=>hv w'⟩) hJ trivial
    (Ms.mono (λ_ h=>⟨h,trivial⟩) _ _ _ _ (jb8 hs hQ rest J _ _ w sJ hJ h0 h))
  ·rw[Af hw]at h;exact Ms.first sJ sT ho (Region.noSelect_spec hs) (λc a w=>hQ c a o.dst undef w) _ listed a w (Region.free_spec ho hf) hr (.inr ⟨by simpa using hw,rfl⟩) hJ trivial
    (Ms.mono (λ_ h=>⟨h,trivial⟩) _ _ _ _ (jb8 hs hQ rest J _ _ w sJ hJ h0 h))
 |(i,.firm)::rest,J,listed,a,w,sJ,hJ,h0,h=>by
  simp only[jw7,Aa]at h0;obtain⟨⟨hr,hf⟩,h0⟩:=h0;have hr:i∈Region.ready md ops listed:=by simpa using hr
  obtain⟨_,o,ho,_⟩:=mem_ready.1 hr;simp only[jp0,ho,jo9]at h;by_cases hw:Region.wanted o (yielded ops a.tmps)=true
  ·rw[Ad hw]at h;obtain⟨v,J',sJ',hJ',hv,h⟩:=h;exact Ms.first sJ sJ' ho (Region.noSelect_spec hs) (λc a w=>hQ c a o.dst v w) _ listed a w (Region.free_spec ho hf) hr (.inl ⟨hw,hv⟩) hJ hJ'
    (jb8 hs hQ rest _ _ _ w (λw w' g h=>⟨sJ w w' g h.1,sJ' w w' g h.2⟩) ⟨hJ,hJ'⟩ h0 h)
  ·rw[Af hw]at h;exact Ms.first sJ (λ_ _ _ _=>trivial) (J':=λ_=>True) ho (Region.noSelect_spec hs) (λc a w=>hQ c a o.dst undef w) _ listed a w (Region.free_spec ho hf) hr (.inr ⟨by simpa using hw,rfl⟩) hJ trivial
    (Ms.mono (λ_ h=>⟨h,trivial⟩) _ _ _ _ (jb8 hs hQ rest J _ _ w sJ hJ h0 h))
 |(i,.keep)::rest,J,listed,a,w,sJ,hJ,h0,h=>by
  simp only[jw7,Aa,Ed]at h0;obtain⟨⟨hr,hnb⟩,h0⟩:=h0;intro w' hg;refine⟨λh1=>(by rw[h1]at hr;cases hr),λj hj=>?_⟩;rw[hr]at hj;obtain rfl:j=i:=by simpa using hj
  have hr':j∈Region.ready md ops listed:=by rw[hr];simp
  obtain⟨_,o,ho,_⟩:=mem_ready.1 hr';simp only[jp0,ho,jo9]at h;have h1:=h ⟨w',hg⟩;unfold opG;simp only[ho];split
  ·rename_i hw;rw[Ad hw]at h1;exact Oper.wp_mono (λa2 w2 h2=>⟨λhb=>(by rw[hnb]at hb;cases hb),h2.1,jb8 hs hQ rest J _ _ w2 sJ h2.1 h0 h2.2⟩) h1
  ·rename_i hw;rw[Af hw]at h1;exact⟨λhb=>(by rw[hnb]at hb;cases hb),sJ _ _ hg hJ,jb8 hs hQ rest J _ _ w' sJ (sJ _ _ hg hJ) h0 h1⟩
end
end
end Go.Proofs.YtklklgfpkpglgaaGreatDoor
