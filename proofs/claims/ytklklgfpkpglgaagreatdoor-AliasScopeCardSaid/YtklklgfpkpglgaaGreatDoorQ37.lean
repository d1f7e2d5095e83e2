/- Parts. -/
import Derived.Test.YtklklgfpkpglgaaGreatDoorQ36
set_option linter.all false
set_option maxRecDepth 100000
set_option maxHeartbeats 0
namespace Go.Proofs.YtklklgfpkpglgaaGreatDoor
open Go.RowKit Go.Proofs.Tryz
section
namespace Sc
open Classical
variable {old fr:ByteArray}{m:Bool}
end Sc
end
section
namespace Sc
open Lx
def nmL (b:Bool)(s t:ByteArray):Prop:=if b then (Cw s=true->Cw t=true) else t=s
mutual
def Gc:Ex->Ex->Prop
 |.mk kind op ty n s l,.mk kind' op' ty' n' s' l'=>kind'=kind/\op'=op/\ty'=ty/\n'=n/\nmL (Cz kind) s s'/\Dr l l'
def Dr:List Ex->List Ex->Prop
 |[],m=>m=[]
 |e::l,m=>∃ f r,m=f::r/\Gc e f/\Dr l r
end
theorem nmL.refl (b:Bool)(s:ByteArray):nmL b s s:=by unfold nmL;split<;>simp
mutual
theorem Gc.refl:∀ e:Ex,Gc e e
 |.mk kind op ty n s l=>by simp only[Gc,Ex.kind,Ex.op,Ex.ty,Ex.n,Ex.s,Ex.l,true_and];exact⟨.refl _ _,Dr.refl l⟩
theorem Dr.refl:∀ l:List Ex,Dr l l
 |[]=>by simp[Dr]
 |e::l=>by simp only[Dr];exact⟨e,l,rfl,Gc.refl e,Dr.refl l⟩
end
theorem Kq:∀ {l m:List Ex},Dr l m->m.length=l.length
 |[],m,h=>by simp only[Dr]at h;rw[h]
 |e::l,m,h=>by
  simp only[Dr]at h;obtain⟨f,r,rfl,_,h2⟩:=h;simp only[Aj,Kq h2]
theorem kk8 (p:Ex->Bool)(hp:∀ e f,Gc e f->p e=true->p f=true):∀ {l m:List Ex},Dr l m->l.all p=true->m.all p=true
 |[],m,h,_=>by simp only[Dr]at h;rw[h];rfl
 |e::l,m,h,ha=>by
  simp only[Dr]at h;obtain⟨f,r,rfl,h1,h2⟩:=h;simp only[Ei,Aa]at ha ⊢;exact⟨hp e f h1 ha.1,kk8 p hp h2 ha.2⟩
theorem mh1 {e:Ex}(h:Gc ex0 e):e=ex0:=by
 obtain⟨kind,op,ty,n,s,l⟩:=e;simp only[Gc,Dr,ex0,nmL,Cz,Ex.kind,Ex.op,Ex.ty,Ex.n,Ex.s,Ex.l]at h ⊢;obtain⟨rfl,rfl,rfl,rfl,h1,rfl⟩:=h;simp at h1;rw[h1]
theorem qa6 {kind op ty n:Int}{s t:ByteArray}(h:nmL (Cz kind) s t)(ho:(Jf kind op ty n s).2=true):Jf kind op ty n t=Jf kind op ty n s:=by
 unfold nmL at h;by_cases hk:Cz kind=true
 ·rw[Ad hk]at h;unfold Cz at hk;simp only[Bn,Ed]at hk;unfold Jf at ho ⊢;rcases hk with (rfl|rfl)|rfl
  all_goals
   simp only[Int.reduceEq,if_false,if_true,or_false,or_true,false_or,true_or,or_self]at ho ⊢;cases hs:Cw s with
   |false=>simp[hs]at ho
   |true=>simp[h hs]
 ·rw[Af hk]at h;rw[h]
theorem qn4 {e f:Ex}(h:Gc e f):f.kind=e.kind/\f.op=e.op/\f.ty=e.ty/\f.n=e.n/\nmL (Cz e.kind) e.s f.s/\Dr e.l f.l:=by
 obtain⟨kind,op,ty,n,s,l⟩:=e;obtain⟨kind',op',ty',n',s',l'⟩:=f;simp only[Gc]at h;obtain⟨rfl,rfl,rfl,rfl,h1,h2⟩:=h;exact⟨rfl,rfl,rfl,rfl,h1,h2⟩
theorem rg0 {e f:Ex}(h:Gc e f)(ho:Kn e=true):Kn f=true:=by
 obtain⟨e1,e2,e3,e4,h1,h2⟩:=qn4 h;unfold Kn at ho ⊢;rw[Aa]at ho ⊢;rw[e1,e2,e3,e4,qa6 h1 ho.1,Kq h2];exact ho
mutual
theorem ks2:∀ {e f:Ex} (d left:Int),Gc e f->(Dp d left e).1=true->Dp d left f=Dp d left e
 |.mk kind op ty n s l,.mk kind' op' ty' n' s' l',d,left,h,hv=>by
  have hw:=rg0 h;simp only[Gc,Ex.kind,Ex.op,Ex.ty,Ex.n,Ex.s,Ex.l]at h;obtain⟨rfl,rfl,rfl,rfl,h1,h2⟩:=h;rw[Dp]at hv ⊢;rw[Dp];by_cases hc:Kn (.mk kind' op' ty' n' s l)=false\/left - 1<0\/32<d
  ·rw[Ad hc]at hv;cases hv
  ·rw[Af hc]at hv ⊢;have ho:Kn (.mk kind' op' ty' n' s l)=true:=by
    cases h3:Kn (.mk kind' op' ty' n' s l) with
    |true=>rfl
    |false=>exact absurd (.inl h3) hc
   rw[Af (λh=>hc (h.elim (λh=>by rw[hw ho]at h;cases h) .inr))];exact kk9 _ _ h2 hv
theorem kk9:∀ {l m:List Ex} (d left:Int),Dr l m->(Fs d left l).1=true->Fs d left m=Fs d left l
 |[],m,d,left,h,_=>by simp only[Dr]at h;rw[h]
 |e::l,m,d,left,h,hv=>by
  simp only[Dr]at h;obtain⟨f,r,rfl,h1,h2⟩:=h;rw[Fs]at hv ⊢;rw[Fs];by_cases hc:(Dp d left e).1=true
  ·rw[Ad hc]at hv ⊢;rw[ks2 d left h1 hc,Ad hc];exact kk9 _ _ h2 hv
  ·rw[Af hc]at hv;exact absurd hv hc
end
theorem je1 {e f:Ex}(h:Gc e f)(hm:Gd e=true):Gd f=true:=by
 unfold Gd at hm ⊢;rw[ks2 _ _ h hm];exact hm
theorem qn5 {e f:Ex}(h:Gc e f):f.kind=e.kind:=by
 obtain⟨kind,op,ty,n,s,l⟩:=e;obtain⟨kind',op',ty',n',s',l'⟩:=f;simp only[Gc]at h;exact h.1
theorem jl8 {e f:Ex}(h:Gc e f)(hm:Ga e=true):Ga f=true:=by
 unfold Ga at hm ⊢;rw[Aa]at hm ⊢;rw[qn5 h];exact⟨hm.1,je1 h hm.2⟩
theorem ja9 {e f:Ex}(h:Gc e f)(hm:Ip e=true):Ip f=true:=by
 unfold Ip at hm ⊢;rw[j9]at hm ⊢;subst hm;exact mh1 h
def mh2 (l m:List ByteArray):Prop:=m.length=l.length/\((∀ s∈l,Cw s=true)->∀ s∈m,Cw s=true)
def mu5 (s t:ByteArray):Prop:=(Cw s=true->Cw t=true)/\(s=ByteArray.empty->t=ByteArray.empty)
def mh3 (r q:Rp):Prop:=(q.name=ByteArray.empty↔r.name=ByteArray.empty)/\(Cw r.name=true->Cw q.name=true)/\Gc r.base q.base/\Gc r.count q.count
def Qy (t u:Ty):Prop:=(Oe t=true->Oe u=true)/\(Qe t=true->Qe u=true)/\(t=ty0->u=ty0)
def rp1 (f g:Fo):Prop:=g.val=f.val/\Qy f.type g.type/\(Cw f.name=true->Cw g.name=true)
def jd5:List Fo->List Fo->Prop
 |[],m=>m=[]
 |f::l,m=>∃ g r,m=g::r/\rp1 f g/\jd5 l r
mutual
def jk3:Pr->Pr->Prop
 |.mk kind name av aj au rep ak l ay (.mk sk st sn se spp sf sb),p=>p.kind=kind/\mu5 name p.name/\Gc av p.av/\Dr aj p.aj/\Dr au p.au/\mh3 rep p.rep/\n7 ak p.ak/\y9 l p.l/\p.ay=ay/\
  p.spec.kind=sk/\Qy st p.spec.type/\mh2 sn p.spec.names/\Gc se p.spec.e/\p.spec.aN=spp/\jd5 sf p.spec.ax/\y9 sb p.spec.body
def y9:List Pr->List Pr->Prop
 |[],m=>m=[]
 |p::l,m=>∃ q r,m=q::r/\jk3 p q/\y9 l r
def jn9:Gu->Gu->Prop
 |.mk kind name cond av aj values time body,g=>g.kind=kind/\g.name=name/\Gc cond g.cond/\Gc av g.av/\Dr aj g.aj/\Dr values g.values/\Gc time g.time/\y9 body g.body
def n7:List Gu->List Gu->Prop
 |[],m=>m=[]
 |g::l,m=>∃ k r,m=k::r/\jn9 g k/\n7 l r
end
theorem jd6:∀ {l m:List Pr},y9 l m->m.length=l.length
 |[],m,h=>by simp only[y9]at h;rw[h]
 |e::l,m,h=>by
  simp only[y9]at h;obtain⟨f,r,rfl,_,h2⟩:=h;simp only[Aj,jd6 h2]
theorem Mq:∀ {l m:List Gu},n7 l m->m.length=l.length
 |[],m,h=>by simp only[n7]at h;rw[h]
 |e::l,m,h=>by
  simp only[n7]at h;obtain⟨f,r,rfl,_,h2⟩:=h;simp only[Aj,Mq h2]
theorem ju3:∀ {l m:List Fo},jd5 l m->m.length=l.length
 |[],m,h=>by simp only[jd5]at h;rw[h]
 |e::l,m,h=>by
  simp only[jd5]at h;obtain⟨f,r,rfl,_,h2⟩:=h;simp only[Aj,ju3 h2]
theorem jn2 (p:Ex->Bool)(hp:∀ e f,Gc e f->p e=true->p f=true){l m:List Ex}(a b:Int)(h:Dr l m)(he:Cq l a b p=true):Cq m a b p=true:=by
 unfold Cq at he ⊢;rw[Aa]at he ⊢;rw[Kq h];exact⟨he.1,kk8 p hp h he.2⟩
theorem qn6 {g k:Gu}(h:jn9 g k):k.kind=g.kind/\k.name=g.name/\Gc g.cond k.cond/\Gc g.av k.av/\Dr g.aj k.aj/\Dr g.values k.values/\Gc g.time k.time/\y9 g.body k.body:=by
 obtain⟨kind,name,cond,av,aj,values,time,body⟩:=g;simp only[jn9]at h;exact h
theorem qa7 {g k:Gu}(h:jn9 g k)(hm:Jr g=true):Jr k=true:=by
 obtain⟨e1,e2,h1,h2,h3,h4,h5,h6⟩:=qn6 h;unfold Jr at hm ⊢;rw[e1,e2,jd6 h6];simp only[Aa]at hm ⊢;refine⟨⟨⟨⟨⟨⟨hm.1.1.1.1.1.1,?_⟩,hm.1.1.1.1.2⟩,?_⟩,?_⟩,?_⟩,?_⟩
 ·have:=hm.1.1.1.1.1.2;split
  ·rename_i hc;rw[Ad hc]at this;rw[Bn,Aa]at this ⊢;exact this.imp (je1 h1) λh=>⟨h.1,ja9 h1 h.2⟩
  ·rename_i hc;rw[Af hc]at this;exact ja9 h1 this
 ·have:=hm.1.1.1.2;split
  ·rename_i hc;rw[Ad hc]at this;exact jl8 h2 this
  ·rename_i hc;rw[Af hc]at this;exact ja9 h2 this
 ·have:=hm.1.1.2;split
  ·rename_i hc;rw[Ad hc]at this;exact je1 h5 this
  ·rename_i hc;rw[Af hc]at this;exact ja9 h5 this
 ·exact jn2 _ (λe f=>jl8) _ _ h3 hm.1.2
 ·exact jn2 _ (λe f=>je1) _ _ h4 hm.2
theorem kl0 (p:Gu->Bool)(hp:∀ e f,jn9 e f->p e=true->p f=true):∀ {l m:List Gu},n7 l m->l.all p=true->m.all p=true
 |[],m,h,_=>by simp only[n7]at h;rw[h];rfl
 |e::l,m,h,ha=>by
  simp only[n7]at h;obtain⟨f,r,rfl,h1,h2⟩:=h;simp only[Ei,Aa]at ha ⊢;exact⟨hp e f h1 ha.1,kl0 p hp h2 ha.2⟩
theorem mh4 {g k:Gu}(h:jn9 g k):k.kind=g.kind:=by
 obtain⟨kind,name,cond,av,aj,values,time,body⟩:=g;simp only[jn9]at h;exact h.1
theorem qa8 {f g:Fo}(h:rp1 f g)(hm:Lr f=true):Lr g=true:=by
 unfold Lr at hm ⊢;rw[Aa,Aa,Bn]at hm ⊢;rw[h.1];exact⟨⟨h.2.2 hm.1.1,h.2.1.1 hm.1.2⟩,hm.2.imp id h.2.1.2.1⟩
theorem kl1:∀ {l m:List Fo},jd5 l m->l.all Lr=true->m.all Lr=true
 |[],m,h,_=>by simp only[jd5]at h;rw[h];rfl
 |e::l,m,h,ha=>by
  simp only[jd5]at h;obtain⟨f,r,rfl,h1,h2⟩:=h;simp only[Ei,Aa]at ha ⊢;exact⟨qa8 h1 ha.1,kl1 h2 ha.2⟩
theorem ji8 {l m:List ByteArray}(a b:Int)(h:mh2 l m)(he:Cq l a b Cw=true):Cq m a b Cw=true:=by
 unfold Cq at he ⊢;rw[Aa,By]at he ⊢;rw[h.1];exact⟨he.1,h.2 he.2⟩
theorem rw8 {α:Type}{l:List α}(h:l.length=0):l=[]:=Bg h
structure Wj (s t:Sp):Prop where
 kind:t.kind=s.kind
 type:Qy s.type t.type
 names:mh2 s.names t.names
 e:Gc s.e t.e
 aN:t.aN=s.aN
 ax:jd5 s.ax t.ax
 body:y9 s.body t.body
theorem qa9 {s t:Sp}(h:Wj s t)(hm:Hr s=true):Hr t=true:=by
 have h1:=h.type;have h2:=h.names;have h3:=h.e;have h4:=h.ax;unfold Hr at hm ⊢;rw[h.kind,h.aN,ju3 h4,jd6 h.body];by_cases k1:s.kind=1
 ·rw[Ad k1]at hm ⊢;simp only[Aa]at hm ⊢;exact⟨⟨⟨⟨⟨h1.1 hm.1.1.1.1.1,ji8 _ _ h2 hm.1.1.1.1.2⟩,ja9 h3 hm.1.1.1.2⟩,hm.1.1.2⟩,hm.1.2⟩,hm.2⟩
 rw[Af k1]at hm ⊢;by_cases k2:s.kind=2
 ·rw[Ad k2]at hm ⊢;simp only[Aa]at hm ⊢;exact⟨⟨⟨⟨⟨h1.2.1 hm.1.1.1.1.1,je1 h3 hm.1.1.1.1.2⟩,ji8 _ _ h2 hm.1.1.1.2⟩,hm.1.1.2⟩,hm.1.2⟩,hm.2⟩
 rw[Af k2]at hm ⊢;by_cases k3:s.kind=3
 ·rw[Ad k3]at hm ⊢;simp only[Aa]at hm ⊢;exact⟨⟨⟨⟨⟨h1.2.1 hm.1.1.1.1.1,jl8 h3 hm.1.1.1.1.2⟩,ji8 _ _ h2 hm.1.1.1.2⟩,hm.1.1.2⟩,hm.1.2⟩,hm.2⟩
 rw[Af k3]at hm ⊢;by_cases k4:s.kind=4
 ·rw[Ad k4]at hm ⊢;simp only[Aa,j9]at hm ⊢;exact⟨⟨⟨⟨⟨hm.1.1.1.1.1,ji8 _ _ h2 hm.1.1.1.1.2⟩,h1.2.2 hm.1.1.1.2⟩,ja9 h3 hm.1.1.2⟩,hm.1.2⟩,hm.2⟩
 rw[Af k4]at hm ⊢;by_cases k5:s.kind=5
 ·rw[Ad k5]at hm ⊢;simp only[Aa,j9]at hm ⊢;refine⟨⟨⟨⟨⟨hm.1.1.1.1.1,?_⟩,ji8 _ _ h2 hm.1.1.1.2⟩,h1.2.2 hm.1.1.2⟩,ja9 h3 hm.1.2⟩,hm.2⟩;have:=hm.1.1.1.1.2;unfold Cq at this ⊢;rw[Aa]at this ⊢;rw[ju3 h4];exact⟨this.1,kl1 h4 this.2⟩
 rw[Af k5]at hm;cases hm
theorem rg1 {s:Sp}(h:Wj sp0 s):s=sp0:=by
 obtain⟨q1,q2,q3,q4,q5,q6,q7⟩:=h;obtain⟨sk,st,sn,se,spp,sf,sb⟩:=s;simp only[sp0,Sp.kind,Sp.type,Sp.names,Sp.e,Sp.aN,Sp.ax,Sp.body,jd5,y9,mh2,Az]at *;rw[q1,q2.2.2 rfl,rw8 q3.1,mh1 q4,q5,q6,q7]
theorem mo4 {r q:Rp}(h:mh3 r q)(hm:Hw r=true):Hw q=true:=by
 unfold Hw at hm ⊢;by_cases h0:r.name=ByteArray.empty
 ·rw[Ad h0]at hm;rw[Ad (h.1.2 h0)];rw[Aa]at hm ⊢;exact⟨ja9 h.2.2.1 hm.1,ja9 h.2.2.2 hm.2⟩
 ·rw[Af h0]at hm;rw[Af (λe=>h0 (h.1.1 e))];simp only[Aa]at hm ⊢;exact⟨⟨h.2.1 hm.1.1,je1 h.2.2.1 hm.1.2⟩,je1 h.2.2.2 hm.2⟩
theorem mh5 {r q:ByteArray}(u:Uses)(h:q=ByteArray.empty↔r=ByteArray.empty):Ht u q=Ht u r:=by
 unfold Ht;by_cases h0:r=ByteArray.empty
 ·rw[Ad h0,Ad (h.2 h0)]
 ·rw[Af h0,Af (λe=>h0 (h.1 e))]
structure likeAt (p q:Pr):Prop where
 kind:q.kind=p.kind
 name:mu5 p.name q.name
 av:Gc p.av q.av
 aj:Dr p.aj q.aj
 au:Dr p.au q.au
 rep:mh3 p.rep q.rep
 ak:n7 p.ak q.ak
 l:y9 p.l q.l
 ay:q.ay=p.ay
 spec:Wj p.spec q.spec
theorem qn7 {p q:Pr}(h:jk3 p q):likeAt p q:=by
 obtain⟨kind,name,av,aj,au,rep,ak,l,ay,⟨sk,st,sn,se,spp,sf,sb⟩⟩:=p;simp only[jk3]at h;obtain⟨h1,h2,h3,h4,h5,h6,h7,h8,h9,h10,h11,h12,h13,h14,h15,h16⟩:=h;exact⟨h1,h2,h3,h4,h5,h6,h7,h8,h9,h10,h11,h12,h13,h14,h15,h16⟩
theorem qb0 {p q:Pr}(h:jk3 p q)(hm:Gy p=true):Gy q=true:=by
 obtain⟨hk,hn,hc,ht,he,hr,hg,hl,hp,hs⟩:=qn7 h;unfold Gy at hm ⊢;rw[hk,hp,mh5 _ hr.1,jd6 hl];generalize Ht (Hf p.kind).1 p.rep.name=u at hm ⊢;simp only[Aa,Bn,Ah]at hm ⊢;obtain⟨⟨⟨m1,m2⟩,m3⟩,⟨⟨⟨⟨⟨⟨m4,m5⟩,m6⟩,m7⟩,m8⟩,m9⟩,m10⟩,m11⟩:=hm;refine⟨⟨⟨m1,mo4 hr m2⟩,m3.imp hr.1.2 id⟩,⟨⟨⟨⟨⟨⟨m4,?_⟩,?_⟩,?_⟩,jn2 _ (λe f=>jl8) _ _ ht m8⟩,jn2 _ (λe f=>je1) _ _ he m9⟩,m10⟩,?_⟩
 ·unfold Cq at m5 ⊢;rw[Aa]at m5 ⊢;rw[Mq hg];refine⟨m5.1,kl0 _ (λg k hgk hq=>?_) hg m5.2⟩;rw[mh4 hgk];simp only[Aa]at hq ⊢;exact⟨hq.1,qa7 hgk hq.2⟩
 ·split
  ·rename_i hu;rw[Ad hu]at m6;exact hn.1 m6
  ·rename_i hu;rw[Af hu,Ah]at m6;rw[Ah];exact hn.2 m6
 ·split
  ·rename_i hu;rw[Ad hu]at m7;exact jl8 hc m7
  ·rename_i hu;rw[Af hu]at m7;exact ja9 hc m7
 ·split
  ·rename_i hu;rw[Ad hu]at m11;exact qa9 hs m11
  ·rename_i hu;rw[Af hu,j9]at m11;rw[j9];rw[m11]at hs;exact rg1 hs
mutual
theorem jp5:∀ {p q:Pr} (d left:Int) (pl:Bool),jk3 p q->(Du d left pl p).1=true->Du d left pl q=Du d left pl p
 |.mk kind name av aj au rep ak l ay (.mk sk st sn se spp sf sb),.mk kind' name' chan' targets' exprs' rep' guards' l' procs' (.mk sk' st' sn' se' spp' sf' sb'),d,left,pl,h,hv=>by
  have hw:=qb0 h;simp only[jk3,Pr.kind,Pr.name,Pr.av,Pr.aj,Pr.au,Pr.rep,Pr.ak,Pr.l,Pr.ay,Pr.spec,Sp.kind,Sp.type,Sp.names,Sp.e,Sp.aN,Sp.ax,Sp.body]at h;obtain⟨rfl,hn,hc,ht,he,hr,hg,hl,rfl,rfl,hst,hsn,hse,rfl,hsf,hsb⟩:=h;rw[Du]at hv ⊢;rw[Du];by_cases c1:left - 1<0\/32<d\/Gy (.mk kind' name av aj au rep ak l procs' (.mk sk' st sn se spp' sf sb))=false\/(kind'=11/\pl=false)
  ·rw[Ad c1]at hv;cases hv
  rw[Af c1]at hv ⊢;have ho:Gy (.mk kind' name av aj au rep ak l procs' (.mk sk' st sn se spp' sf sb))=true:=by
   cases h3:Gy (.mk kind' name av aj au rep ak l procs' (.mk sk' st sn se spp' sf sb)) with
   |true=>rfl
   |false=>exact absurd (.inr (.inr (.inl h3))) c1
  rw[Af (λh=>c1 (h.imp id λh=>h.imp id λh=>h.imp (λh=>by rw[hw ho]at h;cases h) id))];by_cases c2:kind'=18/\spp'.cases=true/\32<d+2
  ·rw[Ad c2]at hv;cases hv
  rw[Af c2]at hv ⊢;rw[Af c2];dsimp only at hv ⊢;have hb:(if kind'=18 then Ct (d+1) (left - 1) sb else (true,left - 1)).1=true->(if kind'=18 then Ct (d+1) (left - 1) sb' else (true,left - 1))=(if kind'=18 then Ct (d+1) (left - 1) sb else (true,left - 1)):=by
   split
   ·exact mh6 _ _ hsb
   ·exact λ_=>rfl
  generalize (if kind'=18 then Ct (d+1) (left - 1) sb else (true,left - 1))=b at hb hv ⊢;by_cases c3:b.1=false
  ·rw[Ad c3]at hv;cases hv
  rw[Af c3]at hv ⊢;rw[hb (by simpa using c3),Af c3];have hm:=jx1 (if kind'=11 then d+2 else if kind'=18 then d else d+1) b.2 (pl && decide (kind'=18)) hl;generalize Dy (if kind'=11 then d+2 else if kind'=18 then d else d+1) b.2 (pl && decide (kind'=18)) l=m at hm hv ⊢;by_cases c4:m.1=false
  ·rw[Ad c4]at hv;cases hv
  rw[Af c4]at hv ⊢;rw[hm (by simpa using c4),Af c4];exact jx2 _ _ hg hv
theorem mh6:∀ {l m:List Pr} (d left:Int),y9 l m->(Ct d left l).1=true->Ct d left m=Ct d left l
 |[],m,d,left,h,_=>by simp only[y9]at h;rw[h]
 |e::l,m,d,left,h,hv=>by
  simp only[y9]at h;obtain⟨f,r,rfl,h1,h2⟩:=h;rw[Ct]at hv ⊢;rw[Ct];exact jp5 d left false h1 hv
theorem jx1:∀ {l m:List Pr} (d left:Int) (pl:Bool),y9 l m->(Dy d left pl l).1=true->Dy d left pl m=Dy d left pl l
 |[],m,d,left,pl,h,_=>by simp only[y9]at h;rw[h]
 |e::l,m,d,left,pl,h,hv=>by
  simp only[y9]at h;obtain⟨f,r,rfl,h1,h2⟩:=h;rw[Dy]at hv ⊢;rw[Dy];by_cases hc:(Du d left pl e).1=true
  ·rw[Ad hc]at hv ⊢;rw[jp5 d left pl h1 hc,Ad hc];exact jx1 _ _ _ h2 hv
  ·rw[Af hc]at hv;exact absurd hv hc
theorem jx2:∀ {l m:List Gu} (d left:Int),n7 l m->(He d left l).1=true->He d left m=He d left l
 |[],m,d,left,h,_=>by simp only[n7]at h;rw[h]
 |.mk kind name cond av aj values time body::l,m,d,left,h,hv=>by
  simp only[n7]at h;obtain⟨⟨kind',name',cond',chan',targets',values',time',body'⟩,r,rfl,h1,h2⟩:=h;simp only[jn9,Gu.body]at h1;rw[He]at hv ⊢;rw[He];by_cases hc:(Ct d left body).1=true
  ·rw[Ad hc]at hv ⊢;rw[mh6 d left h1.2.2.2.2.2.2.2 hc,Ad hc];exact jx2 _ _ h2 hv
  ·rw[Af hc]at hv;exact absurd hv hc
end
theorem rg2 {p q:Pr}(h:jk3 p q)(hm:Gq p=true):Gq q=true:=by
 unfold Gq at hm ⊢;rw[jp5 _ _ _ h hm];exact hm
end Sc
end
section
namespace Sc
open Lx
theorem rg3:∀ (m n:Nat),n<=m->∀ c∈dec n,Kv c=true:=by
 intro m
 induction m with
 |zero=>
  intro n h c hc;obtain rfl:n=0:=by omega
  rw[dec,dif_pos (show 0<10 by omega),Bs]at hc;subst hc;rfl
 |succ m ih=>
  intro n h c hc;have key:∀ d:Nat,d<10->Kv (UInt8.ofNat (48+d))=true:=λd hd=>by
   have h2:(UInt8.ofNat (48+d)).toNat=48+d:=by rw[UInt8.toNat_ofNat'];omega
   unfold Kv digit;simp only[h2,Bn,Ah];exact .inl (.inr (by omega))
  rw[dec]at hc;split at hc
  ·rename_i h10;rw[Bs]at hc;subst hc;exact key n h10
  ·rename_i h10;rcases Au.1 hc with hc|hc
   ·exact ih (n / 10) (by omega) c hc
   ·rw[Bs]at hc;subst hc;exact key _ (by omega)
theorem Ta:∀ (m n:Nat),n<10 ^ (m+1)->(dec n).length<=m+1
 |0,n,h=>by rw[dec,dif_pos (by simpa using h)];simp
 |m+1,n,h=>by
  rw[dec];split
  ·simp
  ·have:=Ta m (n / 10) (by rw[Nat.pow_succ]at h;omega);simp only[Ag,Aj,Az];omega
theorem qn8 (k:ByteArray)(hk:k∈keys):k.data[0]? ≠some 110:=by
 unfold keys at hk;simp only[Bc,List.not_mem_nil,or_false]at hk;rcases hk with rfl|rfl|rfl|rfl|rfl|rfl|rfl|rfl|rfl|rfl|rfl|rfl|rfl|rfl|rfl|rfl|rfl|rfl|rfl|rfl|rfl|rfl|rfl|rfl|rfl|rfl|rfl|rfl|rfl|rfl|rfl|rfl|rfl<;>decide
theorem ks3 (k:Nat)(h:k<10 ^ 20):Cw (aC k)=true:=by
 have h1:=Ta 19 k h;have h2:=rg3 k k (Ap _);unfold Cw aC;simp only;rw[Aa,Aa,Aa,Ah,By];refine⟨⟨⟨by omega,by rfl⟩,h2⟩,?_⟩;rw[Bz,Bool.eq_false_iff];intro hk;unfold isKey at hk;obtain⟨x,hx,e⟩:=Ek.1 hk;rw[Ah]at e;refine qn8 x hx ?_;rw[e];simp
def Bd:Int:=99999999999999999999
theorem mo5 (σ:W)(h0:0<=σ.count)(hb:(Co σ).2.count<=Bd):Cw (Co σ).1=true:=by
 obtain⟨k,h1,_,_,h2⟩:=jo7 σ h0;rw[h1];refine ks3 k ?_;rw[h2]at hb;unfold Bd at hb;omega
def NmE (f:ByteArray->List Ent):Prop:=∀ s,∀ x∈f s,Cw x.aD=true
theorem NmE.push:∀ (ns:List ByteArray) {xs:List Ent} {f:ByteArray->List Ent},NmE f->(∀ x∈xs,Cw x.aD=true)->NmE (Cn f ns xs)
 |[],[],_,h,_=>h
 |[],_::_,_,h,_=>h
 |_::_,[],_,h,_=>h
 |s::ns,x::xs,f,h,hx=>by
  simp only[Cn];refine NmE.push ns (λt y hy=>?_) λy hy=>hx y (Ax _ hy);split at hy
  ·rcases Au.1 hy with hy|hy
   ·exact h t y hy
   ·rw[Bs]at hy;rw[hy];exact hx x Aw
  ·exact h t y hy
theorem kl2 {σ:W}(h:NmE σ.env)(s:ByteArray)(hs:Cw s=true):Cw (aA σ s).1=true:=by
 unfold aA;cases h1:(σ.env s).getLast? with
 |some x=>exact h s x (List.mem_of_getLast? h1)
 |none=>exact hs
mutual
theorem jg7:∀ (e:Ex) (σ:W),NmE σ.env->Gc e (j5 σ e).1
 |.mk kind op ty n s l,σ,h=>by
  simp only[j5,Gc,true_and];have hg:(if Cz kind then aA σ s else (s,σ)).2.env=σ.env:=by
   split
   ·exact(Jq σ s).env
   ·rfl
  refine⟨?_,kb1 l _ (by rw[hg];exact h)⟩;unfold nmL;split
  ·exact kl2 h s
  ·rfl
theorem kb1:∀ (l:List Ex) (σ:W),NmE σ.env->Dr l (y4 σ l).1
 |[],σ,_=>by simp[y4,Dr]
 |e::l,σ,h=>by
  simp only[y4,Dr];exact⟨_,_,rfl,jg7 e σ h,kb1 l _ (by rw[(Dk e σ).env];exact h)⟩
end
theorem ji9 (l:List Ex){σ:W}(h:NmE σ.env):Dr l (z6 j5 σ l).1:=by rw[<-ja4];exact kb1 l σ h
theorem Qy.refl (t:Ty):Qy t t:=⟨id,id,id⟩
theorem ks4 {t:Ty}(h:Oe t=true)(hp:prim t.kind=true):t.aN=ByteArray.empty:=by
 unfold Oe at h;rw[Ad hp]at h;simp only[Aa,Ah]at h;exact h.2.2
theorem ks5 {σ:W}(h:NmE σ.env)(t:Ty):Qy t (Gr σ t).1:=by
 unfold Gr;split
 ·exact .refl t
 ·rename_i h0;refine⟨λhm=>?_,λhm=>?_,λhm=>absurd (by rw[hm];rfl) h0⟩
  ·by_cases hp:prim t.kind=true
   ·exact absurd (ks4 hm hp) h0
   ·unfold Oe at hm ⊢;dsimp only;rw[Af hp]at hm ⊢;by_cases h4:t.kind=4
    ·rw[Ad h4]at hm ⊢;by_cases hi:t.item=0
     ·rw[Ad hi]at hm ⊢;rw[Aa]at hm ⊢;exact⟨hm.1,kl2 h _ hm.2⟩
     ·rw[Af hi]at hm;simp only[Aa,Ah]at hm;exact absurd hm.2.2 h0
    ·rw[Af h4]at hm;simp only[Aa,Ah]at hm;exact absurd hm.2.2.2.2 h0
  ·unfold Qe at hm;simp only[Aa]at hm;exact absurd (ks4 hm.1.1 hm.2) h0
theorem kd6:∀ (l:List Fo) (ns:List ByteArray) (σ:W),NmE σ.env->ns.length=l.length->(∀ s∈ns,Cw s=true)->jd5 l (named (z6 Fq σ l).1 ns)
 |[],[],_,_,_,_=>by simp[z6,named,jd5]
 |[],_::_,_,_,h,_=>by cases h
 |_::_,[],_,_,h,_=>by cases h
 |f::l,s::ns,σ,h,hl,hn=>by
  simp only[z6,named,jd5];refine⟨_,_,rfl,⟨rfl,ks5 h f.type,λ_=>hn s Aw⟩,kd6 l ns _ ?_ (by simpa using hl) λt ht=>hn t (Ax _ ht)⟩;rw[(Ko σ f).env];exact h
theorem ks6 {has:ByteArray->Prop}{l:List Ent}{c d:Int}(h:Incr has c l d)(hd:d<=Bd):∀ x∈l,Cw x.aD=true:=λx hx=>by
 obtain⟨k,h1,_,h2,_⟩:=Uo h x hx;rw[h1];refine ks3 k ?_;unfold Bd at hd;omega
theorem rg4 (tag:Bool)(l:List Ex){σ:W}(h:NmE σ.env):Dr l (Gg tag σ l).1:=by
 cases tag with
 |false=>rw[jn0];exact ji9 l h
 |true=>
  cases l with
  |nil=>simp[Gg,Dr]
  |cons e l=>
   simp only[Gg,if_true,Dr];exact⟨_,_,rfl,Gc.refl e,ji9 l h⟩
def Ny (has:ByteArray->Prop):Int->List ByteArray->Int->Prop
 |c,[],d=>c<=d
 |c,s::l,d=>∃ k:Nat,s=aC k/\c<k/\¬has (aC k)/\Ny has k l d
theorem Ny.of {has:ByteArray->Prop}:∀ {l:List Ent} {c d:Int},Incr has c l d->Ny has c (l.map (·.aD)) d
 |[],_,_,h=>h
 |_::_,_,_,⟨k,h1,h2,h3,h4⟩=>⟨k,h1,h2,h3,Ny.of h4⟩
theorem Ny.down {has:ByteArray->Prop}{l:List ByteArray}{c c' d:Int}(h:Ny has c l d)(hc:c'<=c):Ny has c' l d:=by
 cases l with
 |nil=>exact Int.le_trans hc h
 |cons s l=>obtain⟨k,h1,h2,h3,h4⟩:=h;exact⟨k,h1,by omega,h3,h4⟩
theorem Ny.app {has:ByteArray->Prop}:∀ {l m:List ByteArray} {c d e:Int},Ny has c l d->Ny has d m e->Ny has c (l++m) e
 |[],_,_,_,_,h,h'=>h'.down h
 |_::_,_,_,_,_,⟨k,h1,h2,h3,h4⟩,h'=>⟨k,h1,h2,h3,h4.app h'⟩
structure HeadNew (σ:W)(sk:Int)(st:Ty)(sn:List ByteArray)(se:Ex)(spp:Pt)(sf:List Fo)(a:Head × W):Prop where
 type:Qy st a.1.type
 names:mh2 sn a.1.names
 e:Gc se a.1.e
 ax:jd5 sf a.1.ax
 own:∀ x∈a.1.own,Cw x.aD=true
 inner:∀ x∈a.1.inner,Cw x.aD=true
 inc:Ny σ.has σ.count (a.1.names++a.1.ax.map (·.name)) a.2.count
 len:a.1.names.length=sn.length/\a.1.ax.length=sf.length
theorem rg5 {σ:W}(h:NmE σ.env)(h0:0<=σ.count)(sk:Int)(st:Ty)(sn:List ByteArray)(se:Ex)(spp:Pt)(sf:List Fo)(hb:(Fw σ (.mk sk st sn se spp sf [])).2.count<=Bd):HeadNew σ sk st sn se spp sf (Fw σ (.mk sk st sn se spp sf [])):=by
 unfold Fw at *;dsimp only[Sp.names,Sp.ax,Sp.type,Sp.e,Sp.kind]at *;have g2:=Ke (sn.map λ_=>Dx σ.env (.mk sk st sn se spp sf [])) (Cr σ sn);have n2:=Nj (sn.map λ_=>Dx σ.env (.mk sk st sn se spp sf [])) (Cr σ sn);have i2:=jo8 (sn.map λ_=>Dx σ.env (.mk sk st sn se spp sf [])) (Cr σ sn) h0;generalize Da (Cr σ sn) (sn.map λ_=>Dx σ.env (.mk sk st sn se spp sf []))=o at g2 n2 i2 hb ⊢;have p2:=g2.lo h0;have g4:=Ke (sf.map λf=>(false,Cx σ.env f.type)) (Cr o.2 (sf.map (·.name)));have n4:=Nj (sf.map λf=>(false,Cx σ.env f.type)) (Cr o.2 (sf.map (·.name)));have i4:=jo8 (sf.map λf=>(false,Cx σ.env f.type)) (Cr o.2 (sf.map (·.name))) (by dsimp only[Cr]at *;omega);generalize Da (Cr o.2 (sf.map (·.name))) (sf.map λf=>(false,Cx σ.env f.type))=i at g4 n4 i4 hb ⊢;have p4:=g4.lo (by dsimp only[Cr]at *;omega);have g5:=Np i.2 st;have e4:i.2.env=σ.env:=g4.env.trans g2.env;have t5:=ks5 (σ:=i.2) (by rw[e4];exact h) st;generalize Gr i.2 st=t at g5 t5 hb ⊢;have g6:=Nn (λ_=>1) (λf σ=>Ko σ f) sf t.2;have t6:=λns=>kd6 sf ns t.2 (by rw[g5.env,e4];exact h);have n6:=jj9 Fq sf t.2;generalize z6 Fq t.2 sf=f at g6 t6 n6 hb ⊢;have g7:=Dk se f.2;have t7:=jg7 se f.2 (by rw[g6.env,g5.env,e4];exact h);generalize j5 f.2 se=e at g7 t7 hb ⊢;simp only[Ab]at n2 n4;have p0:0<=(Cr σ sn).count:=h0;have p1:(Cr o.2 (sf.map (·.name))).count=o.2.count:=rfl;have p3:(Cr σ sn).count=σ.count:=rfl;have p5:=g5.lo (by omega);have p6:=g6.lo (by omega);have p7:=g7.lo (by omega);have d2:=ks6 i2 (by omega);have d4:=ks6 i4 (by omega);have hin:(i.1.map (·.aD)).length=f.1.length:=by rw[Ab,n6,n4]
 refine⟨t5,⟨by rw[Ab,n2],λ_ s hs=>?_⟩,t7,t6 _ (by rw[Ab,n4]) λs hs=>?_,d2,d4,?_,by rw[Ab,n2],by rw[Rv _ _ hin,n6]⟩
 ·obtain⟨x,hx,rfl⟩:=Br.1 hs;exact d2 x hx
 ·obtain⟨x,hx,rfl⟩:=Br.1 hs;exact d4 x hx
 ·rw[kj2 _ _ hin];have hh:(Cr o.2 (sf.map (·.name))).has=(Cr σ sn).has:=by unfold W.has;rw[show(Cr o.2 (sf.map (·.name))).tk=o.2.tk from rfl,g2.tk]
  have i4:=i4.up (d':=e.2.count) (by omega);rw[hh]at i4;exact(Ny.of i2).app (Ny.of i4)
structure RepNew (σ:W)(r:Rp)(a:(Rp × List Ent) × W):Prop where
 like:mh3 r a.1.1
 own:∀ x∈a.1.2,Cw x.aD=true
 inc:Ny σ.has σ.count (if a.1.1.name=ByteArray.empty then [] else [a.1.1.name]) a.2.count
theorem rw9 {σ:W}(h:NmE σ.env)(h0:0<=σ.count)(r:Rp)(hb:(Iq σ r).2.count<=Bd):RepNew σ r (Iq σ r):=by
 unfold Iq at *;by_cases hr:r.name=ByteArray.empty
 ·rw[Ad hr];exact⟨⟨.rfl,id,Gc.refl _,Gc.refl _⟩,λx hx=>(by cases hx),by rw[Ad hr];exact Eu _⟩
 ·rw[Af hr]at hb ⊢;dsimp only at hb ⊢;have p1:=(Nl σ).lo h0;have g2:=Dk r.base (Co σ).2;have p2:=g2.lo (by omega);have g3:=Dk r.count (j5 (Co σ).2 r.base).2;have p3:=g3.lo (by omega);have hn:=mo5 σ h0 (by omega);obtain⟨k,k1,k2,k3,k4⟩:=jo7 σ h0;have hne:¬(Co σ).1=ByteArray.empty:=jp7 hn;refine⟨⟨⟨λe=>absurd e hne,λe=>absurd e hr⟩,λ_=>hn,jg7 _ _ h,jg7 _ _ (by rw[g2.env];exact h)⟩,λx hx=>?_,?_⟩
  ·rw[Bs]at hx;rw[hx];exact hn
  ·rw[Af hne];exact⟨k,k1,k2,k3,by show(k:Int)<=_;dsimp only;omega⟩
structure Xr (σ:W)(kind:Int)(name:ByteArray)(av:Ex)(aj au:List Ex)(rep:Rp)(a:PHead × W):Prop where
 name:mu5 name a.1.name
 av:Gc av a.1.av
 aj:Dr aj a.1.aj
 au:Dr au a.1.au
 rep:mh3 rep a.1.rep
 own:∀ x∈a.1.own,Cw x.aD=true
 inc:Ny σ.has σ.count (if a.1.rep.name=ByteArray.empty then [] else [a.1.rep.name]) a.2.count
theorem qn9 {σ:W}(h:NmE σ.env)(h0:0<=σ.count)(kind:Int)(name:ByteArray)(av:Ex)(aj au:List Ex)(rep:Rp)(hn:kind=17->Cw name=true)(hb:(Gh σ kind name av aj au rep).2.count<=Bd):Xr σ kind name av aj au rep (Gh σ kind name av aj au rep):=by
 unfold Gh at *;dsimp only at hb ⊢;have ga:Grow σ (if kind=17 then aA σ name else (name,σ)).2 1:=by
  split
  ·exact Jq σ name
  ·exact Grow.refl _ _
 have ta:mu5 name (if kind=17 then aA σ name else (name,σ)).1:=by
  split
  ·rename_i hk;exact⟨kl2 h name,λe=>absurd e (jp7 (hn hk))⟩
  ·exact⟨id,id⟩
 generalize (if kind=17 then aA σ name else (name,σ))=a at ga ta hb ⊢;have p1:=ga.lo h0;have g2:=Dk av a.2;have t2:=jg7 av a.2 (by rw[ga.env];exact h);generalize j5 a.2 av=c at g2 t2 hb ⊢;have p2:=g2.lo (by omega);have g3:=Gf aj c.2;have t3:=ji9 aj (σ:=c.2) (by rw[g2.env,ga.env];exact h);generalize z6 j5 c.2 aj=t at g3 t3 hb ⊢;have p3:=g3.lo (by omega);have g4:=Lb (Dh σ.env kind av au) t.2 au;have t4:=rg4 (Dh σ.env kind av au) au (σ:=t.2) (by rw[g3.env,g2.env,ga.env];exact h);generalize Gg (Dh σ.env kind av au) t.2 au=x at g4 t4 hb ⊢;have p4:=g4.lo (by omega);have e4:x.2.env=σ.env:=by rw[g4.env,g3.env,g2.env,ga.env]
 have e5:x.2.has=σ.has:=by unfold W.has;rw[g4.tk,g3.tk,g2.tk,ga.tk]
 have hr:=rw9 (σ:=x.2) (by rw[e4];exact h) (by omega) rep hb;refine⟨ta,t2,t3,t4,hr.like,hr.own,?_⟩;have:=hr.inc;rw[e5]at this;exact this.down (by omega)
theorem qo0 {σ:W}(h:NmE σ.env)(cond av:Ex)(aj values:List Ex)(time:Ex):Gc cond (Hy σ cond av aj values time).1.cond/\Gc av (Hy σ cond av aj values time).1.av/\Dr aj (Hy σ cond av aj values time).1.aj/\Dr values (Hy σ cond av aj values time).1.values/\Gc time (Hy σ cond av aj values time).1.time:=by
 unfold Hy;dsimp only;have g1:=Dk cond σ;have g2:=Dk av (j5 σ cond).2;have g3:=Gf aj (j5 (j5 σ cond).2 av).2;have g4:=Gf values (z6 j5 (j5 (j5 σ cond).2 av).2 aj).2;refine⟨jg7 _ _ h,jg7 _ _ (by rw[g1.env];exact h),ji9 _ (by rw[g2.env,g1.env];exact h),ji9 _ (by rw[g3.env,g2.env,g1.env];exact h),jg7 _ _ (by rw[g4.env,g3.env,g2.env,g1.env];exact h)⟩
theorem qb1 {p:Pr}(h:Gy p=true)(hk:p.kind=17):Cw p.name=true:=by
 rw[Je,Aa]at h;have:=h.1;unfold ownB at this;simp only[hk,Int.reduceEq,or_self,if_false,if_true,Aa]at this
 grind
mutual
theorem qo1:∀ (p:Pr) (σ:W),NmE σ.env->0<=σ.count->(Fz σ p).2.count<=Bd->Hz p->jk3 p (Fz σ p).1/\Ny σ.has σ.count (jt2 (Fz σ p).1) (Fz σ p).2.count/\(jt2 (Fz σ p).1).length=(jt2 p).length/\Dm (Fz σ p).1=Dm p
 |.mk kind name av aj au rep ak l ay (.mk sk st sn se spp sf sb),σ,h,h0,hb,ha=>by
  simp only[Hz]at ha;obtain⟨a1,a2,a3,a4⟩:=ha;have hnm:=qb1 a1;simp only[Pr.kind,Pr.name]at hnm;have hz:=jn4 _ (by rw[Je,Aa]at a1;exact a1.1);simp only[Pr.kind,Pr.rep,Pr.spec]at hz;have gh:=Oy σ kind name av aj au rep;have th:=λhb=>qn9 h h0 kind name av aj au rep hnm hb;simp only[Fz]at hb ⊢;generalize Gh σ kind name av aj au rep=a at gh th hb ⊢;have q1:=gh.lo h0;by_cases hk:kind=18
  ·rw[Ad hk]at hb ⊢;have gs:=Nc a.2 (.mk sk st sn se spp sf []);have ts:=λhb=>rg5 (σ:=a.2) (by rw[gh.env];exact h) (by omega) sk st sn se spp sf hb;generalize Fw a.2 (.mk sk st sn se spp sf [])=s at gs ts hb ⊢;have q2:=gs.lo (by omega);have gb:=Gz sb {s.2 with env:=Cn σ.env (sf.map (·.name)) s.1.inner};have tb:=λh hb=>kl3 sb {s.2 with env:=Cn σ.env (sf.map (·.name)) s.1.inner} h (by dsimp only;omega) hb a2;generalize Fx {s.2 with env:=Cn σ.env (sf.map (·.name)) s.1.inner} sb=b at gb tb hb ⊢;have q3:=gb.lo (by dsimp only;omega);have gg:=Il ak {b.2 with env:=Cn σ.env sn s.1.own};have tg:=λh hb=>mo6 ak {b.2 with env:=Cn σ.env sn s.1.own} h (by dsimp only at q3 ⊢;omega) hb a3;generalize Gl {b.2 with env:=Cn σ.env sn s.1.own} ak=g at gg tg hb ⊢;have q4:=gg.lo (by dsimp only at q3 ⊢;omega);have gm:=Gz l g.2;have tm:=λh hb=>kl3 l g.2 h (by dsimp only at q3 q4 ⊢;omega) hb a4;generalize Fx g.2 l=m at gm tm hb ⊢;have q5:=gm.lo (by dsimp only at q3 q4 ⊢;omega);dsimp only at q3 q4 q5 hb ⊢;have th:=th (by omega);have ts:=ts (by omega);have tb:=tb (NmE.push _ h ts.inner) (by omega);have tg:=tg (NmE.push _ h ts.own) (by omega);have tm:=tm (by rw[gg.env];exact NmE.push _ h ts.own) (by omega);have e2:s.2.has=σ.has:=by unfold W.has;rw[gs.tk,gh.tk]
   have e3:b.2.has=σ.has:=by unfold W.has;rw[gb.tk];dsimp only;rw[gs.tk,gh.tk]
   have e4:g.2.has=σ.has:=by unfold W.has;rw[gg.tk];dsimp only;rw[gb.tk];dsimp only;rw[gs.tk,gh.tk]
   have e1:a.2.has=σ.has:=by unfold W.has;rw[gh.tk]
   have i2:=ts.inc;have i3:=tb.2.1;have i4:=tg.2.1;have i5:=tm.2.1;rw[show(W.has {s.2 with env:=Cn σ.env (sf.map (·.name)) s.1.inner})=s.2.has from rfl,e2]at i3;rw[show(W.has {b.2 with env:=Cn σ.env sn s.1.own})=b.2.has from rfl,e3]at i4;rw[e4]at i5;rw[e1]at i2;have hr0:(a.1.rep.name=ByteArray.empty):=th.rep.1.2 (hz.1 hk);simp only[jk3,jt2,Dm,Pr.kind,Pr.name,Pr.av,Pr.aj,Pr.au,Pr.rep,Pr.ak,Pr.l,Pr.ay,Pr.spec,Sp.kind,Sp.type,Sp.names,Sp.e,Sp.aN,Sp.ax,Sp.body,true_and];refine⟨⟨th.name,th.av,th.aj,th.au,th.rep,tg.1,tm.1,ts.type,ts.names,ts.e,ts.ax,tb.1⟩,?_,?_,?_⟩
   ·refine th.inc.app ?_;rw[<-Eg];exact i2.app (i3.app (i4.app i5))
   ·rw[Ad hr0,Ad (hz.1 hk)];simp only[Ag,Ab,ts.len.1,ts.len.2,tb.2.2.1,tg.2.2.1,tm.2.2.1]
   ·rw[tb.2.2.2,tg.2.2.2,tm.2.2.2]
  ·rw[Af hk]at hb ⊢;have hsp:=hz.2.1 hk;simp only[sp0,Sp.mk.injEq]at hsp;obtain⟨rfl,rfl,rfl,rfl,rfl,rfl,rfl⟩:=hsp;have gg:=Il ak {a.2 with env:=Cn σ.env (if rep.name=ByteArray.empty then [] else [rep.name]) a.1.own};have tg:=λh hb=>mo6 ak {a.2 with env:=Cn σ.env (if rep.name=ByteArray.empty then [] else [rep.name]) a.1.own} h (by dsimp only;omega) hb a3;generalize Gl {a.2 with env:=Cn σ.env (if rep.name=ByteArray.empty then [] else [rep.name]) a.1.own} ak=g at gg tg hb ⊢;have q4:=gg.lo (by dsimp only;omega);have gm:=Gz l g.2;have tm:=λh hb=>kl3 l g.2 h (by dsimp only at q4 ⊢;omega) hb a4;generalize Fx g.2 l=m at gm tm hb ⊢;have q5:=gm.lo (by dsimp only at q4 ⊢;omega);dsimp only at q4 q5 hb ⊢;have th:=th (by omega);have tg:=tg (NmE.push _ h th.own) (by omega);have tm:=tm (by rw[gg.env];exact NmE.push _ h th.own) (by omega);have e1:a.2.has=σ.has:=by unfold W.has;rw[gh.tk]
   have e4:g.2.has=σ.has:=by unfold W.has;rw[gg.tk];dsimp only;rw[gh.tk]
   have i4:=tg.2.1;have i5:=tm.2.1;rw[show(W.has {a.2 with env:=Cn σ.env (if rep.name=ByteArray.empty then [] else [rep.name]) a.1.own})=a.2.has from rfl,e1]at i4;rw[e4]at i5;simp only[jk3,jt2,Dm,jd4,y9,jd5,Pr.kind,Pr.name,Pr.av,Pr.aj,Pr.au,Pr.rep,Pr.ak,Pr.l,Pr.ay,Pr.spec,Sp.kind,Sp.type,Sp.names,Sp.e,Sp.aN,Sp.ax,Sp.body,true_and,Bj,Ae];refine⟨⟨th.name,th.av,th.aj,th.au,th.rep,tg.1,tm.1,.refl _,⟨rfl,λh=>h⟩,Gc.refl _,trivial⟩,?_,?_,?_⟩
   ·exact th.inc.app (i4.app i5)
   ·have hr:=th.rep.1;by_cases hr0:rep.name=ByteArray.empty
    ·rw[Ad hr0,Ad (hr.2 hr0)];simp only[Ag,Az,tg.2.2.1,tm.2.2.1]
    ·rw[Af hr0,Af (λe=>hr0 (hr.1 e))];simp only[Ag,Aj,Az,tg.2.2.1,tm.2.2.1]
   ·rw[tg.2.2.2,tm.2.2.2]
theorem kl3:∀ (l:List Pr) (σ:W),NmE σ.env->0<=σ.count->(Fx σ l).2.count<=Bd->ja1 l->y9 l (Fx σ l).1/\Ny σ.has σ.count (jd4 (Fx σ l).1) (Fx σ l).2.count/\(jd4 (Fx σ l).1).length=(jd4 l).length/\Jl (Fx σ l).1=Jl l
 |[],σ,_,h0,_,_=>by simp only[Fx,y9,jd4,Jl,Ny,true_and,and_true];exact Eu _
 |p::l,σ,h,h0,hb,ha=>by
  simp only[ja1]at ha;simp only[Fx]at hb ⊢;have g1:=Nb p σ;have t1:=λhb=>qo1 p σ h h0 hb ha.1;generalize Fz σ p=a at g1 t1 hb ⊢;have q1:=g1.lo h0;have g2:=Gz l a.2;have t2:=kl3 l a.2 (by rw[g1.env];exact h) (by omega) hb ha.2;have q2:=g2.lo (by omega);have t1:=t1 (by omega);have e1:a.2.has=σ.has:=by unfold W.has;rw[g1.tk]
  rw[e1]at t2;simp only[y9,jd4,Jl];exact⟨⟨_,_,rfl,t1.1,t2.1⟩,t1.2.1.app t2.2.1,by simp only[Ag,t1.2.2.1,t2.2.2.1],by rw[t1.2.2.2,t2.2.2.2]⟩
theorem vh8:∀ (p:Gu) (σ:W),NmE σ.env->0<=σ.count->(Ju σ p).2.count<=Bd->ja1 p.body->jn9 p (Ju σ p).1/\Ny σ.has σ.count (kd3 (Ju σ p).1) (Ju σ p).2.count/\(kd3 (Ju σ p).1).length=(kd3 p).length/\Jc (Ju σ p).1=Jc p
 |.mk kind name cond av aj values time body,σ,h,h0,hb,ha=>by
  simp only[Gu.body]at ha;have g1:=Ox σ cond av aj values time;have t1:=qo0 h cond av aj values time;simp only[Ju]at hb ⊢;generalize Hy σ cond av aj values time=a at g1 t1 hb ⊢;have q1:=g1.lo h0;have t2:=kl3 body a.2 (by rw[g1.env];exact h) (by omega) hb ha;have e1:a.2.has=σ.has:=by unfold W.has;rw[g1.tk]
  rw[e1]at t2;simp only[jn9,kd3,Jc,Gu.kind,Gu.name,Gu.cond,Gu.av,Gu.aj,Gu.values,Gu.time,Gu.body,true_and];exact⟨⟨t1.1,t1.2.1,t1.2.2.1,t1.2.2.2.1,t1.2.2.2.2,t2.1⟩,t2.2.1.down q1,t2.2.2.1,by rw[t2.2.2.2]⟩
theorem mo6:∀ (l:List Gu) (σ:W),NmE σ.env->0<=σ.count->(Gl σ l).2.count<=Bd->je2 l->n7 l (Gl σ l).1/\Ny σ.has σ.count (jf8 (Gl σ l).1) (Gl σ l).2.count/\(jf8 (Gl σ l).1).length=(jf8 l).length/\Kc (Gl σ l).1=Kc l
 |[],σ,_,h0,_,_=>by simp only[Gl,n7,jf8,Kc,Ny,true_and,and_true];exact Eu _
 |.mk kind name cond av aj values time body::l,σ,h,h0,hb,ha=>by
  simp only[je2]at ha;simp only[Gl]at hb ⊢;have g1:=qk1 (.mk kind name cond av aj values time body) σ;have t1:=λhb=>vh8 (.mk kind name cond av aj values time body) σ h h0 hb ha.1;generalize Ju σ (.mk kind name cond av aj values time body)=a at g1 t1 hb ⊢;have q1:=g1.lo h0;have g2:=Il l a.2;have t2:=mo6 l a.2 (by rw[g1.env];exact h) (by omega) hb ha.2;have q2:=g2.lo (by omega);have t1:=t1 (by omega);have e1:a.2.has=σ.has:=by unfold W.has;rw[g1.tk]
  rw[e1]at t2;rw[n7,jf8,Kc,jf8,Kc];exact⟨⟨_,_,rfl,t1.1,t2.1⟩,t1.2.1.app t2.2.1,by simp only[Ag,t1.2.2.1,t2.2.2.1],by rw[t1.2.2.2,t2.2.2.2]⟩
end
end Sc
end
section
namespace Sc
open Lx
theorem mh7 {s x:ByteArray}:∀ {tk:List (ByteArray × Int)},s∈(Mr tk x).map (·.1)↔s∈tk.map (·.1)\/s=x
 |[]=>by simp[Mr]
 |y::l=>by
  simp only[Mr];split
  ·rename_i h;simp only[List.map_cons,Bc]
   grind
  ·simp only[List.map_cons,Bc,mh7 (tk:=l)]
   grind
theorem kb2 {s:ByteArray}:∀ (l:List ByteArray) (tk:List (ByteArray × Int)),s∈(Dt tk l).map (·.1)↔s∈tk.map (·.1)\/s∈l
 |[],tk=>by simp[Dt]
 |x::l,tk=>by
  rw[show Dt tk (x::l)=Dt (Mr tk x) l from rfl,kb2 l,mh7,Bc,or_assoc]
theorem jx3 {p:Pr}{s:ByteArray}:(start (Di p)).has s↔s∈Cy p\/s∈Dm p:=by
 unfold W.has Di;show s∈(Dt (Dt [] (Cy p)) (Dm p)).map (·.1)↔_;rw[kb2,kb2];simp
theorem Rh (tk tk':List (ByteArray × Int))(p:Pr):(Fz (start tk) p).2.ev=(Fz (start tk') p).2.ev:=
 (ro3 (E:=False) p (start tk) (start tk') ⟨λs=>Mx.refl _ _,λh=>h.elim,rfl,λh=>h.elim⟩).2.ev
theorem ks7 (ns:List ByteArray):∀ ev:List (ByteArray × Bool),(Hq ns ev).2=0->∀ e∈ev,e.2=false
 |[],_,e,he=>by cases he
 |(x,true)::l,h,_,_=>by simp[Hq]at h
 |(x,false)::l,h,e,he=>by
  simp only[Hq,Bb,if_false]at h;split at h
  ·rcases Bc.1 he with rfl|he
   ·rfl
   ·exact ks7 ns l h e he
  ·simp at h
theorem mu6 {p:Pr}(h:Gq p=true):(Fz (start (Di p)) p).2.count<=Bd:=by
 obtain⟨h1,h2⟩:=je8 h;have h3:=ky0 p h1;have hg:=(Nb p (start [])).ev;have hlen:=Le (Fz (start []) p).2.ev;have ho:=ky2 (Ho (Fz (start []) p).2.ev);have hs:(start []).ev.length=0:=rfl;have hf:(Cy p).length<=prN p:=by unfold Cy;omega
 have l1:=jp4 (Cy p) [];have l2:=jp4 (Dm p) (Dt [] (Cy p));rw[Az]at l1;have l3:(Di p).length<=184400000:=by unfold Di;omega
 have hc:=(Nb p (start (Di p))).hi (Eu 0);have h4:(start (Di p)).count=0:=rfl;have h5:(start (Di p)).tk=Di p:=rfl;rw[h4,h5]at hc;have h6:prN p * ((Di p).length+1)<=184400000 * 184400001:=Nat.mul_le_mul (by omega) (by omega);have h7:((prN p:Int) * ((Di p).length+1))=((prN p * ((Di p).length+1):Nat):Int):=by rw[Int.natCast_mul];rfl
 rw[h7]at hc;unfold Bd;omega
end Sc
end
section
namespace Sc
open Lx
theorem qo2 (p:Pr)(h:Gn p≠0):Gn p=2\/Gn p=121:=by
 unfold Gn at h ⊢;split
 ·rename_i hm;rw[Ad hm]at h;rcases qa5 hm with hf|⟨s,_,hf⟩
  ·rw[hf]at h;exact absurd rfl h
  ·rw[hf];exact .inr rfl
 ·exact .inl rfl
theorem mu7 {p:Pr}(h:Gn p=0):Gq p=true/\(Ja p (Cy p)).2=0:=by
 unfold Gn at h;split at h
 ·rename_i hm;exact⟨hm,h⟩
 ·cases h
end Sc
end
end Go.Proofs.YtklklgfpkpglgaaGreatDoor
