/- Parts. -/
import Derived.Test.YtklklgfpkpglgaaGreatDoorW35
import Derived.Test.YtklklgfpkpglgaaGreatDoorW43
set_option linter.all false
set_option maxRecDepth 100000
set_option maxHeartbeats 0
namespace Go.Proofs.YtklklgfpkpglgaaGreatDoor
open Go.RowKit Go.Proofs.Tryz Sc Lx
section
namespace Sc
open Classical
variable {old fr:ByteArray}{m:Bool}
end Sc
end
section
namespace Sc
open Lx
def nmL (b:Bool)(s t:ByteArray):Prop:=if b then (Cy s=true->Cy t=true) else t=s
mutual
def Gh:Ex->Ex->Prop
 |.mk kind op ty n s l,.mk kind' op' ty' n' s' l'=>kind'=kind/\op'=op/\ty'=ty/\n'=n/\nmL (Dm kind) s s'/\Du l l'
def Du:List Ex->List Ex->Prop
 |[],m=>m=[]
 |e::l,m=>∃ f r,m=f::r/\Gh e f/\Du l r
end
theorem nmL.refl (b:Bool)(s:ByteArray):nmL b s s:=by unfold nmL;split<;>simp
mutual
theorem Gh.refl:∀ e:Ex,Gh e e
 |.mk kind op ty n s l=>by simp only[Gh,Ex.kind,Ex.op,Ex.ty,Ex.n,Ex.s,Ex.l,true_and];exact⟨.refl _ _,Du.refl l⟩
theorem Du.refl:∀ l:List Ex,Du l l
 |[]=>by simp[Du]
 |e::l=>by simp only[Du];exact⟨e,l,rfl,Gh.refl e,Du.refl l⟩
end
theorem Ku:∀ {l m:List Ex},Du l m->m.length=l.length
 |[],m,h=>by simp only[Du]at h;rw[h]
 |e::l,m,h=>by
  simp only[Du]at h;obtain⟨f,r,rfl,_,h2⟩:=h;simp only[An,Ku h2]
theorem kk0 (p:Ex->Bool)(hp:∀ e f,Gh e f->p e=true->p f=true):∀ {l m:List Ex},Du l m->l.all p=true->m.all p=true
 |[],m,h,_=>by simp only[Du]at h;rw[h];rfl
 |e::l,m,h,ha=>by
  simp only[Du]at h;obtain⟨f,r,rfl,h1,h2⟩:=h;simp only[Ei,Ab]at ha ⊢;exact⟨hp e f h1 ha.1,kk0 p hp h2 ha.2⟩
theorem me5 {e:Ex}(h:Gh ex0 e):e=ex0:=by
 obtain⟨kind,op,ty,n,s,l⟩:=e;simp only[Gh,Du,ex0,nmL,Dm,Ex.kind,Ex.op,Ex.ty,Ex.n,Ex.s,Ex.l]at h ⊢;obtain⟨rfl,rfl,rfl,rfl,h1,rfl⟩:=h;simp at h1;rw[h1]
theorem mw0 {kind op ty n:Int}{s t:ByteArray}(h:nmL (Dm kind) s t)(ho:(Jf kind op ty n s).2=true):Jf kind op ty n t=Jf kind op ty n s:=by
 unfold nmL at h;by_cases hk:Dm kind=true
 ·rw[Ae hk]at h;unfold Dm at hk;simp only[Bq,Ee]at hk;unfold Jf at ho ⊢;rcases hk with (rfl|rfl)|rfl
  all_goals
   simp only[Int.reduceEq,if_false,if_true,or_false,or_true,false_or,true_or,or_self]at ho ⊢;cases hs:Cy s with
   |false=>simp[hs]at ho
   |true=>simp[h hs]
 ·rw[Af hk]at h;rw[h]
theorem qi2 {e f:Ex}(h:Gh e f):f.kind=e.kind/\f.op=e.op/\f.ty=e.ty/\f.n=e.n/\nmL (Dm e.kind) e.s f.s/\Du e.l f.l:=by
 obtain⟨kind,op,ty,n,s,l⟩:=e;obtain⟨kind',op',ty',n',s',l'⟩:=f;simp only[Gh]at h;obtain⟨rfl,rfl,rfl,rfl,h1,h2⟩:=h;exact⟨rfl,rfl,rfl,rfl,h1,h2⟩
theorem qy3 {e f:Ex}(h:Gh e f)(ho:Kt e=true):Kt f=true:=by
 obtain⟨e1,e2,e3,e4,h1,h2⟩:=qi2 h;unfold Kt at ho ⊢;rw[Ab]at ho ⊢;rw[e1,e2,e3,e4,mw0 h1 ho.1,Ku h2];exact ho
mutual
theorem kq9:∀ {e f:Ex} (d left:Int),Gh e f->(Dn d left e).1=true->Dn d left f=Dn d left e
 |.mk kind op ty n s l,.mk kind' op' ty' n' s' l',d,left,h,hv=>by
  have hw:=qy3 h;simp only[Gh,Ex.kind,Ex.op,Ex.ty,Ex.n,Ex.s,Ex.l]at h;obtain⟨rfl,rfl,rfl,rfl,h1,h2⟩:=h;rw[Dn]at hv ⊢;rw[Dn];by_cases hc:Kt (.mk kind' op' ty' n' s l)=false\/left - 1<0\/32<d
  ·rw[Ae hc]at hv;cases hv
  ·rw[Af hc]at hv ⊢;have ho:Kt (.mk kind' op' ty' n' s l)=true:=by
    cases h3:Kt (.mk kind' op' ty' n' s l) with
    |true=>rfl
    |false=>exact absurd (.inl h3) hc
   rw[Af (λh=>hc (h.elim (λh=>by rw[hw ho]at h;cases h) .inr))];exact kk1 _ _ h2 hv
theorem kk1:∀ {l m:List Ex} (d left:Int),Du l m->(Fx d left l).1=true->Fx d left m=Fx d left l
 |[],m,d,left,h,_=>by simp only[Du]at h;rw[h]
 |e::l,m,d,left,h,hv=>by
  simp only[Du]at h;obtain⟨f,r,rfl,h1,h2⟩:=h;rw[Fx]at hv ⊢;rw[Fx];by_cases hc:(Dn d left e).1=true
  ·rw[Ae hc]at hv ⊢;rw[kq9 d left h1 hc,Ae hc];exact kk1 _ _ h2 hv
  ·rw[Af hc]at hv;exact absurd hv hc
end
theorem je3 {e f:Ex}(h:Gh e f)(hm:Gc e=true):Gc f=true:=by
 unfold Gc at hm ⊢;rw[kq9 _ _ h hm];exact hm
theorem qi3 {e f:Ex}(h:Gh e f):f.kind=e.kind:=by
 obtain⟨kind,op,ty,n,s,l⟩:=e;obtain⟨kind',op',ty',n',s',l'⟩:=f;simp only[Gh]at h;exact h.1
theorem jn0 {e f:Ex}(h:Gh e f)(hm:Gd e=true):Gd f=true:=by
 unfold Gd at hm ⊢;rw[Ab]at hm ⊢;rw[qi3 h];exact⟨hm.1,je3 h hm.2⟩
theorem jb5 {e f:Ex}(h:Gh e f)(hm:Iy e=true):Iy f=true:=by
 unfold Iy at hm ⊢;rw[r8]at hm ⊢;subst hm;exact me5 h
def me6 (l m:List ByteArray):Prop:=m.length=l.length/\((∀ s∈l,Cy s=true)->∀ s∈m,Cy s=true)
def mr4 (s t:ByteArray):Prop:=(Cy s=true->Cy t=true)/\(s=ByteArray.empty->t=ByteArray.empty)
def me7 (r q:Rp):Prop:=(q.name=ByteArray.empty↔r.name=ByteArray.empty)/\(Cy r.name=true->Cy q.name=true)/\Gh r.base q.base/\Gh r.count q.count
def Rl (t u:Ty):Prop:=(Ol t=true->Ol u=true)/\(Qp t=true->Qp u=true)/\(t=ty0->u=ty0)
def rg4 (f g:Fo):Prop:=g.val=f.val/\Rl f.type g.type/\(Cy f.name=true->Cy g.name=true)
def jd9:List Fo->List Fo->Prop
 |[],m=>m=[]
 |f::l,m=>∃ g r,m=g::r/\rg4 f g/\jd9 l r
mutual
def jl2:Pr->Pr->Prop
 |.mk kind name av aj au rep ak l ay (.mk sk st sn se spp sf sb),p=>p.kind=kind/\mr4 name p.name/\Gh av p.av/\Du aj p.aj/\Du au p.au/\me7 rep p.rep/\p9 ak p.ak/\z6 l p.l/\p.ay=ay/\
  p.spec.kind=sk/\Rl st p.spec.type/\me6 sn p.spec.names/\Gh se p.spec.e/\p.spec.aN=spp/\jd9 sf p.spec.ax/\z6 sb p.spec.body
def z6:List Pr->List Pr->Prop
 |[],m=>m=[]
 |p::l,m=>∃ q r,m=q::r/\jl2 p q/\z6 l r
def jp0:Gu->Gu->Prop
 |.mk kind name cond av aj values time body,g=>g.kind=kind/\g.name=name/\Gh cond g.cond/\Gh av g.av/\Du aj g.aj/\Du values g.values/\Gh time g.time/\z6 body g.body
def p9:List Gu->List Gu->Prop
 |[],m=>m=[]
 |g::l,m=>∃ k r,m=k::r/\jp0 g k/\p9 l r
end
theorem je0:∀ {l m:List Pr},z6 l m->m.length=l.length
 |[],m,h=>by simp only[z6]at h;rw[h]
 |e::l,m,h=>by
  simp only[z6]at h;obtain⟨f,r,rfl,_,h2⟩:=h;simp only[An,je0 h2]
theorem Mx:∀ {l m:List Gu},p9 l m->m.length=l.length
 |[],m,h=>by simp only[p9]at h;rw[h]
 |e::l,m,h=>by
  simp only[p9]at h;obtain⟨f,r,rfl,_,h2⟩:=h;simp only[An,Mx h2]
theorem jv1:∀ {l m:List Fo},jd9 l m->m.length=l.length
 |[],m,h=>by simp only[jd9]at h;rw[h]
 |e::l,m,h=>by
  simp only[jd9]at h;obtain⟨f,r,rfl,_,h2⟩:=h;simp only[An,jv1 h2]
theorem jo3 (p:Ex->Bool)(hp:∀ e f,Gh e f->p e=true->p f=true){l m:List Ex}(a b:Int)(h:Du l m)(he:Co l a b p=true):Co m a b p=true:=by
 unfold Co at he ⊢;rw[Ab]at he ⊢;rw[Ku h];exact⟨he.1,kk0 p hp h he.2⟩
theorem qi4 {g k:Gu}(h:jp0 g k):k.kind=g.kind/\k.name=g.name/\Gh g.cond k.cond/\Gh g.av k.av/\Du g.aj k.aj/\Du g.values k.values/\Gh g.time k.time/\z6 g.body k.body:=by
 obtain⟨kind,name,cond,av,aj,values,time,body⟩:=g;simp only[jp0]at h;exact h
theorem mw1 {g k:Gu}(h:jp0 g k)(hm:Jw g=true):Jw k=true:=by
 obtain⟨e1,e2,h1,h2,h3,h4,h5,h6⟩:=qi4 h;unfold Jw at hm ⊢;rw[e1,e2,je0 h6];simp only[Ab]at hm ⊢;refine⟨⟨⟨⟨⟨⟨hm.1.1.1.1.1.1,?_⟩,hm.1.1.1.1.2⟩,?_⟩,?_⟩,?_⟩,?_⟩
 ·have:=hm.1.1.1.1.1.2;split
  ·rename_i hc;rw[Ae hc]at this;rw[Bq,Ab]at this ⊢;exact this.imp (je3 h1) λh=>⟨h.1,jb5 h1 h.2⟩
  ·rename_i hc;rw[Af hc]at this;exact jb5 h1 this
 ·have:=hm.1.1.1.2;split
  ·rename_i hc;rw[Ae hc]at this;exact jn0 h2 this
  ·rename_i hc;rw[Af hc]at this;exact jb5 h2 this
 ·have:=hm.1.1.2;split
  ·rename_i hc;rw[Ae hc]at this;exact je3 h5 this
  ·rename_i hc;rw[Af hc]at this;exact jb5 h5 this
 ·exact jo3 _ (λe f=>jn0) _ _ h3 hm.1.2
 ·exact jo3 _ (λe f=>je3) _ _ h4 hm.2
theorem kk2 (p:Gu->Bool)(hp:∀ e f,jp0 e f->p e=true->p f=true):∀ {l m:List Gu},p9 l m->l.all p=true->m.all p=true
 |[],m,h,_=>by simp only[p9]at h;rw[h];rfl
 |e::l,m,h,ha=>by
  simp only[p9]at h;obtain⟨f,r,rfl,h1,h2⟩:=h;simp only[Ei,Ab]at ha ⊢;exact⟨hp e f h1 ha.1,kk2 p hp h2 ha.2⟩
theorem me8 {g k:Gu}(h:jp0 g k):k.kind=g.kind:=by
 obtain⟨kind,name,cond,av,aj,values,time,body⟩:=g;simp only[jp0]at h;exact h.1
theorem mw2 {f g:Fo}(h:rg4 f g)(hm:Md f=true):Md g=true:=by
 unfold Md at hm ⊢;rw[Ab,Ab,Bq]at hm ⊢;rw[h.1];exact⟨⟨h.2.2 hm.1.1,h.2.1.1 hm.1.2⟩,hm.2.imp id h.2.1.2.1⟩
theorem kk3:∀ {l m:List Fo},jd9 l m->l.all Md=true->m.all Md=true
 |[],m,h,_=>by simp only[jd9]at h;rw[h];rfl
 |e::l,m,h,ha=>by
  simp only[jd9]at h;obtain⟨f,r,rfl,h1,h2⟩:=h;simp only[Ei,Ab]at ha ⊢;exact⟨mw2 h1 ha.1,kk3 h2 ha.2⟩
theorem jj6 {l m:List ByteArray}(a b:Int)(h:me6 l m)(he:Co l a b Cy=true):Co m a b Cy=true:=by
 unfold Co at he ⊢;rw[Ab,By]at he ⊢;rw[h.1];exact⟨he.1,h.2 he.2⟩
theorem rn1 {α:Type}{l:List α}(h:l.length=0):l=[]:=As h
structure Wi (s t:Sp):Prop where
 kind:t.kind=s.kind
 type:Rl s.type t.type
 names:me6 s.names t.names
 e:Gh s.e t.e
 aN:t.aN=s.aN
 ax:jd9 s.ax t.ax
 body:z6 s.body t.body
theorem mw3 {s t:Sp}(h:Wi s t)(hm:Ic s=true):Ic t=true:=by
 have h1:=h.type;have h2:=h.names;have h3:=h.e;have h4:=h.ax;unfold Ic at hm ⊢;rw[h.kind,h.aN,jv1 h4,je0 h.body];by_cases k1:s.kind=1
 ·rw[Ae k1]at hm ⊢;simp only[Ab]at hm ⊢;exact⟨⟨⟨⟨⟨h1.1 hm.1.1.1.1.1,jj6 _ _ h2 hm.1.1.1.1.2⟩,jb5 h3 hm.1.1.1.2⟩,hm.1.1.2⟩,hm.1.2⟩,hm.2⟩
 rw[Af k1]at hm ⊢;by_cases k2:s.kind=2
 ·rw[Ae k2]at hm ⊢;simp only[Ab]at hm ⊢;exact⟨⟨⟨⟨⟨h1.2.1 hm.1.1.1.1.1,je3 h3 hm.1.1.1.1.2⟩,jj6 _ _ h2 hm.1.1.1.2⟩,hm.1.1.2⟩,hm.1.2⟩,hm.2⟩
 rw[Af k2]at hm ⊢;by_cases k3:s.kind=3
 ·rw[Ae k3]at hm ⊢;simp only[Ab]at hm ⊢;exact⟨⟨⟨⟨⟨h1.2.1 hm.1.1.1.1.1,jn0 h3 hm.1.1.1.1.2⟩,jj6 _ _ h2 hm.1.1.1.2⟩,hm.1.1.2⟩,hm.1.2⟩,hm.2⟩
 rw[Af k3]at hm ⊢;by_cases k4:s.kind=4
 ·rw[Ae k4]at hm ⊢;simp only[Ab,r8]at hm ⊢;exact⟨⟨⟨⟨⟨hm.1.1.1.1.1,jj6 _ _ h2 hm.1.1.1.1.2⟩,h1.2.2 hm.1.1.1.2⟩,jb5 h3 hm.1.1.2⟩,hm.1.2⟩,hm.2⟩
 rw[Af k4]at hm ⊢;by_cases k5:s.kind=5
 ·rw[Ae k5]at hm ⊢;simp only[Ab,r8]at hm ⊢;refine⟨⟨⟨⟨⟨hm.1.1.1.1.1,?_⟩,jj6 _ _ h2 hm.1.1.1.2⟩,h1.2.2 hm.1.1.2⟩,jb5 h3 hm.1.2⟩,hm.2⟩;have:=hm.1.1.1.1.2;unfold Co at this ⊢;rw[Ab]at this ⊢;rw[jv1 h4];exact⟨this.1,kk3 h4 this.2⟩
 rw[Af k5]at hm;cases hm
theorem qy4 {s:Sp}(h:Wi sp0 s):s=sp0:=by
 obtain⟨q1,q2,q3,q4,q5,q6,q7⟩:=h;obtain⟨sk,st,sn,se,spp,sf,sb⟩:=s;simp only[sp0,Sp.kind,Sp.type,Sp.names,Sp.e,Sp.aN,Sp.ax,Sp.body,jd9,z6,me6,Av]at *;rw[q1,q2.2.2 rfl,rn1 q3.1,me5 q4,q5,q6,q7]
theorem ml5 {r q:Rp}(h:me7 r q)(hm:Ii r=true):Ii q=true:=by
 unfold Ii at hm ⊢;by_cases h0:r.name=ByteArray.empty
 ·rw[Ae h0]at hm;rw[Ae (h.1.2 h0)];rw[Ab]at hm ⊢;exact⟨jb5 h.2.2.1 hm.1,jb5 h.2.2.2 hm.2⟩
 ·rw[Af h0]at hm;rw[Af (λe=>h0 (h.1.1 e))];simp only[Ab]at hm ⊢;exact⟨⟨h.2.1 hm.1.1,je3 h.2.2.1 hm.1.2⟩,je3 h.2.2.2 hm.2⟩
theorem me9 {r q:ByteArray}(u:Uses)(h:q=ByteArray.empty↔r=ByteArray.empty):Ig u q=Ig u r:=by
 unfold Ig;by_cases h0:r=ByteArray.empty
 ·rw[Ae h0,Ae (h.2 h0)]
 ·rw[Af h0,Af (λe=>h0 (h.1 e))]
structure likeAt (p q:Pr):Prop where
 kind:q.kind=p.kind
 name:mr4 p.name q.name
 av:Gh p.av q.av
 aj:Du p.aj q.aj
 au:Du p.au q.au
 rep:me7 p.rep q.rep
 ak:p9 p.ak q.ak
 l:z6 p.l q.l
 ay:q.ay=p.ay
 spec:Wi p.spec q.spec
theorem qi5 {p q:Pr}(h:jl2 p q):likeAt p q:=by
 obtain⟨kind,name,av,aj,au,rep,ak,l,ay,⟨sk,st,sn,se,spp,sf,sb⟩⟩:=p;simp only[jl2]at h;obtain⟨h1,h2,h3,h4,h5,h6,h7,h8,h9,h10,h11,h12,h13,h14,h15,h16⟩:=h;exact⟨h1,h2,h3,h4,h5,h6,h7,h8,h9,h10,h11,h12,h13,h14,h15,h16⟩
theorem mw4 {p q:Pr}(h:jl2 p q)(hm:Gv p=true):Gv q=true:=by
 obtain⟨hk,hn,hc,ht,he,hr,hg,hl,hp,hs⟩:=qi5 h;unfold Gv at hm ⊢;rw[hk,hp,me9 _ hr.1,je0 hl];generalize Ig (Gx p.kind).1 p.rep.name=u at hm ⊢;simp only[Ab,Bq,Aj]at hm ⊢;obtain⟨⟨⟨m1,m2⟩,m3⟩,⟨⟨⟨⟨⟨⟨m4,m5⟩,m6⟩,m7⟩,m8⟩,m9⟩,m10⟩,m11⟩:=hm;refine⟨⟨⟨m1,ml5 hr m2⟩,m3.imp hr.1.2 id⟩,⟨⟨⟨⟨⟨⟨m4,?_⟩,?_⟩,?_⟩,jo3 _ (λe f=>jn0) _ _ ht m8⟩,jo3 _ (λe f=>je3) _ _ he m9⟩,m10⟩,?_⟩
 ·unfold Co at m5 ⊢;rw[Ab]at m5 ⊢;rw[Mx hg];refine⟨m5.1,kk2 _ (λg k hgk hq=>?_) hg m5.2⟩;rw[me8 hgk];simp only[Ab]at hq ⊢;exact⟨hq.1,mw1 hgk hq.2⟩
 ·split
  ·rename_i hu;rw[Ae hu]at m6;exact hn.1 m6
  ·rename_i hu;rw[Af hu,Aj]at m6;rw[Aj];exact hn.2 m6
 ·split
  ·rename_i hu;rw[Ae hu]at m7;exact jn0 hc m7
  ·rename_i hu;rw[Af hu]at m7;exact jb5 hc m7
 ·split
  ·rename_i hu;rw[Ae hu]at m11;exact mw3 hs m11
  ·rename_i hu;rw[Af hu,r8]at m11;rw[r8];rw[m11]at hs;exact qy4 hs
mutual
theorem jq6:∀ {p q:Pr} (d left:Int) (pl:Bool),jl2 p q->(Dw d left pl p).1=true->Dw d left pl q=Dw d left pl p
 |.mk kind name av aj au rep ak l ay (.mk sk st sn se spp sf sb),.mk kind' name' chan' targets' exprs' rep' guards' l' procs' (.mk sk' st' sn' se' spp' sf' sb'),d,left,pl,h,hv=>by
  have hw:=mw4 h;simp only[jl2,Pr.kind,Pr.name,Pr.av,Pr.aj,Pr.au,Pr.rep,Pr.ak,Pr.l,Pr.ay,Pr.spec,Sp.kind,Sp.type,Sp.names,Sp.e,Sp.aN,Sp.ax,Sp.body]at h;obtain⟨rfl,hn,hc,ht,he,hr,hg,hl,rfl,rfl,hst,hsn,hse,rfl,hsf,hsb⟩:=h;rw[Dw]at hv ⊢;rw[Dw];by_cases c1:left - 1<0\/32<d\/Gv (.mk kind' name av aj au rep ak l procs' (.mk sk' st sn se spp' sf sb))=false\/(kind'=11/\pl=false)
  ·rw[Ae c1]at hv;cases hv
  rw[Af c1]at hv ⊢;have ho:Gv (.mk kind' name av aj au rep ak l procs' (.mk sk' st sn se spp' sf sb))=true:=by
   cases h3:Gv (.mk kind' name av aj au rep ak l procs' (.mk sk' st sn se spp' sf sb)) with
   |true=>rfl
   |false=>exact absurd (.inr (.inr (.inl h3))) c1
  rw[Af (λh=>c1 (h.imp id λh=>h.imp id λh=>h.imp (λh=>by rw[hw ho]at h;cases h) id))];by_cases c2:kind'=18/\spp'.cases=true/\32<d+2
  ·rw[Ae c2]at hv;cases hv
  rw[Af c2]at hv ⊢;rw[Af c2];dsimp only at hv ⊢;have hb:(if kind'=18 then Cs (d+1) (left - 1) sb else (true,left - 1)).1=true->(if kind'=18 then Cs (d+1) (left - 1) sb' else (true,left - 1))=(if kind'=18 then Cs (d+1) (left - 1) sb else (true,left - 1)):=by
   split
   ·exact mf0 _ _ hsb
   ·exact λ_=>rfl
  generalize (if kind'=18 then Cs (d+1) (left - 1) sb else (true,left - 1))=b at hb hv ⊢;by_cases c3:b.1=false
  ·rw[Ae c3]at hv;cases hv
  rw[Af c3]at hv ⊢;rw[hb (by simpa using c3),Af c3];have hm:=jx5 (if kind'=11 then d+2 else if kind'=18 then d else d+1) b.2 (pl && decide (kind'=18)) hl;generalize Dz (if kind'=11 then d+2 else if kind'=18 then d else d+1) b.2 (pl && decide (kind'=18)) l=m at hm hv ⊢;by_cases c4:m.1=false
  ·rw[Ae c4]at hv;cases hv
  rw[Af c4]at hv ⊢;rw[hm (by simpa using c4),Af c4];exact jx6 _ _ hg hv
theorem mf0:∀ {l m:List Pr} (d left:Int),z6 l m->(Cs d left l).1=true->Cs d left m=Cs d left l
 |[],m,d,left,h,_=>by simp only[z6]at h;rw[h]
 |e::l,m,d,left,h,hv=>by
  simp only[z6]at h;obtain⟨f,r,rfl,h1,h2⟩:=h;rw[Cs]at hv ⊢;rw[Cs];exact jq6 d left false h1 hv
theorem jx5:∀ {l m:List Pr} (d left:Int) (pl:Bool),z6 l m->(Dz d left pl l).1=true->Dz d left pl m=Dz d left pl l
 |[],m,d,left,pl,h,_=>by simp only[z6]at h;rw[h]
 |e::l,m,d,left,pl,h,hv=>by
  simp only[z6]at h;obtain⟨f,r,rfl,h1,h2⟩:=h;rw[Dz]at hv ⊢;rw[Dz];by_cases hc:(Dw d left pl e).1=true
  ·rw[Ae hc]at hv ⊢;rw[jq6 d left pl h1 hc,Ae hc];exact jx5 _ _ _ h2 hv
  ·rw[Af hc]at hv;exact absurd hv hc
theorem jx6:∀ {l m:List Gu} (d left:Int),p9 l m->(Gw d left l).1=true->Gw d left m=Gw d left l
 |[],m,d,left,h,_=>by simp only[p9]at h;rw[h]
 |.mk kind name cond av aj values time body::l,m,d,left,h,hv=>by
  simp only[p9]at h;obtain⟨⟨kind',name',cond',chan',targets',values',time',body'⟩,r,rfl,h1,h2⟩:=h;simp only[jp0,Gu.body]at h1;rw[Gw]at hv ⊢;rw[Gw];by_cases hc:(Cs d left body).1=true
  ·rw[Ae hc]at hv ⊢;rw[mf0 d left h1.2.2.2.2.2.2.2 hc,Ae hc];exact jx6 _ _ h2 hv
  ·rw[Af hc]at hv;exact absurd hv hc
end
theorem qy5 {p q:Pr}(h:jl2 p q)(hm:Gr p=true):Gr q=true:=by
 unfold Gr at hm ⊢;rw[jq6 _ _ _ h hm];exact hm
end Sc
end
section
namespace Sc
open Lx
theorem qy6:∀ (m n:Nat),n<=m->∀ c∈dec n,Kz c=true:=by
 intro m
 induction m with
 |zero=>
  intro n h c hc;obtain rfl:n=0:=by omega
  rw[dec,dif_pos (show 0<10 by omega),Bu]at hc;subst hc;rfl
 |succ m ih=>
  intro n h c hc;have key:∀ d:Nat,d<10->Kz (UInt8.ofNat (48+d))=true:=λd hd=>by
   have h2:(UInt8.ofNat (48+d)).toNat=48+d:=by rw[UInt8.toNat_ofNat'];omega
   unfold Kz digit;simp only[h2,Bq,Aj];exact .inl (.inr (by omega))
  rw[dec]at hc;split at hc
  ·rename_i h10;rw[Bu]at hc;subst hc;exact key n h10
  ·rename_i h10;rcases Bi.1 hc with hc|hc
   ·exact ih (n / 10) (by omega) c hc
   ·rw[Bu]at hc;subst hc;exact key _ (by omega)
theorem Qy:∀ (m n:Nat),n<10 ^ (m+1)->(dec n).length<=m+1
 |0,n,h=>by rw[dec,dif_pos (by simpa using h)];simp
 |m+1,n,h=>by
  rw[dec];split
  ·simp
  ·have:=Qy m (n / 10) (by rw[Nat.pow_succ]at h;omega);simp only[Ag,An,Av];omega
theorem qi6 (k:ByteArray)(hk:k∈keys):k.data[0]? ≠some 110:=by
 unfold keys at hk;simp only[Bg,List.not_mem_nil,or_false]at hk;rcases hk with rfl|rfl|rfl|rfl|rfl|rfl|rfl|rfl|rfl|rfl|rfl|rfl|rfl|rfl|rfl|rfl|rfl|rfl|rfl|rfl|rfl|rfl|rfl|rfl|rfl|rfl|rfl|rfl|rfl|rfl|rfl|rfl|rfl<;>decide
theorem kr0 (k:Nat)(h:k<10 ^ 20):Cy (aC k)=true:=by
 have h1:=Qy 19 k h;have h2:=qy6 k k (Au _);unfold Cy aC;simp only;rw[Ab,Ab,Ab,Aj,By];refine⟨⟨⟨by omega,by rfl⟩,h2⟩,?_⟩;rw[Eb,Bool.eq_false_iff];intro hk;unfold isKey at hk;obtain⟨x,hx,e⟩:=Et.1 hk;rw[Aj]at e;refine qi6 x hx ?_;rw[e];simp
def Bd:Int:=99999999999999999999
theorem ml6 (σ:W)(h0:0<=σ.count)(hb:(Cx σ).2.count<=Bd):Cy (Cx σ).1=true:=by
 obtain⟨k,h1,_,_,h2⟩:=jx0 σ h0;rw[h1];refine kr0 k ?_;rw[h2]at hb;unfold Bd at hb;omega
def NmE (f:ByteArray->List Ent):Prop:=∀ s,∀ x∈f s,Cy x.aD=true
theorem NmE.push:∀ (ns:List ByteArray) {xs:List Ent} {f:ByteArray->List Ent},NmE f->(∀ x∈xs,Cy x.aD=true)->NmE (Ck f ns xs)
 |[],[],_,h,_=>h
 |[],_::_,_,h,_=>h
 |_::_,[],_,h,_=>h
 |s::ns,x::xs,f,h,hx=>by
  simp only[Ck];refine NmE.push ns (λt y hy=>?_) λy hy=>hx y (Bh _ hy);split at hy
  ·rcases Bi.1 hy with hy|hy
   ·exact h t y hy
   ·rw[Bu]at hy;rw[hy];exact hx x Be
  ·exact h t y hy
theorem kk4 {σ:W}(h:NmE σ.env)(s:ByteArray)(hs:Cy s=true):Cy (aA σ s).1=true:=by
 unfold aA;cases h1:(σ.env s).getLast? with
 |some x=>exact h s x (List.mem_of_getLast? h1)
 |none=>exact hs
mutual
theorem jh3:∀ (e:Ex) (σ:W),NmE σ.env->Gh e (j4 σ e).1
 |.mk kind op ty n s l,σ,h=>by
  simp only[j4,Gh,true_and];have hg:(if Dm kind then aA σ s else (s,σ)).2.env=σ.env:=by
   split
   ·exact(Hu σ s).env
   ·rfl
  refine⟨?_,kb5 l _ (by rw[hg];exact h)⟩;unfold nmL;split
  ·exact kk4 h s
  ·rfl
theorem kb5:∀ (l:List Ex) (σ:W),NmE σ.env->Du l (z1 σ l).1
 |[],σ,_=>by simp[z1,Du]
 |e::l,σ,h=>by
  simp only[z1,Du];exact⟨_,_,rfl,jh3 e σ h,kb5 l _ (by rw[(Cz e σ).env];exact h)⟩
end
theorem jj7 (l:List Ex){σ:W}(h:NmE σ.env):Du l (y9 j4 σ l).1:=by rw[<-jj2];exact kb5 l σ h
theorem Rl.refl (t:Ty):Rl t t:=⟨id,id,id⟩
theorem kr1 {t:Ty}(h:Ol t=true)(hp:prim t.kind=true):t.aN=ByteArray.empty:=by
 unfold Ol at h;rw[Ae hp]at h;simp only[Ab,Aj]at h;exact h.2.2
theorem kr2 {σ:W}(h:NmE σ.env)(t:Ty):Rl t (Ie σ t).1:=by
 unfold Ie;split
 ·exact .refl t
 ·rename_i h0;refine⟨λhm=>?_,λhm=>?_,λhm=>absurd (by rw[hm];rfl) h0⟩
  ·by_cases hp:prim t.kind=true
   ·exact absurd (kr1 hm hp) h0
   ·unfold Ol at hm ⊢;dsimp only;rw[Af hp]at hm ⊢;by_cases h4:t.kind=4
    ·rw[Ae h4]at hm ⊢;by_cases hi:t.item=0
     ·rw[Ae hi]at hm ⊢;rw[Ab]at hm ⊢;exact⟨hm.1,kk4 h _ hm.2⟩
     ·rw[Af hi]at hm;simp only[Ab,Aj]at hm;exact absurd hm.2.2 h0
    ·rw[Af h4]at hm;simp only[Ab,Aj]at hm;exact absurd hm.2.2.2.2 h0
  ·unfold Qp at hm;simp only[Ab]at hm;exact absurd (kr1 hm.1.1 hm.2) h0
theorem kd5:∀ (l:List Fo) (ns:List ByteArray) (σ:W),NmE σ.env->ns.length=l.length->(∀ s∈ns,Cy s=true)->jd9 l (named (y9 Dk σ l).1 ns)
 |[],[],_,_,_,_=>by simp[y9,named,jd9]
 |[],_::_,_,_,h,_=>by cases h
 |_::_,[],_,_,h,_=>by cases h
 |f::l,s::ns,σ,h,hl,hn=>by
  simp only[y9,named,jd9];refine⟨_,_,rfl,⟨rfl,kr2 h f.type,λ_=>hn s Be⟩,kd5 l ns _ ?_ (by simpa using hl) λt ht=>hn t (Bh _ ht)⟩;rw[(Mw σ f).env];exact h
theorem kr3 {has:ByteArray->Prop}{l:List Ent}{c d:Int}(h:Incr has c l d)(hd:d<=Bd):∀ x∈l,Cy x.aD=true:=λx hx=>by
 obtain⟨k,h1,_,h2,_⟩:=Uq h x hx;rw[h1];refine kr0 k ?_;unfold Bd at hd;omega
theorem qy7 (tag:Bool)(l:List Ex){σ:W}(h:NmE σ.env):Du l (Fw tag σ l).1:=by
 cases tag with
 |false=>rw[ka9];exact jj7 l h
 |true=>
  cases l with
  |nil=>simp[Fw,Du]
  |cons e l=>
   simp only[Fw,if_true,Du];exact⟨_,_,rfl,Gh.refl e,jj7 l h⟩
def Oh (has:ByteArray->Prop):Int->List ByteArray->Int->Prop
 |c,[],d=>c<=d
 |c,s::l,d=>∃ k:Nat,s=aC k/\c<k/\¬has (aC k)/\Oh has k l d
theorem Oh.of {has:ByteArray->Prop}:∀ {l:List Ent} {c d:Int},Incr has c l d->Oh has c (l.map (·.aD)) d
 |[],_,_,h=>h
 |_::_,_,_,⟨k,h1,h2,h3,h4⟩=>⟨k,h1,h2,h3,Oh.of h4⟩
theorem Oh.down {has:ByteArray->Prop}{l:List ByteArray}{c c' d:Int}(h:Oh has c l d)(hc:c'<=c):Oh has c' l d:=by
 cases l with
 |nil=>exact Int.le_trans hc h
 |cons s l=>obtain⟨k,h1,h2,h3,h4⟩:=h;exact⟨k,h1,by omega,h3,h4⟩
theorem Oh.app {has:ByteArray->Prop}:∀ {l m:List ByteArray} {c d e:Int},Oh has c l d->Oh has d m e->Oh has c (l++m) e
 |[],_,_,_,_,h,h'=>h'.down h
 |_::_,_,_,_,_,⟨k,h1,h2,h3,h4⟩,h'=>⟨k,h1,h2,h3,h4.app h'⟩
structure HeadNew (σ:W)(sk:Int)(st:Ty)(sn:List ByteArray)(se:Ex)(spp:Pt)(sf:List Fo)(a:Head × W):Prop where
 type:Rl st a.1.type
 names:me6 sn a.1.names
 e:Gh se a.1.e
 ax:jd9 sf a.1.ax
 own:∀ x∈a.1.own,Cy x.aD=true
 inner:∀ x∈a.1.inner,Cy x.aD=true
 inc:Oh σ.has σ.count (a.1.names++a.1.ax.map (·.name)) a.2.count
 len:a.1.names.length=sn.length/\a.1.ax.length=sf.length
theorem qy8 {σ:W}(h:NmE σ.env)(h0:0<=σ.count)(sk:Int)(st:Ty)(sn:List ByteArray)(se:Ex)(spp:Pt)(sf:List Fo)(hb:(Hf σ (.mk sk st sn se spp sf [])).2.count<=Bd):HeadNew σ sk st sn se spp sf (Hf σ (.mk sk st sn se spp sf [])):=by
 unfold Hf at *;dsimp only[Sp.names,Sp.ax,Sp.type,Sp.e,Sp.kind]at *;have g2:=Ki (sn.map λ_=>Gq σ.env (.mk sk st sn se spp sf [])) (Cv σ sn);have n2:=Ns (sn.map λ_=>Gq σ.env (.mk sk st sn se spp sf [])) (Cv σ sn);have i2:=jp9 (sn.map λ_=>Gq σ.env (.mk sk st sn se spp sf [])) (Cv σ sn) h0;generalize Cr (Cv σ sn) (sn.map λ_=>Gq σ.env (.mk sk st sn se spp sf []))=o at g2 n2 i2 hb ⊢;have p2:=g2.lo h0;have g4:=Ki (sf.map λf=>(false,Dg σ.env f.type)) (Cv o.2 (sf.map (·.name)));have n4:=Ns (sf.map λf=>(false,Dg σ.env f.type)) (Cv o.2 (sf.map (·.name)));have i4:=jp9 (sf.map λf=>(false,Dg σ.env f.type)) (Cv o.2 (sf.map (·.name))) (by dsimp only[Cv]at *;omega);generalize Cr (Cv o.2 (sf.map (·.name))) (sf.map λf=>(false,Dg σ.env f.type))=i at g4 n4 i4 hb ⊢;have p4:=g4.lo (by dsimp only[Cv]at *;omega);have g5:=Nv i.2 st;have e4:i.2.env=σ.env:=g4.env.trans g2.env;have t5:=kr2 (σ:=i.2) (by rw[e4];exact h) st;generalize Ie i.2 st=t at g5 t5 hb ⊢;have g6:=Qn (λ_=>1) (λf σ=>Mw σ f) sf t.2;have t6:=λns=>kd5 sf ns t.2 (by rw[g5.env,e4];exact h);have n6:=ja8 Dk sf t.2;generalize y9 Dk t.2 sf=f at g6 t6 n6 hb ⊢;have g7:=Cz se f.2;have t7:=jh3 se f.2 (by rw[g6.env,g5.env,e4];exact h);generalize j4 f.2 se=e at g7 t7 hb ⊢;simp only[Aa]at n2 n4;have p0:0<=(Cv σ sn).count:=h0;have p1:(Cv o.2 (sf.map (·.name))).count=o.2.count:=rfl;have p3:(Cv σ sn).count=σ.count:=rfl;have p5:=g5.lo (by omega);have p6:=g6.lo (by omega);have p7:=g7.lo (by omega);have d2:=kr3 i2 (by omega);have d4:=kr3 i4 (by omega);have hin:(i.1.map (·.aD)).length=f.1.length:=by rw[Aa,n6,n4]
 refine⟨t5,⟨by rw[Aa,n2],λ_ s hs=>?_⟩,t7,t6 _ (by rw[Aa,n4]) λs hs=>?_,d2,d4,?_,by rw[Aa,n2],by rw[Oz _ _ hin,n6]⟩
 ·obtain⟨x,hx,rfl⟩:=Bx.1 hs;exact d2 x hx
 ·obtain⟨x,hx,rfl⟩:=Bx.1 hs;exact d4 x hx
 ·rw[ki9 _ _ hin];have hh:(Cv o.2 (sf.map (·.name))).has=(Cv σ sn).has:=by unfold W.has;rw[show(Cv o.2 (sf.map (·.name))).tk=o.2.tk from rfl,g2.tk]
  have i4:=i4.up (d':=e.2.count) (by omega);rw[hh]at i4;exact(Oh.of i2).app (Oh.of i4)
structure RepNew (σ:W)(r:Rp)(a:(Rp × List Ent) × W):Prop where
 like:me7 r a.1.1
 own:∀ x∈a.1.2,Cy x.aD=true
 inc:Oh σ.has σ.count (if a.1.1.name=ByteArray.empty then [] else [a.1.1.name]) a.2.count
theorem rn2 {σ:W}(h:NmE σ.env)(h0:0<=σ.count)(r:Rp)(hb:(Jk σ r).2.count<=Bd):RepNew σ r (Jk σ r):=by
 unfold Jk at *;by_cases hr:r.name=ByteArray.empty
 ·rw[Ae hr];exact⟨⟨.rfl,id,Gh.refl _,Gh.refl _⟩,λx hx=>(by cases hx),by rw[Ae hr];exact Ez _⟩
 ·rw[Af hr]at hb ⊢;dsimp only at hb ⊢;have p1:=(Kg σ).lo h0;have g2:=Cz r.base (Cx σ).2;have p2:=g2.lo (by omega);have g3:=Cz r.count (j4 (Cx σ).2 r.base).2;have p3:=g3.lo (by omega);have hn:=ml6 σ h0 (by omega);obtain⟨k,k1,k2,k3,k4⟩:=jx0 σ h0;have hne:¬(Cx σ).1=ByteArray.empty:=jx9 hn;refine⟨⟨⟨λe=>absurd e hne,λe=>absurd e hr⟩,λ_=>hn,jh3 _ _ h,jh3 _ _ (by rw[g2.env];exact h)⟩,λx hx=>?_,?_⟩
  ·rw[Bu]at hx;rw[hx];exact hn
  ·rw[Af hne];exact⟨k,k1,k2,k3,by show(k:Int)<=_;dsimp only;omega⟩
structure Xo (σ:W)(kind:Int)(name:ByteArray)(av:Ex)(aj au:List Ex)(rep:Rp)(a:PHead × W):Prop where
 name:mr4 name a.1.name
 av:Gh av a.1.av
 aj:Du aj a.1.aj
 au:Du au a.1.au
 rep:me7 rep a.1.rep
 own:∀ x∈a.1.own,Cy x.aD=true
 inc:Oh σ.has σ.count (if a.1.rep.name=ByteArray.empty then [] else [a.1.rep.name]) a.2.count
theorem qi7 {σ:W}(h:NmE σ.env)(h0:0<=σ.count)(kind:Int)(name:ByteArray)(av:Ex)(aj au:List Ex)(rep:Rp)(hn:kind=17->Cy name=true)(hb:(Hl σ kind name av aj au rep).2.count<=Bd):Xo σ kind name av aj au rep (Hl σ kind name av aj au rep):=by
 unfold Hl at *;dsimp only at hb ⊢;have ga:Grow σ (if kind=17 then aA σ name else (name,σ)).2 1:=by
  split
  ·exact Hu σ name
  ·exact Grow.refl _ _
 have ta:mr4 name (if kind=17 then aA σ name else (name,σ)).1:=by
  split
  ·rename_i hk;exact⟨kk4 h name,λe=>absurd e (jx9 (hn hk))⟩
  ·exact⟨id,id⟩
 generalize (if kind=17 then aA σ name else (name,σ))=a at ga ta hb ⊢;have p1:=ga.lo h0;have g2:=Cz av a.2;have t2:=jh3 av a.2 (by rw[ga.env];exact h);generalize j4 a.2 av=c at g2 t2 hb ⊢;have p2:=g2.lo (by omega);have g3:=Fs aj c.2;have t3:=jj7 aj (σ:=c.2) (by rw[g2.env,ga.env];exact h);generalize y9 j4 c.2 aj=t at g3 t3 hb ⊢;have p3:=g3.lo (by omega);have g4:=Ia (Dc σ.env kind av au) t.2 au;have t4:=qy7 (Dc σ.env kind av au) au (σ:=t.2) (by rw[g3.env,g2.env,ga.env];exact h);generalize Fw (Dc σ.env kind av au) t.2 au=x at g4 t4 hb ⊢;have p4:=g4.lo (by omega);have e4:x.2.env=σ.env:=by rw[g4.env,g3.env,g2.env,ga.env]
 have e5:x.2.has=σ.has:=by unfold W.has;rw[g4.tk,g3.tk,g2.tk,ga.tk]
 have hr:=rn2 (σ:=x.2) (by rw[e4];exact h) (by omega) rep hb;refine⟨ta,t2,t3,t4,hr.like,hr.own,?_⟩;have:=hr.inc;rw[e5]at this;exact this.down (by omega)
theorem qi8 {σ:W}(h:NmE σ.env)(cond av:Ex)(aj values:List Ex)(time:Ex):Gh cond (Jg σ cond av aj values time).1.cond/\Gh av (Jg σ cond av aj values time).1.av/\Du aj (Jg σ cond av aj values time).1.aj/\Du values (Jg σ cond av aj values time).1.values/\Gh time (Jg σ cond av aj values time).1.time:=by
 unfold Jg;dsimp only;have g1:=Cz cond σ;have g2:=Cz av (j4 σ cond).2;have g3:=Fs aj (j4 (j4 σ cond).2 av).2;have g4:=Fs values (y9 j4 (j4 (j4 σ cond).2 av).2 aj).2;refine⟨jh3 _ _ h,jh3 _ _ (by rw[g1.env];exact h),jj7 _ (by rw[g2.env,g1.env];exact h),jj7 _ (by rw[g3.env,g2.env,g1.env];exact h),jh3 _ _ (by rw[g4.env,g3.env,g2.env,g1.env];exact h)⟩
theorem mw5 {p:Pr}(h:Gv p=true)(hk:p.kind=17):Cy p.name=true:=by
 rw[Js,Ab]at h;have:=h.1;unfold ownB at this;simp only[hk,Int.reduceEq,or_self,if_false,if_true,Ab]at this
 grind
mutual
theorem qi9:∀ (p:Pr) (σ:W),NmE σ.env->0<=σ.count->(Dp σ p).2.count<=Bd->Iw p->jl2 p (Dp σ p).1/\Oh σ.has σ.count (kq1 (Dp σ p).1) (Dp σ p).2.count/\(kq1 (Dp σ p).1).length=(kq1 p).length/\Dr (Dp σ p).1=Dr p
 |.mk kind name av aj au rep ak l ay (.mk sk st sn se spp sf sb),σ,h,h0,hb,ha=>by
  simp only[Iw]at ha;obtain⟨a1,a2,a3,a4⟩:=ha;have hnm:=mw5 a1;simp only[Pr.kind,Pr.name]at hnm;have hz:=js8 _ (by rw[Js,Ab]at a1;exact a1.1);simp only[Pr.kind,Pr.rep,Pr.spec]at hz;have gh:=Pn σ kind name av aj au rep;have th:=λhb=>qi7 h h0 kind name av aj au rep hnm hb;simp only[Dp]at hb ⊢;generalize Hl σ kind name av aj au rep=a at gh th hb ⊢;have q1:=gh.lo h0;by_cases hk:kind=18
  ·rw[Ae hk]at hb ⊢;have gs:=Ox a.2 (.mk sk st sn se spp sf []);have ts:=λhb=>qy8 (σ:=a.2) (by rw[gh.env];exact h) (by omega) sk st sn se spp sf hb;generalize Hf a.2 (.mk sk st sn se spp sf [])=s at gs ts hb ⊢;have q2:=gs.lo (by omega);have gb:=Ib sb {s.2 with env:=Ck σ.env (sf.map (·.name)) s.1.inner};have tb:=λh hb=>kk5 sb {s.2 with env:=Ck σ.env (sf.map (·.name)) s.1.inner} h (by dsimp only;omega) hb a2;generalize Gt {s.2 with env:=Ck σ.env (sf.map (·.name)) s.1.inner} sb=b at gb tb hb ⊢;have q3:=gb.lo (by dsimp only;omega);have gg:=Jr ak {b.2 with env:=Ck σ.env sn s.1.own};have tg:=λh hb=>ml7 ak {b.2 with env:=Ck σ.env sn s.1.own} h (by dsimp only at q3 ⊢;omega) hb a3;generalize Hg {b.2 with env:=Ck σ.env sn s.1.own} ak=g at gg tg hb ⊢;have q4:=gg.lo (by dsimp only at q3 ⊢;omega);have gm:=Ib l g.2;have tm:=λh hb=>kk5 l g.2 h (by dsimp only at q3 q4 ⊢;omega) hb a4;generalize Gt g.2 l=m at gm tm hb ⊢;have q5:=gm.lo (by dsimp only at q3 q4 ⊢;omega);dsimp only at q3 q4 q5 hb ⊢;have th:=th (by omega);have ts:=ts (by omega);have tb:=tb (NmE.push _ h ts.inner) (by omega);have tg:=tg (NmE.push _ h ts.own) (by omega);have tm:=tm (by rw[gg.env];exact NmE.push _ h ts.own) (by omega);have e2:s.2.has=σ.has:=by unfold W.has;rw[gs.tk,gh.tk]
   have e3:b.2.has=σ.has:=by unfold W.has;rw[gb.tk];dsimp only;rw[gs.tk,gh.tk]
   have e4:g.2.has=σ.has:=by unfold W.has;rw[gg.tk];dsimp only;rw[gb.tk];dsimp only;rw[gs.tk,gh.tk]
   have e1:a.2.has=σ.has:=by unfold W.has;rw[gh.tk]
   have i2:=ts.inc;have i3:=tb.2.1;have i4:=tg.2.1;have i5:=tm.2.1;rw[show(W.has {s.2 with env:=Ck σ.env (sf.map (·.name)) s.1.inner})=s.2.has from rfl,e2]at i3;rw[show(W.has {b.2 with env:=Ck σ.env sn s.1.own})=b.2.has from rfl,e3]at i4;rw[e4]at i5;rw[e1]at i2;have hr0:(a.1.rep.name=ByteArray.empty):=th.rep.1.2 (hz.1 hk);simp only[jl2,kq1,Dr,Pr.kind,Pr.name,Pr.av,Pr.aj,Pr.au,Pr.rep,Pr.ak,Pr.l,Pr.ay,Pr.spec,Sp.kind,Sp.type,Sp.names,Sp.e,Sp.aN,Sp.ax,Sp.body,true_and];refine⟨⟨th.name,th.av,th.aj,th.au,th.rep,tg.1,tm.1,ts.type,ts.names,ts.e,ts.ax,tb.1⟩,?_,?_,?_⟩
   ·refine th.inc.app ?_;rw[<-Ea];exact i2.app (i3.app (i4.app i5))
   ·rw[Ae hr0,Ae (hz.1 hk)];simp only[Ag,Aa,ts.len.1,ts.len.2,tb.2.2.1,tg.2.2.1,tm.2.2.1]
   ·rw[tb.2.2.2,tg.2.2.2,tm.2.2.2]
  ·rw[Af hk]at hb ⊢;have hsp:=hz.2.1 hk;simp only[sp0,Sp.mk.injEq]at hsp;obtain⟨rfl,rfl,rfl,rfl,rfl,rfl,rfl⟩:=hsp;have gg:=Jr ak {a.2 with env:=Ck σ.env (if rep.name=ByteArray.empty then [] else [rep.name]) a.1.own};have tg:=λh hb=>ml7 ak {a.2 with env:=Ck σ.env (if rep.name=ByteArray.empty then [] else [rep.name]) a.1.own} h (by dsimp only;omega) hb a3;generalize Hg {a.2 with env:=Ck σ.env (if rep.name=ByteArray.empty then [] else [rep.name]) a.1.own} ak=g at gg tg hb ⊢;have q4:=gg.lo (by dsimp only;omega);have gm:=Ib l g.2;have tm:=λh hb=>kk5 l g.2 h (by dsimp only at q4 ⊢;omega) hb a4;generalize Gt g.2 l=m at gm tm hb ⊢;have q5:=gm.lo (by dsimp only at q4 ⊢;omega);dsimp only at q4 q5 hb ⊢;have th:=th (by omega);have tg:=tg (NmE.push _ h th.own) (by omega);have tm:=tm (by rw[gg.env];exact NmE.push _ h th.own) (by omega);have e1:a.2.has=σ.has:=by unfold W.has;rw[gh.tk]
   have e4:g.2.has=σ.has:=by unfold W.has;rw[gg.tk];dsimp only;rw[gh.tk]
   have i4:=tg.2.1;have i5:=tm.2.1;rw[show(W.has {a.2 with env:=Ck σ.env (if rep.name=ByteArray.empty then [] else [rep.name]) a.1.own})=a.2.has from rfl,e1]at i4;rw[e4]at i5;simp only[jl2,kq1,Dr,jm4,z6,jd9,Pr.kind,Pr.name,Pr.av,Pr.aj,Pr.au,Pr.rep,Pr.ak,Pr.l,Pr.ay,Pr.spec,Sp.kind,Sp.type,Sp.names,Sp.e,Sp.aN,Sp.ax,Sp.body,true_and,Ba,Ad];refine⟨⟨th.name,th.av,th.aj,th.au,th.rep,tg.1,tm.1,.refl _,⟨rfl,λh=>h⟩,Gh.refl _,trivial⟩,?_,?_,?_⟩
   ·exact th.inc.app (i4.app i5)
   ·have hr:=th.rep.1;by_cases hr0:rep.name=ByteArray.empty
    ·rw[Ae hr0,Ae (hr.2 hr0)];simp only[Ag,Av,tg.2.2.1,tm.2.2.1]
    ·rw[Af hr0,Af (λe=>hr0 (hr.1 e))];simp only[Ag,An,Av,tg.2.2.1,tm.2.2.1]
   ·rw[tg.2.2.2,tm.2.2.2]
theorem kk5:∀ (l:List Pr) (σ:W),NmE σ.env->0<=σ.count->(Gt σ l).2.count<=Bd->jc3 l->z6 l (Gt σ l).1/\Oh σ.has σ.count (jm4 (Gt σ l).1) (Gt σ l).2.count/\(jm4 (Gt σ l).1).length=(jm4 l).length/\Kr (Gt σ l).1=Kr l
 |[],σ,_,h0,_,_=>by simp only[Gt,z6,jm4,Kr,Oh,true_and,and_true];exact Ez _
 |p::l,σ,h,h0,hb,ha=>by
  simp only[jc3]at ha;simp only[Gt]at hb ⊢;have g1:=Me p σ;have t1:=λhb=>qi9 p σ h h0 hb ha.1;generalize Dp σ p=a at g1 t1 hb ⊢;have q1:=g1.lo h0;have g2:=Ib l a.2;have t2:=kk5 l a.2 (by rw[g1.env];exact h) (by omega) hb ha.2;have q2:=g2.lo (by omega);have t1:=t1 (by omega);have e1:a.2.has=σ.has:=by unfold W.has;rw[g1.tk]
  rw[e1]at t2;simp only[z6,jm4,Kr];exact⟨⟨_,_,rfl,t1.1,t2.1⟩,t1.2.1.app t2.2.1,by simp only[Ag,t1.2.2.1,t2.2.2.1],by rw[t1.2.2.2,t2.2.2.2]⟩
theorem ry0:∀ (p:Gu) (σ:W),NmE σ.env->0<=σ.count->(Jo σ p).2.count<=Bd->jc3 p.body->jp0 p (Jo σ p).1/\Oh σ.has σ.count (md3 (Jo σ p).1) (Jo σ p).2.count/\(md3 (Jo σ p).1).length=(md3 p).length/\Jt (Jo σ p).1=Jt p
 |.mk kind name cond av aj values time body,σ,h,h0,hb,ha=>by
  simp only[Gu.body]at ha;have g1:=Pm σ cond av aj values time;have t1:=qi8 h cond av aj values time;simp only[Jo]at hb ⊢;generalize Jg σ cond av aj values time=a at g1 t1 hb ⊢;have q1:=g1.lo h0;have t2:=kk5 body a.2 (by rw[g1.env];exact h) (by omega) hb ha;have e1:a.2.has=σ.has:=by unfold W.has;rw[g1.tk]
  rw[e1]at t2;simp only[jp0,md3,Jt,Gu.kind,Gu.name,Gu.cond,Gu.av,Gu.aj,Gu.values,Gu.time,Gu.body,true_and];exact⟨⟨t1.1,t1.2.1,t1.2.2.1,t1.2.2.2.1,t1.2.2.2.2,t2.1⟩,t2.2.1.down q1,t2.2.2.1,by rw[t2.2.2.2]⟩
theorem ml7:∀ (l:List Gu) (σ:W),NmE σ.env->0<=σ.count->(Hg σ l).2.count<=Bd->ji4 l->p9 l (Hg σ l).1/\Oh σ.has σ.count (jp8 (Hg σ l).1) (Hg σ l).2.count/\(jp8 (Hg σ l).1).length=(jp8 l).length/\Lc (Hg σ l).1=Lc l
 |[],σ,_,h0,_,_=>by simp only[Hg,p9,jp8,Lc,Oh,true_and,and_true];exact Ez _
 |.mk kind name cond av aj values time body::l,σ,h,h0,hb,ha=>by
  simp only[ji4]at ha;simp only[Hg]at hb ⊢;have g1:=qf4 (.mk kind name cond av aj values time body) σ;have t1:=λhb=>ry0 (.mk kind name cond av aj values time body) σ h h0 hb ha.1;generalize Jo σ (.mk kind name cond av aj values time body)=a at g1 t1 hb ⊢;have q1:=g1.lo h0;have g2:=Jr l a.2;have t2:=ml7 l a.2 (by rw[g1.env];exact h) (by omega) hb ha.2;have q2:=g2.lo (by omega);have t1:=t1 (by omega);have e1:a.2.has=σ.has:=by unfold W.has;rw[g1.tk]
  rw[e1]at t2;rw[p9,jp8,Lc,jp8,Lc];exact⟨⟨_,_,rfl,t1.1,t2.1⟩,t1.2.1.app t2.2.1,by simp only[Ag,t1.2.2.1,t2.2.2.1],by rw[t1.2.2.2,t2.2.2.2]⟩
end
end Sc
end
section
namespace Sc
open Lx
theorem mf1 {s x:ByteArray}:∀ {tk:List (ByteArray × Int)},s∈(Nb tk x).map (·.1)↔s∈tk.map (·.1)\/s=x
 |[]=>by simp[Nb]
 |y::l=>by
  simp only[Nb];split
  ·rename_i h;simp only[Ap,Bg]
   grind
  ·simp only[Ap,Bg,mf1 (tk:=l)]
   grind
theorem kb6 {s:ByteArray}:∀ (l:List ByteArray) (tk:List (ByteArray × Int)),s∈(Dv tk l).map (·.1)↔s∈tk.map (·.1)\/s∈l
 |[],tk=>by simp[Dv]
 |x::l,tk=>by
  rw[show Dv tk (x::l)=Dv (Nb tk x) l from rfl,kb6 l,mf1,Bg,or_assoc]
theorem qj0 {p:Pr}{s:ByteArray}:(start (Gi p)).has s↔s∈Db p\/s∈Dr p:=by
 unfold W.has Gi;show s∈(Dv (Dv [] (Db p)) (Dr p)).map (·.1)↔_;rw[kb6,kb6];simp
theorem Xq (tk tk':List (ByteArray × Int))(p:Pr):(Dp (start tk) p).2.ev=(Dp (start tk') p).2.ev:=
 (rf7 (E:=False) p (start tk) (start tk') ⟨λs=>Nk.refl _ _,λh=>h.elim,rfl,λh=>h.elim⟩).2.ev
theorem kb7 (ns:List ByteArray):∀ ev:List (ByteArray × Bool),(Hz ns ev).2=0->∀ e∈ev,e.2=false
 |[],_,e,he=>by cases he
 |(x,true)::l,h,_,_=>by simp[Hz]at h
 |(x,false)::l,h,e,he=>by
  simp only[Hz,Az,if_false]at h;split at h
  ·rcases Bg.1 he with rfl|he
   ·rfl
   ·exact kb7 ns l h e he
  ·simp at h
theorem mr5 {p:Pr}(h:Gr p=true):(Dp (start (Gi p)) p).2.count<=Bd:=by
 obtain⟨h1,h2⟩:=jj8 h;have h3:=kv9 p h1;have hg:=(Me p (start [])).ev;have hlen:=Lm (Dp (start []) p).2.ev;have ho:=kw1 (Hr (Dp (start []) p).2.ev);have hs:(start []).ev.length=0:=rfl;have hf:(Db p).length<=prN p:=by unfold Db;omega
 have l1:=jq5 (Db p) [];have l2:=jq5 (Dr p) (Dv [] (Db p));rw[Av]at l1;have l3:(Gi p).length<=184400000:=by unfold Gi;omega
 have hc:=(Me p (start (Gi p))).hi (Ez 0);have h4:(start (Gi p)).count=0:=rfl;have h5:(start (Gi p)).tk=Gi p:=rfl;rw[h4,h5]at hc;have h6:prN p * ((Gi p).length+1)<=184400000 * 184400001:=Nat.mul_le_mul (by omega) (by omega);have h7:((prN p:Int) * ((Gi p).length+1))=((prN p * ((Gi p).length+1):Nat):Int):=by rw[Int.natCast_mul];rfl
 rw[h7]at hc;unfold Bd;omega
end Sc
end
section
namespace Al
open Classical in
noncomputable def num (s:ByteArray):Nat:=if h:∃ k,s=aC k then Classical.choose h+1 else 0
theorem rn3 (k:Nat):num (aC k)=k+1:=by
 have hex:∃ j,aC k=aC j:=⟨k,rfl⟩;unfold num;rw[dif_pos hex,<-Te (Classical.choose_spec hex)]
open Classical in
noncomputable def rk (has:ByteArray->Prop)(s:ByteArray):Nat:=if has s then 0 else num s
theorem rg5 {has:ByteArray->Prop}{k:Nat}(h:¬has (aC k)):rk has (aC k)=k+1:=by
 unfold rk;rw[Af h,rn3]
theorem mw6 {e:Ex}(h:Gd e=true):Dm e.kind=true:=by
 unfold Gd at h;simp only[Ab,Bq,Aj]at h;rcases h.1 with h|h<;>rw[h]<;>rfl
theorem qy9 {s:Sp}(h:Ic s=true)(hk:s.kind=3):Dm s.e.kind=true:=by
 unfold Ic at h;rw[Af (by omega),Af (by omega),Ae hk]at h;simp only[Ab]at h;exact mw6 h.1.1.1.1.2
section
variable (r:ByteArray->Nat)
mutual
def isR:Pr->Prop
 |.mk _ _ _ _ _ _ ak l _ (.mk sk _ sn se _ _ sb)=>(sk=3->∀ x∈sn.head?,r se.s<r x)/\qz0 sb/\rg6 ak/\qz0 l
def qz0:List Pr->Prop
 |[]=>True
 |p::l=>isR p/\qz0 l
def rg6:List Gu->Prop
 |[]=>True
 |.mk _ _ _ _ _ _ _ body::l=>qz0 body/\rg6 l
end
def Ld (w:Wd):Prop:=∀ x∈w.is,r x.2<r x.1
variable {r}
theorem Ld.rank {w:Wd}(h:Ld r w):Rank w.is:=⟨r,h⟩
theorem mr6 {α:Type}{s:ByteArray}{v:α}{x:ByteArray × α}:∀ {l:List (ByteArray × α)},x∈up1 s v l->x∈l\/x=(s,v)
 |[],h=>by simp only[up1,Bu]at h;exact .inr h
 |(y,u)::l,h=>by
  simp only[up1]at h;split at h
  ·rename_i hy;rcases Bg.1 h with rfl|h
   ·rw[hy];exact .inr rfl
   ·exact .inl (Bh _ h)
  ·rcases Bg.1 h with rfl|h
   ·exact .inl Be
   ·exact(mr6 h).imp (Bh _) id
theorem kk6 {w:Wd}(hw:Ld r w)(rep:ByteArray)(sk:Int)(sn:List ByteArray)(se:ByteArray)(sf:List Fo)(h:sk=3->∀ x∈sn.head?,r se<r x):Ld r (Mg w rep sk sn se sf):=by
 unfold Mg;dsimp only;split
 ·rename_i hk;split
  ·rename_i s l;intro x hx;rcases mr6 hx with hx|rfl
   ·exact hw x hx
   ·exact h hk s rfl
  ·exact hw
 ·exact hw
theorem qj1 (w:Wd)(sk:Int)(sn:List ByteArray)(sf:List Fo)(occ wr:List ByteArray):(Lf w sk sn sf occ wr).is=w.is:=by
 unfold Lf;split
 ·split<;>rfl
 ·rfl
mutual
theorem kr4:∀ (p:Pr) {w:Wd},Ld r w->isR r p->Ld r (n5 w p)
 |.mk _ _ _ _ _ rep ak l _ (.mk sk _ sn se _ sf sb),w,hw,⟨h1,h2,h3,h4⟩=>by
  simp only[n5];refine jo4 l (kk7 ak ?_ h3) h4;intro x hx;rw[qj1]at hx;exact jo4 sb (kk6 hw rep.name sk sn se.s sf h1) h2 x hx
theorem jo4:∀ (l:List Pr) {w:Wd},Ld r w->qz0 r l->Ld r (Gf w l)
 |[],w,hw,_=>by simpa [Gf]using hw
 |p::l,w,hw,⟨h1,h2⟩=>by
  simp only[Gf];exact jo4 l (kr4 p hw h1) h2
theorem kk7:∀ (l:List Gu) {w:Wd},Ld r w->rg6 r l->Ld r (Ho w l)
 |[],w,hw,_=>by simpa [Ho]using hw
 |.mk _ _ _ _ _ _ _ body::l,w,hw,⟨h1,h2⟩=>by
  simp only[Ho];exact kk7 l (jo4 body hw h1) h2
end
end
def Rh (σ:W):Prop:=∀ s,∀ x∈σ.env s,∃ k:Nat,x.aD=aC k/\(k:Int)<=σ.count/\¬σ.has (aC k)
theorem ji3 {σ τ:W}(h:τ.tk=σ.tk):τ.has=σ.has:=by
 funext s;unfold W.has;rw[h]
theorem Rh.grow {σ τ:W}{n:Nat}(h:Rh σ)(g:Sc.Grow σ τ n)(h0:0<=σ.count):Rh τ:=λs x hx=>by
 rw[g.env]at hx;obtain⟨k,h1,h2,h3⟩:=h s x hx;have:=g.lo h0;exact⟨k,h1,by omega,by rw[ji3 g.tk];exact h3⟩
theorem mr7:∀ (ns:List ByteArray) {xs:List Sc.Ent} {f:ByteArray->List Sc.Ent} {s:ByteArray} {x:Sc.Ent},x∈Ck f ns xs s->x∈f s\/x∈xs
 |[],xs,f,s,x,h=>by simp only[Ck]at h;exact .inl h
 |n::ns,[],f,s,x,h=>by simp only[Ck]at h;exact .inl h
 |n::ns,y::xs,f,s,x,h=>by
  simp only[Ck]at h;rcases mr7 ns h with h|h
  ·split at h
   ·rcases Bi.1 h with h|h
    ·exact .inl h
    ·rw[Bu]at h;subst h;exact .inr Be
   ·exact .inl h
  ·exact .inr (Bh _ h)
theorem Rh.push {σ:W}(h:Rh σ){ns:List ByteArray}{xs:List Sc.Ent}{c:Int}{τ:W}(ht:τ.tk=σ.tk)(hc:σ.count<=τ.count)(hi:Sc.Incr σ.has c xs τ.count){e:ByteArray->List Sc.Ent}(he:e=Ck σ.env ns xs):Rh {τ with env:=e}:=λs x hx=>by
 subst he;have hh:({τ with env:=Ck σ.env ns xs}:W).has=σ.has:=ji3 ht;rw[hh];rcases mr7 ns hx with hx|hx
 ·obtain⟨k,h1,h2,h3⟩:=h s x hx;exact⟨k,h1,by show(k:Int)<=τ.count;omega,h3⟩
 ·obtain⟨k,h1,_,h2,h3⟩:=Uq hi x hx;exact⟨k,h1,h2,h3⟩
structure HeadR (σ:W)(s:Sp)(a:Sc.Head × W):Prop where
 mid:∃ c,Sc.Incr σ.has σ.count a.1.own c/\Sc.Incr σ.has c a.1.inner a.2.count
 names:a.1.names=a.1.own.map (·.aD)
 e:∃ τ:W,τ.env=σ.env/\a.1.e=(j4 τ s.e).1/\a.2=(j4 τ s.e).2
open Sc in
theorem ry1 (σ:W)(h0:0<=σ.count)(s:Sp):HeadR σ s (Hf σ s):=by
 unfold Hf;dsimp only;obtain⟨o,ho⟩:∃ o,o=Cr (Cv σ s.names) (s.names.map λ_=>Gq σ.env s):=⟨_,rfl⟩;have i1:=jp9 (s.names.map λ_=>Gq σ.env s) (Cv σ s.names) h0;have g1:=(Lp σ s.names).trans (Ki (s.names.map λ_=>Gq σ.env s) (Cv σ s.names));rw[<-ho]at i1 g1 ⊢;have c1:=g1.lo h0;obtain⟨i,hi⟩:∃ i,i=Cr (Cv o.2 (s.ax.map (·.name))) (s.ax.map λf=>(false,Dg σ.env f.type)):=⟨_,rfl⟩;have i2:=jp9 (s.ax.map λf=>(false,Dg σ.env f.type)) (Cv o.2 (s.ax.map (·.name))) (by show 0<=o.2.count;omega);have g2:=(Lp o.2 (s.ax.map (·.name))).trans (Ki (s.ax.map λf=>(false,Dg σ.env f.type)) (Cv o.2 (s.ax.map (·.name))));rw[<-hi]at i2 g2 ⊢;have c2:=g2.lo (by omega);have g3:=(Nv i.2 s.type).trans (Qn (f:=Dk) (λ_=>1) (λf σ=>Mw σ f) s.ax (Ie i.2 s.type).2);have c3:=g3.lo (by omega);have g4:=Cz s.e (y9 Dk (Ie i.2 s.type).2 s.ax).2;have c4:=g4.lo (by omega);have e1:W.has (Cv σ s.names)=σ.has:=rfl;have e2:W.has (Cv o.2 (s.ax.map (·.name)))=σ.has:=by
  show o.2.has=σ.has;exact ji3 g1.tk
 rw[e1]at i1;rw[e2]at i2;refine⟨⟨o.2.count,i1,i2.up (by dsimp only;omega)⟩,rfl,(y9 Dk (Ie i.2 s.type).2 s.ax).2,?_,rfl,rfl⟩;rw[g3.env,g2.env,g1.env]
theorem ry2 {has:ByteArray->Prop}{σ τ:W}(he:Rh σ)(hh:has=σ.has)(ht:τ.env=σ.env)(s:ByteArray)(hf:(s,false)∈(aA τ s).2.ev->has s){k:Nat}(hk:σ.count<k)(hn:¬has (aC k)):rk has (aA τ s).1<rk has (aC k):=by
 rw[rg5 hn];unfold aA at hf ⊢;rw[ht]at hf ⊢;cases hl:(σ.env s).getLast? with
 |some x=>
  obtain⟨j,h1,h2,h3⟩:=he s x (List.mem_of_getLast? hl);dsimp only;rw[h1,rg5 (by rw[hh];exact h3)];omega
 |none=>
  rw[hl]at hf;have:=hf (by simp[Sc.step]);dsimp only;unfold rk;rw[Ae this];omega
theorem ry3 (σ:W)(e:Ex)(h:Dm e.kind=true):(j4 σ e).1.s=(aA σ e.s).1/\(aA σ e.s).2.ev<+:(j4 σ e).2.ev:=by
 cases e with
 |mk kind op ty n s l=>
  simp only[Ex.kind]at h;simp only[j4,h,if_true,Ex.s];exact⟨trivial,(Pk l _).pre⟩
open Sc in
theorem rn4 (σ:W)(h0:0<=σ.count)(kind:Int)(name:ByteArray)(av:Ex)(aj au:List Ex)(rep:Rp):Sc.Incr σ.has σ.count (Hl σ kind name av aj au rep).1.own (Hl σ kind name av aj au rep).2.count:=by
 have ga:Sc.Grow σ (if kind=17 then aA σ name else (name,σ)).2 1:=by
  split
  ·exact Hu σ name
  ·exact Sc.Grow.refl _ _
 unfold Hl;dsimp only;generalize (if kind=17 then aA σ name else (name,σ))=a at ga ⊢;have g4:=((ga.trans (Cz av a.2)).trans (Fs aj _)).trans (Ia (Dc σ.env kind av au) _ au);generalize Fw (Dc σ.env kind av au) (y9 j4 (j4 a.2 av).2 aj).2 au=x at g4 ⊢;have q1:=g4.lo h0;unfold Jk;split
 ·exact q1
 ·dsimp only;obtain⟨k,k1,k2,k3,k4⟩:=jx0 x.2 (by omega);have g5:=Cz rep.base (Cx x.2).2;have g6:=Cz rep.count (j4 (Cx x.2).2 rep.base).2;have q5:=g5.lo (by omega);have q6:=g6.lo (by omega);rw[ji3 g4.tk]at k3;exact⟨k,k1,by omega,k3,by show(k:Int)<=_;omega⟩
open Sc in
mutual
theorem qj2 {has:ByteArray->Prop}:∀ (p:Pr) (σ:W),Iw p->Rh σ->0<=σ.count->has=σ.has->(∀ s,(s,false)∈(Dp σ p).2.ev->has s)->isR (rk has) (Dp σ p).1
 |.mk kind name av aj au rep ak l ay (.mk sk st sn se spp sf sb),σ,ha,he,h0,hh,hf=>by
  simp only[Iw]at ha;obtain⟨a1,a2,a3,a4⟩:=ha;have hz:=js8 _ (by rw[Js,Ab]at a1;exact a1.1);have hsp:kind=18->Ic (.mk sk st sn se spp sf sb)=true:=λhk=>by
   rw[Js,Ab]at a1;exact Pb _ a1.1 hk
  simp only[Pr.kind,Pr.rep,Pr.spec]at hz;have gh:=Pn σ kind name av aj au rep;have ih:=rn4 σ h0 kind name av aj au rep;simp only[Dp]at hf ⊢;generalize Hl σ kind name av aj au rep=a at gh ih hf ⊢;have q1:=gh.lo h0;have e1:a.2.has=σ.has:=ji3 gh.tk;by_cases hk:kind=18
  ·rw[Ae hk]at hf ⊢;have gs:=Ox a.2 (.mk sk st sn se spp sf []);have hs:=ry1 a.2 (by omega) (.mk sk st sn se spp sf []);generalize Hf a.2 (.mk sk st sn se spp sf [])=s at gs hs hf ⊢;have q2:=gs.lo (by omega);obtain⟨⟨c,i1,i2⟩,hn,τ,t1,t2,t3⟩:=hs;rw[e1]at i1 i2;have l1:=i1.le;have l2:=i2.le;have gb:=Ib sb {s.2 with env:=Ck σ.env (sf.map (·.name)) s.1.inner};have tb:=jx7 (has:=has) sb {s.2 with env:=Ck σ.env (sf.map (·.name)) s.1.inner} a2 (Rh.push he (gs.tk.trans gh.tk) (by omega) i2 rfl) (by dsimp only;omega) (by rw[hh];exact(ji3 (gs.tk.trans gh.tk)).symm);generalize Gt {s.2 with env:=Ck σ.env (sf.map (·.name)) s.1.inner} sb=b at gb tb hf ⊢;have q3:=gb.lo (by dsimp only;omega);dsimp only at q3;have htb:b.2.tk=σ.tk:=gb.tk.trans (gs.tk.trans gh.tk);have gg:=Jr ak {b.2 with env:=Ck σ.env sn s.1.own};have tg:=kw2 (has:=has) ak {b.2 with env:=Ck σ.env sn s.1.own} a3 (Rh.push he htb (by omega) (i1.up (by omega)) rfl) (by dsimp only;omega) (by rw[hh];exact(ji3 htb).symm);generalize Hg {b.2 with env:=Ck σ.env sn s.1.own} ak=g at gg tg hf ⊢;have q4:=gg.lo (by dsimp only;omega);dsimp only at q4;have htg:g.2.tk=σ.tk:=gg.tk.trans htb;have gm:=Ib l g.2;have tm:=jx7 (has:=has) l g.2 a4 (λs' x hx=>by
    rw[gg.env]at hx;obtain⟨k,r1,r2,r3⟩:=Rh.push he htb (τ:=b.2) (by omega) (i1.up (by omega)) rfl s' x hx;refine⟨k,r1,by dsimp only at r2;omega,?_⟩;rw[ji3 htg];rw[ji3 (σ:=σ) (by exact htb)]at r3;exact r3) (by omega) (by rw[hh];exact(ji3 htg).symm)
   generalize Gt g.2 l=m at gm tm hf ⊢;dsimp only at hf ⊢;have p1:∀ x∈g.2.ev,x∈m.2.ev:=λx hx=>gm.pre.subset hx;have p2:∀ x∈b.2.ev,x∈m.2.ev:=λx hx=>p1 x (gg.pre.subset hx);have p3:∀ x∈s.2.ev,x∈m.2.ev:=λx hx=>p2 x (gb.pre.subset hx);simp only[isR];refine⟨λh3 x hx=>?_,tb λs' h'=>hf s' (p2 _ h'),tg λs' h'=>hf s' (p1 _ h'),tm λs' h'=>hf s' h'⟩;rw[hn]at hx;cases ho:s.1.own with
   |nil=>rw[ho]at hx;cases hx
   |cons y ys=>
    rw[ho]at hx i1;simp only[Ap,List.head?_cons,Option.mem_def,Bl]at hx;subst hx;obtain⟨k,k1,k2,k3,_⟩:=i1;have hek:Dm se.kind=true:=qy9 (hsp hk) h3;obtain⟨x1,x2⟩:=ry3 τ se hek;rw[k1,t2];simp only[Sp.e];rw[x1];refine ry2 he hh (by rw[t1,gh.env]) se.s (λhm=>hf _ (p3 _ ?_)) (by omega) (by rw[hh];exact k3);rw[t3];exact x2.subset hm
  ·rw[Af hk]at hf ⊢;have hsp:=hz.2.1 hk;simp only[sp0,Sp.mk.injEq]at hsp;obtain⟨rfl,rfl,rfl,rfl,rfl,rfl,rfl⟩:=hsp;have gg:=Jr ak {a.2 with env:=Ck σ.env (if rep.name=ByteArray.empty then [] else [rep.name]) a.1.own};rw[show σ.has=σ.has from rfl]at ih;have tg:=kw2 (has:=has) ak {a.2 with env:=Ck σ.env (if rep.name=ByteArray.empty then [] else [rep.name]) a.1.own} a3 (Rh.push he gh.tk (by omega) ih rfl) (by dsimp only;omega) (by rw[hh];exact e1.symm);generalize Hg {a.2 with env:=Ck σ.env (if rep.name=ByteArray.empty then [] else [rep.name]) a.1.own} ak=g at gg tg hf ⊢;have q4:=gg.lo (by dsimp only;omega);dsimp only at q4;have htg:g.2.tk=σ.tk:=gg.tk.trans gh.tk;have gm:=Ib l g.2;have tm:=jx7 (has:=has) l g.2 a4 (λs' x hx=>by
    rw[gg.env]at hx;obtain⟨k,r1,r2,r3⟩:=Rh.push he gh.tk (τ:=a.2) (by omega) ih rfl s' x hx;refine⟨k,r1,by dsimp only at r2;omega,?_⟩;rw[ji3 htg];rw[ji3 (σ:=σ) (by exact gh.tk)]at r3;exact r3) (by omega) (by rw[hh];exact(ji3 htg).symm)
   generalize Gt g.2 l=m at gm tm hf ⊢;dsimp only at hf ⊢;simp only[isR,qz0];exact⟨λh=>by omega,trivial,tg λs' h'=>hf s' (gm.pre.subset h'),tm λs' h'=>hf s' h'⟩
theorem jx7 {has:ByteArray->Prop}:∀ (l:List Pr) (σ:W),jc3 l->Rh σ->0<=σ.count->has=σ.has->(∀ s,(s,false)∈(Gt σ l).2.ev->has s)->qz0 (rk has) (Gt σ l).1
 |[],σ,_,_,_,_,_=>by simp[Gt,qz0]
 |p::l,σ,ha,he,h0,hh,hf=>by
  simp only[Gt]at hf ⊢;have g:=Me p σ;have g2:=Ib l (Dp σ p).2;have:=g.lo h0;exact⟨qj2 p σ ha.1 he h0 hh λs h=>hf s (g2.pre.subset h),jx7 l (Dp σ p).2 ha.2 (he.grow g h0) (by omega) (by rw[hh];exact(ji3 g.tk).symm) hf⟩
theorem kw2 {has:ByteArray->Prop}:∀ (l:List Gu) (σ:W),ji4 l->Rh σ->0<=σ.count->has=σ.has->(∀ s,(s,false)∈(Hg σ l).2.ev->has s)->rg6 (rk has) (Hg σ l).1
 |[],σ,_,_,_,_,_=>by simp[Hg,rg6]
 |.mk kind name cond av aj values time body::l,σ,ha,he,h0,hh,hf=>by
  simp only[Hg,Jo]at hf ⊢;have gh:=Pm σ cond av aj values time;generalize Jg σ cond av aj values time=a at gh hf ⊢;have q1:=gh.lo h0;have g:=Ib body a.2;have q2:=g.lo (by omega);have g2:=Jr l (Gt a.2 body).2;simp only[rg6];exact⟨jx7 body a.2 ha.1 (he.grow gh h0) (by omega) (by rw[hh];exact(ji3 gh.tk).symm) λs h=>hf s (g2.pre.subset h),kw2 l (Gt a.2 body).2 ha.2 ((he.grow gh h0).grow g (by omega)) (by omega) (by rw[hh];exact(ji3 (g.tk.trans gh.tk)).symm) hf⟩
end
end Al
end
section
namespace Al
open Lx Sc
structure Facts (p:Pr):Prop where
 head:Gb [p.av,p.rep.base,p.rep.count,p.spec.e]<=7000/\Gb p.aj<=6000/\Gb p.au<=6000
 aj:∀ e∈p.aj,Gd e=true
 au:p.kind=5->p.au≠[]
 lens:p.aj.length<=6000/\p.au.length<=6000/\p.ak.length<=16/\p.l.length<=2048
 spec:p.kind=18->p.l≠[]/\Ic p.spec=true
 none:p.kind≠18->p.spec=sp0
 gus:∀ g∈p.ak,Jw g=true
theorem jg2 {p:Pr}(h:Gv p=true):Facts p:=by
 have h1:=kb4 h;have ho:=js8 p (by rw[Js,Ab]at h;exact h.1);have hl:p.l.length<=2048:=by
  rw[Js,Ab]at h;simpa using h.2
 obtain⟨s1,⟨_,_,s4,_⟩,s5,s6,_⟩:=h1;unfold Gz Na at s1;refine⟨⟨by simp only[Gb];omega,by omega,by omega⟩,?_,λhk=>?_,⟨by have:=ja0 p.aj;omega,by have:=ja0 p.au;omega,s5,hl⟩,λhk=>?_,ho.2.1,s6⟩
 ·unfold Gv at h;simp only[Ab]at h;obtain⟨_,⟨⟨⟨⟨⟨⟨_,_⟩,_⟩,_⟩,ht⟩,_⟩,_⟩,_⟩:=h;unfold Co at ht;rw[Ab,By]at ht;exact ht.2
 ·have:=(ho.2.2.1 hk).2;unfold Co at this;rw[Ab]at this;rintro e;rw[e]at this;have:=this.1;simp[hasB]at this
 ·rw[Js,Ab]at h;refine⟨?_,Pb p h.1 hk⟩;have h2:=h.1;unfold ownB at h2;simp only[hk,Int.reduceEq,or_self,if_false,if_true,Ab,Aj]at h2;intro e;rw[e]at h2;simp at h2
theorem ml8 {α:Type}{l:List α}{b:Int}{f:α->Bool}(h:Co l 1 b f=true):l≠[]:=by
 rintro rfl;simp[Co,hasB]at h
structure SpFacts (s:Sp):Prop where
 names:s.names≠[]
 e:s.kind=3->Gd s.e=true
 body:s.kind=5->s.body.length=1
 other:s.kind≠5->s.body=[]
 ax:s.ax.length<=8
theorem kf6 {s:Sp}(h:Ic s=true):SpFacts s:=by
 have hs:=qh9 h;have hc:=jn8 s h;refine⟨?_,λhk=>?_,hc.2.1,hc.2.2,hs.2.1⟩
 ·unfold Ic at h
  repeat' split at h
  all_goals first
   |cases h
   |(simp only[Ab]at h
     first
      |exact ml8 h.1.1.1.1.2
      |exact ml8 h.1.1.1.2
      |exact ml8 h.1.1.2)
 ·unfold Ic at h;rw[Af (by omega),Af (by omega),Ae hk]at h;simp only[Ab]at h;exact h.1.1.1.1.2
structure GuFacts (g:Gu):Prop where
 head:Gb [g.cond,g.av,g.time]<=4864/\Gb g.aj<=4864/\Gb g.values<=4864
 aj:∀ e∈g.aj,Gd e=true
 body:g.body.length=1
theorem kw3 {g:Gu}(h:Jw g=true):GuFacts g:=by
 have h1:=qh8 h;unfold Qm at h1;unfold Jw Co at h;simp only[Ab,Aj,By]at h;exact⟨⟨by simp only[Gb];omega,by omega,by omega⟩,h.1.2.2,h.1.1.1.1.1.1.2⟩
end Al
end
section
namespace Sc
open Lx
theorem kw4 {p:Pr}(h:Im p=0):Gr p=true/\(Kb p (Db p)).2=0:=by
 unfold Im at h;split at h
 ·rename_i hm;exact⟨hm,h⟩
 ·cases h
end Sc
end
section
def Cu (s:ByteArray):Ex:=.mk 4 0 0 0 s []
def jx8 (x y:ByteArray):Pr:=.mk 3 ByteArray.empty ex0 [Cu x] [Cu y] rp0 [] [] [] sp0
end
section
theorem np:Lx.prim 1=true:=by decide
theorem qz1:Gr pr0=false:=by
 simp[Gr,pr0,Dw,Gv,Gx,Gj,rp0,ex0,sp0,pt0,Pr.kind]
end
section
namespace Sc
open Lx
theorem vh0:aC 1=⟨#[110,49]⟩:=by unfold aC;rw[dec,dif_pos (by omega)];rfl
theorem vh1:aC 2=⟨#[110,50]⟩:=by unfold aC;rw[dec,dif_pos (by omega)];rfl
theorem mr8 (σ:W)(n:Nat)(hc:σ.count=n)(h:¬σ.has (aC (n+1))):Cx σ=(aC (n+1),{σ with count:=(n+1:Nat)}):=by
 unfold Cx;dsimp only;rw[hc,Int.toNat_natCast,skip,Af h]
theorem mf2 (σ:W)(u v:ByteArray):Dp σ (jx8 u v)=(jx8 (aA σ u).1 (aA (aA σ u).2 v).1,(aA (aA σ u).2 v).2):=by
 have h0:∀ σ:W,j4 σ ex0=(ex0,σ):=λσ=>by simp[ex0,j4,Dm,z1]
 have h1:∀ (σ:W) s,j4 σ (Cu s)=(Cu (aA σ s).1,(aA σ s).2):=λσ s=>by simp[Cu,j4,Dm,z1]
 have hr:∀ σ:W,Jk σ ⟨ByteArray.empty,ex0,ex0⟩=((⟨ByteArray.empty,ex0,ex0⟩,[]),σ):=λσ=>by simp[Jk]
 have he:(aA (aA σ u).2 v).2.env=σ.env:=by rw[(Hu _ _).env,(Hu _ _).env]
 simp only[jx8,sp0,Dp,Gt,Hg,Hl,y9,ka9,Dc,h0,h1,hr,Int.reduceEq,if_false,if_true,rp0];simp only[<-he]
end Sc
end
end Go.Proofs.YtklklgfpkpglgaaGreatDoor
