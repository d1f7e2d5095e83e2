/- Parts: S51, S52, S53, S55. -/
import Derived.Test.YtklklgfpkpglgaaGreatDoorP18
import Derived.Test.YtklklgfpkpglgaaGreatDoorP31
set_option linter.all false
set_option maxRecDepth 100000
set_option maxHeartbeats 16000000
namespace Go.Proofs.YtklklgfpkpglgaaGreatDoor
open Go.RowKit Go.Proofs.Tryz
section
namespace Sc
open Lx
def nmL (b:Bool)(s t:ByteArray):Prop:=if b then (Dg s=true->Dg t=true) else t=s
mutual
def Gp:Ex->Ex->Prop
 |.mk kind op ty n s l,.mk kind' op' ty' n' s' l'=>kind'=kind/\op'=op/\ty'=ty/\n'=n/\nmL (Dl kind) s s'/\Fv l l'
def Fv:List Ex->List Ex->Prop
 |[],m=>m=[]
 |e::l,m=>∃ f r,m=f::r/\Gp e f/\Fv l r
end
theorem nmL.refl (b:Bool)(s:ByteArray):nmL b s s:=by unfold nmL;split<;>simp
mutual
theorem Gp.refl:∀ e:Ex,Gp e e
 |.mk kind op ty n s l=>by simp only[Gp,Ex.kind,Ex.op,Ex.ty,Ex.n,Ex.s,Ex.l,true_and];exact⟨.refl _ _,Fv.refl l⟩
theorem Fv.refl:∀ l:List Ex,Fv l l
 |[]=>by simp[Fv]
 |e::l=>by simp only[Fv];exact⟨e,l,rfl,Gp.refl e,Fv.refl l⟩
end
theorem Kk:∀ {l m:List Ex},Fv l m->m.length=l.length
 |[],m,h=>by simp only[Fv]at h;rw[h]
 |e::l,m,h=>by
  simp only[Fv]at h;obtain⟨f,r,rfl,_,h2⟩:=h;simp only[An,Kk h2]
theorem kl3 (p:Ex->Bool)(hp:∀ e f,Gp e f->p e=true->p f=true):∀ {l m:List Ex},Fv l m->l.all p=true->m.all p=true
 |[],m,h,_=>by simp only[Fv]at h;rw[h];rfl
 |e::l,m,h,ha=>by
  simp only[Fv]at h;obtain⟨f,r,rfl,h1,h2⟩:=h;simp only[Fe,Aa]at ha ⊢;exact⟨hp e f h1 ha.1,kl3 p hp h2 ha.2⟩
theorem me8 {e:Ex}(h:Gp ex0 e):e=ex0:=by
 obtain⟨kind,op,ty,n,s,l⟩:=e;simp only[Gp,Fv,ex0,nmL,Dl,Ex.kind,Ex.op,Ex.ty,Ex.n,Ex.s,Ex.l]at h ⊢;obtain⟨rfl,rfl,rfl,rfl,h1,rfl⟩:=h;simp at h1;rw[h1]
theorem my7 {kind op ty n:Int}{s t:ByteArray}(h:nmL (Dl kind) s t)(ho:(Jm kind op ty n s).2=true):Jm kind op ty n t=Jm kind op ty n s:=by
 unfold nmL at h;by_cases hk:Dl kind=true
 ·rw[Ad hk]at h;unfold Dl at hk;simp only[Bm,Bx]at hk;unfold Jm at ho ⊢;rcases hk with (rfl|rfl)|rfl
  all_goals
   simp only[Int.reduceEq,if_false,if_true,or_false,or_true,false_or,true_or,or_self]at ho ⊢;cases hs:Dg s with
   |false=>simp[hs]at ho
   |true=>simp[h hs]
 ·rw[Ae hk]at h;rw[h]
theorem qi5 {e f:Ex}(h:Gp e f):f.kind=e.kind/\f.op=e.op/\f.ty=e.ty/\f.n=e.n/\nmL (Dl e.kind) e.s f.s/\Fv e.l f.l:=by
 obtain⟨kind,op,ty,n,s,l⟩:=e;obtain⟨kind',op',ty',n',s',l'⟩:=f;simp only[Gp]at h;obtain⟨rfl,rfl,rfl,rfl,h1,h2⟩:=h;exact⟨rfl,rfl,rfl,rfl,h1,h2⟩
theorem qy4 {e f:Ex}(h:Gp e f)(ho:Ld e=true):Ld f=true:=by
 obtain⟨e1,e2,e3,e4,h1,h2⟩:=qi5 h;unfold Ld at ho ⊢;rw[Aa]at ho ⊢;rw[e1,e2,e3,e4,my7 h1 ho.1,Kk h2];exact ho
mutual
theorem kr8:∀ {e f:Ex} (d left:Int),Gp e f->(Dy d left e).1=true->Dy d left f=Dy d left e
 |.mk kind op ty n s l,.mk kind' op' ty' n' s' l',d,left,h,hv=>by
  have hw:=qy4 h;simp only[Gp,Ex.kind,Ex.op,Ex.ty,Ex.n,Ex.s,Ex.l]at h;obtain⟨rfl,rfl,rfl,rfl,h1,h2⟩:=h;rw[Dy]at hv ⊢;rw[Dy];by_cases hc:Ld (.mk kind' op' ty' n' s l)=false\/left - 1<0\/32<d
  ·rw[Ad hc]at hv;cases hv
  ·rw[Ae hc]at hv ⊢;have ho:Ld (.mk kind' op' ty' n' s l)=true:=by
    cases h3:Ld (.mk kind' op' ty' n' s l) with
    |true=>rfl
    |false=>exact absurd (.inl h3) hc
   rw[Ae (fun h=>hc (h.elim (fun h=>by rw[hw ho]at h;cases h) .inr))];exact kl4 _ _ h2 hv
theorem kl4:∀ {l m:List Ex} (d left:Int),Fv l m->(Gf d left l).1=true->Gf d left m=Gf d left l
 |[],m,d,left,h,_=>by simp only[Fv]at h;rw[h]
 |e::l,m,d,left,h,hv=>by
  simp only[Fv]at h;obtain⟨f,r,rfl,h1,h2⟩:=h;rw[Gf]at hv ⊢;rw[Gf];by_cases hc:(Dy d left e).1=true
  ·rw[Ad hc]at hv ⊢;rw[kr8 d left h1 hc,Ad hc];exact kl4 _ _ h2 hv
  ·rw[Ae hc]at hv;exact absurd hv hc
end
theorem jd9 {e f:Ex}(h:Gp e f)(hm:Ja e=true):Ja f=true:=by
 unfold Ja at hm ⊢;rw[kr8 _ _ h hm];exact hm
theorem qi6 {e f:Ex}(h:Gp e f):f.kind=e.kind:=by
 obtain⟨kind,op,ty,n,s,l⟩:=e;obtain⟨kind',op',ty',n',s',l'⟩:=f;simp only[Gp]at h;exact h.1
theorem jn1 {e f:Ex}(h:Gp e f)(hm:Iw e=true):Iw f=true:=by
 unfold Iw at hm ⊢;rw[Aa]at hm ⊢;rw[qi6 h];exact⟨hm.1,jd9 h hm.2⟩
theorem ja8 {e f:Ex}(h:Gp e f)(hm:Ka e=true):Ka f=true:=by
 unfold Ka at hm ⊢;rw[r8]at hm ⊢;subst hm;exact me8 h
def me9 (l m:List ByteArray):Prop:=m.length=l.length/\((∀ s∈l,Dg s=true)->∀ s∈m,Dg s=true)
def ms6 (s t:ByteArray):Prop:=(Dg s=true->Dg t=true)/\(s=ByteArray.empty->t=ByteArray.empty)
def mf0 (r q:Rp):Prop:=(q.name=ByteArray.empty↔r.name=ByteArray.empty)/\(Dg r.name=true->Dg q.name=true)/\Gp r.base q.base/\Gp r.count q.count
def Qq (t u:Ty):Prop:=(Pp t=true->Pp u=true)/\(Rf t=true->Rf u=true)/\(t=ty0->u=ty0)
def rg1 (f g:Fo):Prop:=g.val=f.val/\Qq f.type g.type/\(Dg f.name=true->Dg g.name=true)
def jd2:List Fo->List Fo->Prop
 |[],m=>m=[]
 |f::l,m=>∃ g r,m=g::r/\rg1 f g/\jd2 l r
mutual
def ji6:Pr->Pr->Prop
 |.mk kind name chan targets exprs rep guards l procs (.mk sk st sn se spp sf sb),p=>p.kind=kind/\ms6 name p.name/\Gp chan p.chan/\Fv targets p.targets/\Fv exprs p.exprs/\mf0 rep p.rep/\y9 guards p.guards/\x5 l p.l/\p.procs=procs/\
  p.spec.kind=sk/\Qq st p.spec.type/\me9 sn p.spec.names/\Gp se p.spec.e/\p.spec.proto=spp/\jd2 sf p.spec.formals/\x5 sb p.spec.body
def x5:List Pr->List Pr->Prop
 |[],m=>m=[]
 |p::l,m=>∃ q r,m=q::r/\ji6 p q/\x5 l r
def jn2:Gu->Gu->Prop
 |.mk kind name cond chan targets values time body,g=>g.kind=kind/\g.name=name/\Gp cond g.cond/\Gp chan g.chan/\Fv targets g.targets/\Fv values g.values/\Gp time g.time/\x5 body g.body
def y9:List Gu->List Gu->Prop
 |[],m=>m=[]
 |g::l,m=>∃ k r,m=k::r/\jn2 g k/\y9 l r
end
theorem jd3:∀ {l m:List Pr},x5 l m->m.length=l.length
 |[],m,h=>by simp only[x5]at h;rw[h]
 |e::l,m,h=>by
  simp only[x5]at h;obtain⟨f,r,rfl,_,h2⟩:=h;simp only[An,jd3 h2]
theorem Ml:∀ {l m:List Gu},y9 l m->m.length=l.length
 |[],m,h=>by simp only[y9]at h;rw[h]
 |e::l,m,h=>by
  simp only[y9]at h;obtain⟨f,r,rfl,_,h2⟩:=h;simp only[An,Ml h2]
theorem jv2:∀ {l m:List Fo},jd2 l m->m.length=l.length
 |[],m,h=>by simp only[jd2]at h;rw[h]
 |e::l,m,h=>by
  simp only[jd2]at h;obtain⟨f,r,rfl,_,h2⟩:=h;simp only[An,jv2 h2]
theorem jo5 (p:Ex->Bool)(hp:∀ e f,Gp e f->p e=true->p f=true){l m:List Ex}(a b:Int)(h:Fv l m)(he:Dj l a b p=true):Dj m a b p=true:=by
 unfold Dj at he ⊢;rw[Aa]at he ⊢;rw[Kk h];exact⟨he.1,kl3 p hp h he.2⟩
theorem qi7 {g k:Gu}(h:jn2 g k):k.kind=g.kind/\k.name=g.name/\Gp g.cond k.cond/\Gp g.chan k.chan/\Fv g.targets k.targets/\Fv g.values k.values/\Gp g.time k.time/\x5 g.body k.body:=by
 obtain⟨kind,name,cond,chan,targets,values,time,body⟩:=g;simp only[jn2]at h;exact h
theorem my8 {g k:Gu}(h:jn2 g k)(hm:Le g=true):Le k=true:=by
 obtain⟨e1,e2,h1,h2,h3,h4,h5,h6⟩:=qi7 h;unfold Le at hm ⊢;rw[e1,e2,jd3 h6];simp only[Aa]at hm ⊢;refine⟨⟨⟨⟨⟨⟨hm.1.1.1.1.1.1,?_⟩,hm.1.1.1.1.2⟩,?_⟩,?_⟩,?_⟩,?_⟩
 ·have:=hm.1.1.1.1.1.2;split
  ·rename_i hc;rw[Ad hc]at this;rw[Bm,Aa]at this ⊢;exact this.imp (jd9 h1) fun h=>⟨h.1,ja8 h1 h.2⟩
  ·rename_i hc;rw[Ae hc]at this;exact ja8 h1 this
 ·have:=hm.1.1.1.2;split
  ·rename_i hc;rw[Ad hc]at this;exact jn1 h2 this
  ·rename_i hc;rw[Ae hc]at this;exact ja8 h2 this
 ·have:=hm.1.1.2;split
  ·rename_i hc;rw[Ad hc]at this;exact jd9 h5 this
  ·rename_i hc;rw[Ae hc]at this;exact ja8 h5 this
 ·exact jo5 _ (fun e f=>jn1) _ _ h3 hm.1.2
 ·exact jo5 _ (fun e f=>jd9) _ _ h4 hm.2
theorem kl5 (p:Gu->Bool)(hp:∀ e f,jn2 e f->p e=true->p f=true):∀ {l m:List Gu},y9 l m->l.all p=true->m.all p=true
 |[],m,h,_=>by simp only[y9]at h;rw[h];rfl
 |e::l,m,h,ha=>by
  simp only[y9]at h;obtain⟨f,r,rfl,h1,h2⟩:=h;simp only[Fe,Aa]at ha ⊢;exact⟨hp e f h1 ha.1,kl5 p hp h2 ha.2⟩
theorem mf1 {g k:Gu}(h:jn2 g k):k.kind=g.kind:=by
 obtain⟨kind,name,cond,chan,targets,values,time,body⟩:=g;simp only[jn2]at h;exact h.1
theorem my9 {f g:Fo}(h:rg1 f g)(hm:Px f=true):Px g=true:=by
 unfold Px at hm ⊢;rw[Aa,Aa,Bm]at hm ⊢;rw[h.1];exact⟨⟨h.2.2 hm.1.1,h.2.1.1 hm.1.2⟩,hm.2.imp id h.2.1.2.1⟩
theorem kl6:∀ {l m:List Fo},jd2 l m->l.all Px=true->m.all Px=true
 |[],m,h,_=>by simp only[jd2]at h;rw[h];rfl
 |e::l,m,h,ha=>by
  simp only[jd2]at h;obtain⟨f,r,rfl,h1,h2⟩:=h;simp only[Fe,Aa]at ha ⊢;exact⟨my9 h1 ha.1,kl6 h2 ha.2⟩
theorem jj9 {l m:List ByteArray}(a b:Int)(h:me9 l m)(he:Dj l a b Dg=true):Dj m a b Dg=true:=by
 unfold Dj at he ⊢;rw[Aa,Bt]at he ⊢;rw[h.1];exact⟨he.1,h.2 he.2⟩
theorem rm1 {α:Type}{l:List α}(h:l.length=0):l=[]:=Ar h
structure Uu (s t:Sp):Prop where
 kind:t.kind=s.kind
 type:Qq s.type t.type
 names:me9 s.names t.names
 e:Gp s.e t.e
 proto:t.proto=s.proto
 formals:jd2 s.formals t.formals
 body:x5 s.body t.body
theorem mz0 {s t:Sp}(h:Uu s t)(hm:Kh s=true):Kh t=true:=by
 have h1:=h.type;have h2:=h.names;have h3:=h.e;have h4:=h.formals;unfold Kh at hm ⊢;rw[h.kind,h.proto,jv2 h4,jd3 h.body];by_cases k1:s.kind=1
 ·rw[Ad k1]at hm ⊢;simp only[Aa]at hm ⊢;exact⟨⟨⟨⟨⟨h1.1 hm.1.1.1.1.1,jj9 _ _ h2 hm.1.1.1.1.2⟩,ja8 h3 hm.1.1.1.2⟩,hm.1.1.2⟩,hm.1.2⟩,hm.2⟩
 rw[Ae k1]at hm ⊢;by_cases k2:s.kind=2
 ·rw[Ad k2]at hm ⊢;simp only[Aa]at hm ⊢;exact⟨⟨⟨⟨⟨h1.2.1 hm.1.1.1.1.1,jd9 h3 hm.1.1.1.1.2⟩,jj9 _ _ h2 hm.1.1.1.2⟩,hm.1.1.2⟩,hm.1.2⟩,hm.2⟩
 rw[Ae k2]at hm ⊢;by_cases k3:s.kind=3
 ·rw[Ad k3]at hm ⊢;simp only[Aa]at hm ⊢;exact⟨⟨⟨⟨⟨h1.2.1 hm.1.1.1.1.1,jn1 h3 hm.1.1.1.1.2⟩,jj9 _ _ h2 hm.1.1.1.2⟩,hm.1.1.2⟩,hm.1.2⟩,hm.2⟩
 rw[Ae k3]at hm ⊢;by_cases k4:s.kind=4
 ·rw[Ad k4]at hm ⊢;simp only[Aa,r8]at hm ⊢;exact⟨⟨⟨⟨⟨hm.1.1.1.1.1,jj9 _ _ h2 hm.1.1.1.1.2⟩,h1.2.2 hm.1.1.1.2⟩,ja8 h3 hm.1.1.2⟩,hm.1.2⟩,hm.2⟩
 rw[Ae k4]at hm ⊢;by_cases k5:s.kind=5
 ·rw[Ad k5]at hm ⊢;simp only[Aa,r8]at hm ⊢;refine⟨⟨⟨⟨⟨hm.1.1.1.1.1,?_⟩,jj9 _ _ h2 hm.1.1.1.2⟩,h1.2.2 hm.1.1.2⟩,ja8 h3 hm.1.2⟩,hm.2⟩;have:=hm.1.1.1.1.2;unfold Dj at this ⊢;rw[Aa]at this ⊢;rw[jv2 h4];exact⟨this.1,kl6 h4 this.2⟩
 rw[Ae k5]at hm;cases hm
theorem qy5 {s:Sp}(h:Uu sp0 s):s=sp0:=by
 obtain⟨q1,q2,q3,q4,q5,q6,q7⟩:=h;obtain⟨sk,st,sn,se,spp,sf,sb⟩:=s;simp only[sp0,Sp.kind,Sp.type,Sp.names,Sp.e,Sp.proto,Sp.formals,Sp.body,jd2,x5,me9,Av]at *;rw[q1,q2.2.2 rfl,rm1 q3.1,me8 q4,q5,q6,q7]
theorem mm9 {r q:Rp}(h:mf0 r q)(hm:Kn r=true):Kn q=true:=by
 unfold Kn at hm ⊢;by_cases h0:r.name=ByteArray.empty
 ·rw[Ad h0]at hm;rw[Ad (h.1.2 h0)];rw[Aa]at hm ⊢;exact⟨ja8 h.2.2.1 hm.1,ja8 h.2.2.2 hm.2⟩
 ·rw[Ae h0]at hm;rw[Ae (fun e=>h0 (h.1.1 e))];simp only[Aa]at hm ⊢;exact⟨⟨h.2.1 hm.1.1,jd9 h.2.2.1 hm.1.2⟩,jd9 h.2.2.2 hm.2⟩
theorem mf2 {r q:ByteArray}(u:Uses)(h:q=ByteArray.empty↔r=ByteArray.empty):Ii u q=Ii u r:=by
 unfold Ii;by_cases h0:r=ByteArray.empty
 ·rw[Ad h0,Ad (h.2 h0)]
 ·rw[Ae h0,Ae (fun e=>h0 (h.1 e))]
structure likeAt (p q:Pr):Prop where
 kind:q.kind=p.kind
 name:ms6 p.name q.name
 chan:Gp p.chan q.chan
 targets:Fv p.targets q.targets
 exprs:Fv p.exprs q.exprs
 rep:mf0 p.rep q.rep
 guards:y9 p.guards q.guards
 l:x5 p.l q.l
 procs:q.procs=p.procs
 spec:Uu p.spec q.spec
theorem qi8 {p q:Pr}(h:ji6 p q):likeAt p q:=by
 obtain⟨kind,name,chan,targets,exprs,rep,guards,l,procs,⟨sk,st,sn,se,spp,sf,sb⟩⟩:=p;simp only[ji6]at h;obtain⟨h1,h2,h3,h4,h5,h6,h7,h8,h9,h10,h11,h12,h13,h14,h15,h16⟩:=h;exact⟨h1,h2,h3,h4,h5,h6,h7,h8,h9,h10,h11,h12,h13,h14,h15,h16⟩
theorem mz1 {p q:Pr}(h:ji6 p q)(hm:Gq p=true):Gq q=true:=by
 obtain⟨hk,hn,hc,ht,he,hr,hg,hl,hp,hs⟩:=qi8 h;unfold Gq at hm ⊢;rw[hk,hp,mf2 _ hr.1,jd3 hl];generalize Ii (Hf p.kind).1 p.rep.name=u at hm ⊢;simp only[Aa,Bm,Ak]at hm ⊢;obtain⟨⟨⟨m1,m2⟩,m3⟩,⟨⟨⟨⟨⟨⟨m4,m5⟩,m6⟩,m7⟩,m8⟩,m9⟩,m10⟩,m11⟩:=hm;refine⟨⟨⟨m1,mm9 hr m2⟩,m3.imp hr.1.2 id⟩,⟨⟨⟨⟨⟨⟨m4,?_⟩,?_⟩,?_⟩,jo5 _ (fun e f=>jn1) _ _ ht m8⟩,jo5 _ (fun e f=>jd9) _ _ he m9⟩,m10⟩,?_⟩
 ·unfold Dj at m5 ⊢;rw[Aa]at m5 ⊢;rw[Ml hg];refine⟨m5.1,kl5 _ (fun g k hgk hq=>?_) hg m5.2⟩;rw[mf1 hgk];simp only[Aa]at hq ⊢;exact⟨hq.1,my8 hgk hq.2⟩
 ·split
  ·rename_i hu;rw[Ad hu]at m6;exact hn.1 m6
  ·rename_i hu;rw[Ae hu,Ak]at m6;rw[Ak];exact hn.2 m6
 ·split
  ·rename_i hu;rw[Ad hu]at m7;exact jn1 hc m7
  ·rename_i hu;rw[Ae hu]at m7;exact ja8 hc m7
 ·split
  ·rename_i hu;rw[Ad hu]at m11;exact mz0 hs m11
  ·rename_i hu;rw[Ae hu,r8]at m11;rw[r8];rw[m11]at hs;exact qy5 hs
mutual
theorem jq6:∀ {p q:Pr} (d left:Int) (pl:Bool),ji6 p q->(Dh d left pl p).1=true->Dh d left pl q=Dh d left pl p
 |.mk kind name chan targets exprs rep guards l procs (.mk sk st sn se spp sf sb),.mk kind' name' chan' targets' exprs' rep' guards' l' procs' (.mk sk' st' sn' se' spp' sf' sb'),d,left,pl,h,hv=>by
  have hw:=mz1 h;simp only[ji6,Pr.kind,Pr.name,Pr.chan,Pr.targets,Pr.exprs,Pr.rep,Pr.guards,Pr.l,Pr.procs,Pr.spec,Sp.kind,Sp.type,Sp.names,Sp.e,Sp.proto,Sp.formals,Sp.body]at h;obtain⟨rfl,hn,hc,ht,he,hr,hg,hl,rfl,rfl,hst,hsn,hse,rfl,hsf,hsb⟩:=h;rw[Dh]at hv ⊢;rw[Dh];by_cases c1:left - 1<0\/32<d\/Gq (.mk kind' name chan targets exprs rep guards l procs' (.mk sk' st sn se spp' sf sb))=false\/(kind'=11/\pl=false)
  ·rw[Ad c1]at hv;cases hv
  rw[Ae c1]at hv ⊢;have ho:Gq (.mk kind' name chan targets exprs rep guards l procs' (.mk sk' st sn se spp' sf sb))=true:=by
   cases h3:Gq (.mk kind' name chan targets exprs rep guards l procs' (.mk sk' st sn se spp' sf sb)) with
   |true=>rfl
   |false=>exact absurd (.inr (.inr (.inl h3))) c1
  rw[Ae (fun h=>c1 (h.imp id fun h=>h.imp id fun h=>h.imp (fun h=>by rw[hw ho]at h;cases h) id))];by_cases c2:kind'=18/\spp'.cases=true/\32<d+2
  ·rw[Ad c2]at hv;cases hv
  rw[Ae c2]at hv ⊢;rw[Ae c2];dsimp only at hv ⊢;have hb:(if kind'=18 then Co (d+1) (left - 1) sb else (true,left - 1)).1=true->(if kind'=18 then Co (d+1) (left - 1) sb' else (true,left - 1))=(if kind'=18 then Co (d+1) (left - 1) sb else (true,left - 1)):=by
   split
   ·exact mf3 _ _ hsb
   ·exact fun _=>rfl
  generalize (if kind'=18 then Co (d+1) (left - 1) sb else (true,left - 1))=b at hb hv ⊢;by_cases c3:b.1=false
  ·rw[Ad c3]at hv;cases hv
  rw[Ae c3]at hv ⊢;rw[hb (by simpa using c3),Ae c3];have hm:=jx4 (if kind'=11 then d+2 else if kind'=18 then d else d+1) b.2 (pl && decide (kind'=18)) hl;generalize Di (if kind'=11 then d+2 else if kind'=18 then d else d+1) b.2 (pl && decide (kind'=18)) l=m at hm hv ⊢;by_cases c4:m.1=false
  ·rw[Ad c4]at hv;cases hv
  rw[Ae c4]at hv ⊢;rw[hm (by simpa using c4),Ae c4];exact jx5 _ _ hg hv
theorem mf3:∀ {l m:List Pr} (d left:Int),x5 l m->(Co d left l).1=true->Co d left m=Co d left l
 |[],m,d,left,h,_=>by simp only[x5]at h;rw[h]
 |e::l,m,d,left,h,hv=>by
  simp only[x5]at h;obtain⟨f,r,rfl,h1,h2⟩:=h;rw[Co]at hv ⊢;rw[Co];exact jq6 d left false h1 hv
theorem jx4:∀ {l m:List Pr} (d left:Int) (pl:Bool),x5 l m->(Di d left pl l).1=true->Di d left pl m=Di d left pl l
 |[],m,d,left,pl,h,_=>by simp only[x5]at h;rw[h]
 |e::l,m,d,left,pl,h,hv=>by
  simp only[x5]at h;obtain⟨f,r,rfl,h1,h2⟩:=h;rw[Di]at hv ⊢;rw[Di];by_cases hc:(Dh d left pl e).1=true
  ·rw[Ad hc]at hv ⊢;rw[jq6 d left pl h1 hc,Ad hc];exact jx4 _ _ _ h2 hv
  ·rw[Ae hc]at hv;exact absurd hv hc
theorem jx5:∀ {l m:List Gu} (d left:Int),y9 l m->(Gh d left l).1=true->Gh d left m=Gh d left l
 |[],m,d,left,h,_=>by simp only[y9]at h;rw[h]
 |.mk kind name cond chan targets values time body::l,m,d,left,h,hv=>by
  simp only[y9]at h;obtain⟨⟨kind',name',cond',chan',targets',values',time',body'⟩,r,rfl,h1,h2⟩:=h;simp only[jn2,Gu.body]at h1;rw[Gh]at hv ⊢;rw[Gh];by_cases hc:(Co d left body).1=true
  ·rw[Ad hc]at hv ⊢;rw[mf3 d left h1.2.2.2.2.2.2.2 hc,Ad hc];exact jx5 _ _ h2 hv
  ·rw[Ae hc]at hv;exact absurd hv hc
end
theorem qy6 {p q:Pr}(h:ji6 p q)(hm:He p=true):He q=true:=by
 unfold He at hm ⊢;rw[jq6 _ _ _ h hm];exact hm
end Sc
end
section
namespace Sc
open Lx
theorem qy7:∀ (m n:Nat),n<=m->∀ c∈dec n,Ma c=true:=by
 intro m
 induction m with
 |zero=>
  intro n h c hc;obtain rfl:n=0:=by omega
  rw[dec,dif_pos (show 0<10 by omega),Bn]at hc;subst hc;rfl
 |succ m ih=>
  intro n h c hc;have key:∀ d:Nat,d<10->Ma (UInt8.ofNat (48+d))=true:=fun d hd=>by
   have h2:(UInt8.ofNat (48+d)).toNat=48+d:=by rw[UInt8.toNat_ofNat'];omega
   unfold Ma digit;simp only[h2,Bm,Ak];exact .inl (.inr (by omega))
  rw[dec]at hc;split at hc
  ·rename_i h10;rw[Bn]at hc;subst hc;exact key n h10
  ·rename_i h10;rcases Ap.1 hc with hc|hc
   ·exact ih (n / 10) (by omega) c hc
   ·rw[Bn]at hc;subst hc;exact key _ (by omega)
theorem Qh:∀ (m n:Nat),n<10 ^ (m+1)->(dec n).length<=m+1
 |0,n,h=>by rw[dec,dif_pos (by simpa using h)];simp
 |m+1,n,h=>by
  rw[dec];split
  ·simp
  ·have:=Qh m (n / 10) (by rw[Nat.pow_succ]at h;omega);simp only[Ag,An,Av];omega
theorem qi9 (k:ByteArray)(hk:k∈keys):k.data[0]? ≠some 110:=by
 unfold keys at hk;simp only[Bc,List.not_mem_nil,or_false]at hk;rcases hk with rfl|rfl|rfl|rfl|rfl|rfl|rfl|rfl|rfl|rfl|rfl|rfl|rfl|rfl|rfl|rfl|rfl|rfl|rfl|rfl|rfl|rfl|rfl|rfl|rfl|rfl|rfl|rfl|rfl|rfl|rfl|rfl|rfl<;>decide
theorem kr9 (k:Nat)(h:k<10 ^ 20):Dg (newName k)=true:=by
 have h1:=Qh 19 k h;have h2:=qy7 k k (Au _);unfold Dg newName;simp only;rw[Aa,Aa,Aa,Ak,Bt];refine⟨⟨⟨by omega,by rfl⟩,h2⟩,?_⟩;rw[Bq,Bool.eq_false_iff];intro hk;unfold isKey at hk;obtain⟨x,hx,e⟩:=Em.1 hk;rw[Ak]at e;refine qi9 x hx ?_;rw[e];simp
def Bd:Int:=99999999999999999999
theorem mn0 (σ:W)(h0:0<=σ.count)(hb:(Cu σ).2.count<=Bd):Dg (Cu σ).1=true:=by
 obtain⟨k,h1,_,_,h2⟩:=jp9 σ h0;rw[h1];refine kr9 k ?_;rw[h2]at hb;unfold Bd at hb;omega
def NmE (f:ByteArray->List Ent):Prop:=∀ s,∀ x∈f s,Dg x.fresh=true
theorem NmE.push:∀ (ns:List ByteArray) {xs:List Ent} {f:ByteArray->List Ent},NmE f->(∀ x∈xs,Dg x.fresh=true)->NmE (Cm f ns xs)
 |[],[],_,h,_=>h
 |[],_::_,_,h,_=>h
 |_::_,[],_,h,_=>h
 |s::ns,x::xs,f,h,hx=>by
  simp only[Cm];refine NmE.push ns (fun t y hy=>?_) fun y hy=>hx y (Bb _ hy);split at hy
  ·rcases Ap.1 hy with hy|hy
   ·exact h t y hy
   ·rw[Bn]at hy;rw[hy];exact hx x Az
  ·exact h t y hy
theorem kl7 {σ:W}(h:NmE σ.env)(s:ByteArray)(hs:Dg s=true):Dg (nameOf σ s).1=true:=by
 unfold nameOf;cases h1:(σ.env s).getLast? with
 |some x=>exact h s x (List.mem_of_getLast? h1)
 |none=>exact hs
mutual
theorem jh6:∀ (e:Ex) (σ:W),NmE σ.env->Gp e (Cj σ e).1
 |.mk kind op ty n s l,σ,h=>by
  simp only[Cj,Gp,true_and];have hg:(if Dl kind then nameOf σ s else (s,σ)).2.env=σ.env:=by
   split
   ·exact(Ia σ s).env
   ·rfl
  refine⟨?_,kc7 l _ (by rw[hg];exact h)⟩;unfold nmL;split
  ·exact kl7 h s
  ·rfl
theorem kc7:∀ (l:List Ex) (σ:W),NmE σ.env->Fv l (x6 σ l).1
 |[],σ,_=>by simp[x6,Fv]
 |e::l,σ,h=>by
  simp only[x6,Fv];exact⟨_,_,rfl,jh6 e σ h,kc7 l _ (by rw[(Cy e σ).env];exact h)⟩
end
theorem jk0 (l:List Ex){σ:W}(h:NmE σ.env):Fv l (v7 Cj σ l).1:=by rw[<-ja3];exact kc7 l σ h
theorem Qq.refl (t:Ty):Qq t t:=⟨id,id,id⟩
theorem ks0 {t:Ty}(h:Pp t=true)(hp:prim t.kind=true):t.proto=ByteArray.empty:=by
 unfold Pp at h;rw[Ad hp]at h;simp only[Aa,Ak]at h;exact h.2.2
theorem ks1 {σ:W}(h:NmE σ.env)(t:Ty):Qq t (Dm σ t).1:=by
 unfold Dm;split
 ·exact .refl t
 ·rename_i h0;refine⟨fun hm=>?_,fun hm=>?_,fun hm=>absurd (by rw[hm];rfl) h0⟩
  ·by_cases hp:prim t.kind=true
   ·exact absurd (ks0 hm hp) h0
   ·unfold Pp at hm ⊢;dsimp only;rw[Ae hp]at hm ⊢;by_cases h4:t.kind=4
    ·rw[Ad h4]at hm ⊢;by_cases hi:t.item=0
     ·rw[Ad hi]at hm ⊢;rw[Aa]at hm ⊢;exact⟨hm.1,kl7 h _ hm.2⟩
     ·rw[Ae hi]at hm;simp only[Aa,Ak]at hm;exact absurd hm.2.2 h0
    ·rw[Ae h4]at hm;simp only[Aa,Ak]at hm;exact absurd hm.2.2.2.2 h0
  ·unfold Rf at hm;simp only[Aa]at hm;exact absurd (ks0 hm.1.1 hm.2) h0
theorem ke9:∀ (l:List Fo) (ns:List ByteArray) (σ:W),NmE σ.env->ns.length=l.length->(∀ s∈ns,Dg s=true)->jd2 l (named (v7 Cw σ l).1 ns)
 |[],[],_,_,_,_=>by simp[v7,named,jd2]
 |[],_::_,_,_,h,_=>by cases h
 |_::_,[],_,_,h,_=>by cases h
 |f::l,s::ns,σ,h,hl,hn=>by
  simp only[v7,named,jd2];refine⟨_,_,rfl,⟨rfl,ks1 h f.type,fun _=>hn s Az⟩,ke9 l ns _ ?_ (by simpa using hl) fun t ht=>hn t (Bb _ ht)⟩;rw[(Jr σ f).env];exact h
theorem ks2 {has:ByteArray->Prop}{l:List Ent}{c d:Int}(h:Incr has c l d)(hd:d<=Bd):∀ x∈l,Dg x.fresh=true:=fun x hx=>by
 obtain⟨k,h1,_,h2,_⟩:=Sg h x hx;rw[h1];refine kr9 k ?_;unfold Bd at hd;omega
theorem qy8 (tag:Bool)(l:List Ex){σ:W}(h:NmE σ.env):Fv l (Du tag σ l).1:=by
 cases tag with
 |false=>rw[kb6];exact jk0 l h
 |true=>
  cases l with
  |nil=>simp[Du,Fv]
  |cons e l=>
   simp only[Du,if_true,Fv];exact⟨_,_,rfl,Gp.refl e,jk0 l h⟩
def Lf (has:ByteArray->Prop):Int->List ByteArray->Int->Prop
 |c,[],d=>c<=d
 |c,s::l,d=>∃ k:Nat,s=newName k/\c<k/\¬has (newName k)/\Lf has k l d
theorem Lf.of {has:ByteArray->Prop}:∀ {l:List Ent} {c d:Int},Incr has c l d->Lf has c (l.map (·.fresh)) d
 |[],_,_,h=>h
 |_::_,_,_,⟨k,h1,h2,h3,h4⟩=>⟨k,h1,h2,h3,Lf.of h4⟩
theorem Lf.le {has:ByteArray->Prop}:∀ {l:List ByteArray} {c d:Int},Lf has c l d->c<=d
 |[],_,_,h=>h
 |_::_,_,_,⟨_,_,h2,_,h4⟩=>by have:=h4.le;omega
theorem Lf.down {has:ByteArray->Prop}{l:List ByteArray}{c c' d:Int}(h:Lf has c l d)(hc:c'<=c):Lf has c' l d:=by
 cases l with
 |nil=>exact Int.le_trans hc h
 |cons s l=>obtain⟨k,h1,h2,h3,h4⟩:=h;exact⟨k,h1,by omega,h3,h4⟩
theorem Lf.app {has:ByteArray->Prop}:∀ {l m:List ByteArray} {c d e:Int},Lf has c l d->Lf has d m e->Lf has c (l++m) e
 |[],_,_,_,_,h,h'=>h'.down h
 |_::_,_,_,_,_,⟨k,h1,h2,h3,h4⟩,h'=>⟨k,h1,h2,h3,h4.app h'⟩
theorem Lf.lo {has:ByteArray->Prop}:∀ {l:List ByteArray} {c d:Int},Lf has c l d->∀ x∈l,∃ k:Nat,x=newName k/\c<k/\(k:Int)<=d/\¬has x
 |_::l,_,_,⟨k,h1,h2,h3,h4⟩,x,hx=>by
  rcases Bc.1 hx with rfl|hx
  ·exact⟨k,h1,h2,h4.le,h1 ▸ h3⟩
  ·obtain⟨j,h5,h6,h7,h8⟩:=Lf.lo h4 x hx;exact⟨j,h5,by omega,h7,h8⟩
theorem Lf.nodup {has:ByteArray->Prop}:∀ {l:List ByteArray} {c d:Int},Lf has c l d->l.Nodup
 |[],_,_,_=>List.nodup_nil
 |x::l,_,_,⟨k,h1,h2,h3,h4⟩=>by
  rw[List.nodup_cons];refine⟨fun hm=>?_,h4.nodup⟩;obtain⟨j,h5,h6,_⟩:=h4.lo x hm;rw[h5]at h1;have:=Mq h1;omega
structure HeadNew (σ:W)(sk:Int)(st:Ty)(sn:List ByteArray)(se:Ex)(spp:Pt)(sf:List Fo)(a:Head × W):Prop where
 type:Qq st a.1.type
 names:me9 sn a.1.names
 e:Gp se a.1.e
 formals:jd2 sf a.1.formals
 own:∀ x∈a.1.own,Dg x.fresh=true
 inner:∀ x∈a.1.inner,Dg x.fresh=true
 inc:Lf σ.has σ.count (a.1.names++a.1.formals.map (·.name)) a.2.count
 len:a.1.names.length=sn.length/\a.1.formals.length=sf.length
theorem qy9 {σ:W}(h:NmE σ.env)(h0:0<=σ.count)(sk:Int)(st:Ty)(sn:List ByteArray)(se:Ex)(spp:Pt)(sf:List Fo)(hb:(Gl σ (.mk sk st sn se spp sf [])).2.count<=Bd):HeadNew σ sk st sn se spp sf (Gl σ (.mk sk st sn se spp sf [])):=by
 unfold Gl at *;dsimp only[Sp.names,Sp.formals,Sp.type,Sp.e,Sp.kind]at *;have g2:=Ip (sn.map fun _=>Dv σ.env (.mk sk st sn se spp sf [])) (Cr σ sn);have n2:=Lj (sn.map fun _=>Dv σ.env (.mk sk st sn se spp sf [])) (Cr σ sn);have i2:=jj6 (sn.map fun _=>Dv σ.env (.mk sk st sn se spp sf [])) (Cr σ sn) h0;generalize Cs (Cr σ sn) (sn.map fun _=>Dv σ.env (.mk sk st sn se spp sf []))=o at g2 n2 i2 hb ⊢;have p2:=g2.lo h0;have g4:=Ip (sf.map fun f=>(false,Ct σ.env f.type)) (Cr o.2 (sf.map (·.name)));have n4:=Lj (sf.map fun f=>(false,Ct σ.env f.type)) (Cr o.2 (sf.map (·.name)));have i4:=jj6 (sf.map fun f=>(false,Ct σ.env f.type)) (Cr o.2 (sf.map (·.name))) (by dsimp only[Cr]at *;omega);generalize Cs (Cr o.2 (sf.map (·.name))) (sf.map fun f=>(false,Ct σ.env f.type))=i at g4 n4 i4 hb ⊢;have p4:=g4.lo (by dsimp only[Cr]at *;omega);have g5:=Kj i.2 st;have e4:i.2.env=σ.env:=g4.env.trans g2.env;have t5:=ks1 (σ:=i.2) (by rw[e4];exact h) st;generalize Dm i.2 st=t at g5 t5 hb ⊢;have g6:=Ns (fun _=>1) (fun f σ=>Jr σ f) sf t.2;have t6:=fun ns=>ke9 sf ns t.2 (by rw[g5.env,e4];exact h);have n6:=n8 Cw sf t.2;generalize v7 Cw t.2 sf=f at g6 t6 n6 hb ⊢;have g7:=Cy se f.2;have t7:=jh6 se f.2 (by rw[g6.env,g5.env,e4];exact h);generalize Cj f.2 se=e at g7 t7 hb ⊢;simp only[Ab]at n2 n4;have p0:0<=(Cr σ sn).count:=h0;have p1:(Cr o.2 (sf.map (·.name))).count=o.2.count:=rfl;have p3:(Cr σ sn).count=σ.count:=rfl;have p5:=g5.lo (by omega);have p6:=g6.lo (by omega);have p7:=g7.lo (by omega);have d2:=ks2 i2 (by omega);have d4:=ks2 i4 (by omega);have hin:(i.1.map (·.fresh)).length=f.1.length:=by rw[Ab,n6,n4]
 refine⟨t5,⟨by rw[Ab,n2],fun _ s hs=>?_⟩,t7,t6 _ (by rw[Ab,n4]) fun s hs=>?_,d2,d4,?_,by rw[Ab,n2],by rw[Oj _ _ hin,n6]⟩
 ·obtain⟨x,hx,rfl⟩:=Bl.1 hs;exact d2 x hx
 ·obtain⟨x,hx,rfl⟩:=Bl.1 hs;exact d4 x hx
 ·rw[jv1 _ _ hin];have hh:(Cr o.2 (sf.map (·.name))).has=(Cr σ sn).has:=by unfold W.has;rw[show(Cr o.2 (sf.map (·.name))).tk=o.2.tk from rfl,g2.tk]
  have i4:=i4.up (d':=e.2.count) (by omega);rw[hh]at i4;exact(Lf.of i2).app (Lf.of i4)
structure RepNew (σ:W)(r:Rp)(a:(Rp × List Ent) × W):Prop where
 like:mf0 r a.1.1
 own:∀ x∈a.1.2,Dg x.fresh=true
 inc:Lf σ.has σ.count (if a.1.1.name=ByteArray.empty then [] else [a.1.1.name]) a.2.count
theorem rm2 {σ:W}(h:NmE σ.env)(h0:0<=σ.count)(r:Rp)(hb:(Jc σ r).2.count<=Bd):RepNew σ r (Jc σ r):=by
 unfold Jc at *;by_cases hr:r.name=ByteArray.empty
 ·rw[Ad hr];exact⟨⟨.rfl,id,Gp.refl _,Gp.refl _⟩,fun x hx=>(by cases hx),by rw[Ad hr];exact Ed _⟩
 ·rw[Ae hr]at hb ⊢;dsimp only at hb ⊢;have p1:=(Ji σ).lo h0;have g2:=Cy r.base (Cu σ).2;have p2:=g2.lo (by omega);have g3:=Cy r.count (Cj (Cu σ).2 r.base).2;have p3:=g3.lo (by omega);have hn:=mn0 σ h0 (by omega);obtain⟨k,k1,k2,k3,k4⟩:=jp9 σ h0;have hne:¬(Cu σ).1=ByteArray.empty:=jq7 hn;refine⟨⟨⟨fun e=>absurd e hne,fun e=>absurd e hr⟩,fun _=>hn,jh6 _ _ h,jh6 _ _ (by rw[g2.env];exact h)⟩,fun x hx=>?_,?_⟩
  ·rw[Bn]at hx;rw[hx];exact hn
  ·rw[Ae hne];exact⟨k,k1,k2,k3,by show(k:Int)<=_;dsimp only;omega⟩
structure Vw (σ:W)(kind:Int)(name:ByteArray)(chan:Ex)(targets exprs:List Ex)(rep:Rp)(a:PHead × W):Prop where
 name:ms6 name a.1.name
 chan:Gp chan a.1.chan
 targets:Fv targets a.1.targets
 exprs:Fv exprs a.1.exprs
 rep:mf0 rep a.1.rep
 own:∀ x∈a.1.own,Dg x.fresh=true
 inc:Lf σ.has σ.count (if a.1.rep.name=ByteArray.empty then [] else [a.1.rep.name]) a.2.count
theorem qj0 {σ:W}(h:NmE σ.env)(h0:0<=σ.count)(kind:Int)(name:ByteArray)(chan:Ex)(targets exprs:List Ex)(rep:Rp)(hn:kind=17->Dg name=true)(hb:(Fz σ kind name chan targets exprs rep).2.count<=Bd):Vw σ kind name chan targets exprs rep (Fz σ kind name chan targets exprs rep):=by
 unfold Fz at *;dsimp only at hb ⊢;have ga:Grow σ (if kind=17 then nameOf σ name else (name,σ)).2 1:=by
  split
  ·exact Ia σ name
  ·exact Grow.refl _ _
 have ta:ms6 name (if kind=17 then nameOf σ name else (name,σ)).1:=by
  split
  ·rename_i hk;exact⟨kl7 h name,fun e=>absurd e (jq7 (hn hk))⟩
  ·exact⟨id,id⟩
 generalize (if kind=17 then nameOf σ name else (name,σ))=a at ga ta hb ⊢;have p1:=ga.lo h0;have g2:=Cy chan a.2;have t2:=jh6 chan a.2 (by rw[ga.env];exact h);generalize Cj a.2 chan=c at g2 t2 hb ⊢;have p2:=g2.lo (by omega);have g3:=Dz targets c.2;have t3:=jk0 targets (σ:=c.2) (by rw[g2.env,ga.env];exact h);generalize v7 Cj c.2 targets=t at g3 t3 hb ⊢;have p3:=g3.lo (by omega);have g4:=Ib (Db σ.env kind chan exprs) t.2 exprs;have t4:=qy8 (Db σ.env kind chan exprs) exprs (σ:=t.2) (by rw[g3.env,g2.env,ga.env];exact h);generalize Du (Db σ.env kind chan exprs) t.2 exprs=x at g4 t4 hb ⊢;have p4:=g4.lo (by omega);have e4:x.2.env=σ.env:=by rw[g4.env,g3.env,g2.env,ga.env]
 have e5:x.2.has=σ.has:=by unfold W.has;rw[g4.tk,g3.tk,g2.tk,ga.tk]
 have hr:=rm2 (σ:=x.2) (by rw[e4];exact h) (by omega) rep hb;refine⟨ta,t2,t3,t4,hr.like,hr.own,?_⟩;have:=hr.inc;rw[e5]at this;exact this.down (by omega)
theorem qj1 {σ:W}(h:NmE σ.env)(cond chan:Ex)(targets values:List Ex)(time:Ex):Gp cond (Hl σ cond chan targets values time).1.cond/\Gp chan (Hl σ cond chan targets values time).1.chan/\Fv targets (Hl σ cond chan targets values time).1.targets/\Fv values (Hl σ cond chan targets values time).1.values/\Gp time (Hl σ cond chan targets values time).1.time:=by
 unfold Hl;dsimp only;have g1:=Cy cond σ;have g2:=Cy chan (Cj σ cond).2;have g3:=Dz targets (Cj (Cj σ cond).2 chan).2;have g4:=Dz values (v7 Cj (Cj (Cj σ cond).2 chan).2 targets).2;refine⟨jh6 _ _ h,jh6 _ _ (by rw[g1.env];exact h),jk0 _ (by rw[g2.env,g1.env];exact h),jk0 _ (by rw[g3.env,g2.env,g1.env];exact h),jh6 _ _ (by rw[g4.env,g3.env,g2.env,g1.env];exact h)⟩
theorem mz2 {p:Pr}(h:Gq p=true)(hk:p.kind=17):Dg p.name=true:=by
 rw[Iy,Aa]at h;have:=h.1;unfold mx1 at this;simp only[hk,Int.reduceEq,or_self,if_false,if_true,Aa]at this
 grind
mutual
theorem ms7:∀ (p:Pr) (σ:W),NmE σ.env->0<=σ.count->(Fx σ p).2.count<=Bd->Ik p->ji6 p (Fx σ p).1/\Lf σ.has σ.count (jf6 (Fx σ p).1) (Fx σ p).2.count/\(jf6 (Fx σ p).1).length=(jf6 p).length/\Dt (Fx σ p).1=Dt p
 |.mk kind name chan targets exprs rep guards l procs (.mk sk st sn se spp sf sb),σ,h,h0,hb,ha=>by
  simp only[Ik]at ha;obtain⟨a1,a2,a3,a4⟩:=ha;have hnm:=mz2 a1;simp only[Pr.kind,Pr.name]at hnm;have hz:=jo6 _ (by rw[Iy,Aa]at a1;exact a1.1);simp only[Pr.kind,Pr.rep,Pr.spec]at hz;have gh:=Nt σ kind name chan targets exprs rep;have th:=fun hb=>qj0 h h0 kind name chan targets exprs rep hnm hb;simp only[Fx]at hb ⊢;generalize Fz σ kind name chan targets exprs rep=a at gh th hb ⊢;have q1:=gh.lo h0;by_cases hk:kind=18
  ·rw[Ad hk]at hb ⊢;have gs:=Nh a.2 (.mk sk st sn se spp sf []);have ts:=fun hb=>qy9 (σ:=a.2) (by rw[gh.env];exact h) (by omega) sk st sn se spp sf hb;generalize Gl a.2 (.mk sk st sn se spp sf [])=s at gs ts hb ⊢;have q2:=gs.lo (by omega);have gb:=Gy sb {s.2 with env:=Cm σ.env (sf.map (·.name)) s.1.inner};have tb:=fun h hb=>kl8 sb {s.2 with env:=Cm σ.env (sf.map (·.name)) s.1.inner} h (by dsimp only;omega) hb a2;generalize Ga {s.2 with env:=Cm σ.env (sf.map (·.name)) s.1.inner} sb=b at gb tb hb ⊢;have q3:=gb.lo (by dsimp only;omega);have gg:=Ir guards {b.2 with env:=Cm σ.env sn s.1.own};have tg:=fun h hb=>mn1 guards {b.2 with env:=Cm σ.env sn s.1.own} h (by dsimp only at q3 ⊢;omega) hb a3;generalize Gm {b.2 with env:=Cm σ.env sn s.1.own} guards=g at gg tg hb ⊢;have q4:=gg.lo (by dsimp only at q3 ⊢;omega);have gm:=Gy l g.2;have tm:=fun h hb=>kl8 l g.2 h (by dsimp only at q3 q4 ⊢;omega) hb a4;generalize Ga g.2 l=m at gm tm hb ⊢;have q5:=gm.lo (by dsimp only at q3 q4 ⊢;omega);dsimp only at q3 q4 q5 hb ⊢;have th:=th (by omega);have ts:=ts (by omega);have tb:=tb (NmE.push _ h ts.inner) (by omega);have tg:=tg (NmE.push _ h ts.own) (by omega);have tm:=tm (by rw[gg.env];exact NmE.push _ h ts.own) (by omega);have e2:s.2.has=σ.has:=by unfold W.has;rw[gs.tk,gh.tk]
   have e3:b.2.has=σ.has:=by unfold W.has;rw[gb.tk];dsimp only;rw[gs.tk,gh.tk]
   have e4:g.2.has=σ.has:=by unfold W.has;rw[gg.tk];dsimp only;rw[gb.tk];dsimp only;rw[gs.tk,gh.tk]
   have e1:a.2.has=σ.has:=by unfold W.has;rw[gh.tk]
   have i2:=ts.inc;have i3:=tb.2.1;have i4:=tg.2.1;have i5:=tm.2.1;rw[show(W.has {s.2 with env:=Cm σ.env (sf.map (·.name)) s.1.inner})=s.2.has from rfl,e2]at i3;rw[show(W.has {b.2 with env:=Cm σ.env sn s.1.own})=b.2.has from rfl,e3]at i4;rw[e4]at i5;rw[e1]at i2;have hr0:(a.1.rep.name=ByteArray.empty):=th.rep.1.2 (hz.1 hk);simp only[ji6,jf6,Dt,Pr.kind,Pr.name,Pr.chan,Pr.targets,Pr.exprs,Pr.rep,Pr.guards,Pr.l,Pr.procs,Pr.spec,Sp.kind,Sp.type,Sp.names,Sp.e,Sp.proto,Sp.formals,Sp.body,true_and];refine⟨⟨th.name,th.chan,th.targets,th.exprs,th.rep,tg.1,tm.1,ts.type,ts.names,ts.e,ts.formals,tb.1⟩,?_,?_,?_⟩
   ·refine th.inc.app ?_;rw[<-Bv];exact i2.app (i3.app (i4.app i5))
   ·rw[Ad hr0,Ad (hz.1 hk)];simp only[Ag,Ab,ts.len.1,ts.len.2,tb.2.2.1,tg.2.2.1,tm.2.2.1]
   ·rw[tb.2.2.2,tg.2.2.2,tm.2.2.2]
  ·rw[Ae hk]at hb ⊢;have hsp:=hz.2.1 hk;simp only[sp0,Sp.mk.injEq]at hsp;obtain⟨rfl,rfl,rfl,rfl,rfl,rfl,rfl⟩:=hsp;have gg:=Ir guards {a.2 with env:=Cm σ.env (if rep.name=ByteArray.empty then [] else [rep.name]) a.1.own};have tg:=fun h hb=>mn1 guards {a.2 with env:=Cm σ.env (if rep.name=ByteArray.empty then [] else [rep.name]) a.1.own} h (by dsimp only;omega) hb a3;generalize Gm {a.2 with env:=Cm σ.env (if rep.name=ByteArray.empty then [] else [rep.name]) a.1.own} guards=g at gg tg hb ⊢;have q4:=gg.lo (by dsimp only;omega);have gm:=Gy l g.2;have tm:=fun h hb=>kl8 l g.2 h (by dsimp only at q4 ⊢;omega) hb a4;generalize Ga g.2 l=m at gm tm hb ⊢;have q5:=gm.lo (by dsimp only at q4 ⊢;omega);dsimp only at q4 q5 hb ⊢;have th:=th (by omega);have tg:=tg (NmE.push _ h th.own) (by omega);have tm:=tm (by rw[gg.env];exact NmE.push _ h th.own) (by omega);have e1:a.2.has=σ.has:=by unfold W.has;rw[gh.tk]
   have e4:g.2.has=σ.has:=by unfold W.has;rw[gg.tk];dsimp only;rw[gh.tk]
   have i4:=tg.2.1;have i5:=tm.2.1;rw[show(W.has {a.2 with env:=Cm σ.env (if rep.name=ByteArray.empty then [] else [rep.name]) a.1.own})=a.2.has from rfl,e1]at i4;rw[e4]at i5;simp only[ji6,jf6,Dt,jd1,x5,jd2,Pr.kind,Pr.name,Pr.chan,Pr.targets,Pr.exprs,Pr.rep,Pr.guards,Pr.l,Pr.procs,Pr.spec,Sp.kind,Sp.type,Sp.names,Sp.e,Sp.proto,Sp.formals,Sp.body,true_and,Ax,Af];refine⟨⟨th.name,th.chan,th.targets,th.exprs,th.rep,tg.1,tm.1,.refl _,⟨rfl,fun h=>h⟩,Gp.refl _,trivial⟩,?_,?_,?_⟩
   ·exact th.inc.app (i4.app i5)
   ·have hr:=th.rep.1;by_cases hr0:rep.name=ByteArray.empty
    ·rw[Ad hr0,Ad (hr.2 hr0)];simp only[Ag,Av,tg.2.2.1,tm.2.2.1]
    ·rw[Ae hr0,Ae (fun e=>hr0 (hr.1 e))];simp only[Ag,An,Av,tg.2.2.1,tm.2.2.1]
   ·rw[tg.2.2.2,tm.2.2.2]
theorem kl8:∀ (l:List Pr) (σ:W),NmE σ.env->0<=σ.count->(Ga σ l).2.count<=Bd->ja1 l->x5 l (Ga σ l).1/\Lf σ.has σ.count (jd1 (Ga σ l).1) (Ga σ l).2.count/\(jd1 (Ga σ l).1).length=(jd1 l).length/\Jz (Ga σ l).1=Jz l
 |[],σ,_,h0,_,_=>by simp only[Ga,x5,jd1,Jz,Lf,true_and,and_true];exact Ed _
 |p::l,σ,h,h0,hb,ha=>by
  simp only[ja1]at ha;simp only[Ga]at hb ⊢;have g1:=Ll p σ;have t1:=fun hb=>ms7 p σ h h0 hb ha.1;generalize Fx σ p=a at g1 t1 hb ⊢;have q1:=g1.lo h0;have g2:=Gy l a.2;have t2:=kl8 l a.2 (by rw[g1.env];exact h) (by omega) hb ha.2;have q2:=g2.lo (by omega);have t1:=t1 (by omega);have e1:a.2.has=σ.has:=by unfold W.has;rw[g1.tk]
  rw[e1]at t2;simp only[x5,jd1,Jz];exact⟨⟨_,_,rfl,t1.1,t2.1⟩,t1.2.1.app t2.2.1,by simp only[Ag,t1.2.2.1,t2.2.2.1],by rw[t1.2.2.2,t2.2.2.2]⟩
theorem rv7:∀ (p:Gu) (σ:W),NmE σ.env->0<=σ.count->(Iu σ p).2.count<=Bd->ja1 p.body->jn2 p (Iu σ p).1/\Lf σ.has σ.count (ke4 (Iu σ p).1) (Iu σ p).2.count/\(ke4 (Iu σ p).1).length=(ke4 p).length/\Jf (Iu σ p).1=Jf p
 |.mk kind name cond chan targets values time body,σ,h,h0,hb,ha=>by
  simp only[Gu.body]at ha;have g1:=Nr σ cond chan targets values time;have t1:=qj1 h cond chan targets values time;simp only[Iu]at hb ⊢;generalize Hl σ cond chan targets values time=a at g1 t1 hb ⊢;have q1:=g1.lo h0;have t2:=kl8 body a.2 (by rw[g1.env];exact h) (by omega) hb ha;have e1:a.2.has=σ.has:=by unfold W.has;rw[g1.tk]
  rw[e1]at t2;simp only[jn2,ke4,Jf,Gu.kind,Gu.name,Gu.cond,Gu.chan,Gu.targets,Gu.values,Gu.time,Gu.body,true_and];exact⟨⟨t1.1,t1.2.1,t1.2.2.1,t1.2.2.2.1,t1.2.2.2.2,t2.1⟩,t2.2.1.down q1,t2.2.2.1,by rw[t2.2.2.2]⟩
theorem mn1:∀ (l:List Gu) (σ:W),NmE σ.env->0<=σ.count->(Gm σ l).2.count<=Bd->je1 l->y9 l (Gm σ l).1/\Lf σ.has σ.count (jg3 (Gm σ l).1) (Gm σ l).2.count/\(jg3 (Gm σ l).1).length=(jg3 l).length/\Ki (Gm σ l).1=Ki l
 |[],σ,_,h0,_,_=>by simp only[Gm,y9,jg3,Ki,Lf,true_and,and_true];exact Ed _
 |.mk kind name cond chan targets values time body::l,σ,h,h0,hb,ha=>by
  simp only[je1]at ha;simp only[Gm]at hb ⊢;have g1:=ml8 (.mk kind name cond chan targets values time body) σ;have t1:=fun hb=>rv7 (.mk kind name cond chan targets values time body) σ h h0 hb ha.1;generalize Iu σ (.mk kind name cond chan targets values time body)=a at g1 t1 hb ⊢;have q1:=g1.lo h0;have g2:=Ir l a.2;have t2:=mn1 l a.2 (by rw[g1.env];exact h) (by omega) hb ha.2;have q2:=g2.lo (by omega);have t1:=t1 (by omega);have e1:a.2.has=σ.has:=by unfold W.has;rw[g1.tk]
  rw[e1]at t2;rw[y9,jg3,Ki,jg3,Ki];exact⟨⟨_,_,rfl,t1.1,t2.1⟩,t1.2.1.app t2.2.1,by simp only[Ag,t1.2.2.1,t2.2.2.1],by rw[t1.2.2.2,t2.2.2.2]⟩
end
end Sc
end
section
namespace Sc
open Lx
theorem mf4 {s x:ByteArray}:∀ {tk:List (ByteArray × Int)},s∈(Ms tk x).map (·.1)↔s∈tk.map (·.1)\/s=x
 |[]=>by simp[Ms]
 |y::l=>by
  simp only[Ms];split
  ·rename_i h;simp only[Aq,Bc]
   grind
  ·simp only[Aq,Bc,mf4 (tk:=l)]
   grind
theorem kc8 {s:ByteArray}:∀ (l:List ByteArray) (tk:List (ByteArray × Int)),s∈(Fw tk l).map (·.1)↔s∈tk.map (·.1)\/s∈l
 |[],tk=>by simp[Fw]
 |x::l,tk=>by
  rw[show Fw tk (x::l)=Fw (Ms tk x) l from rfl,kc8 l,mf4,Bc,or_assoc]
theorem jx6 {p:Pr}{s:ByteArray}:(start (Dx p)).has s↔s∈Cx p\/s∈Dt p:=by
 unfold W.has Dx;show s∈(Fw (Fw [] (Cx p)) (Dt p)).map (·.1)↔_;rw[kc8,kc8];simp
theorem Qy (tk tk':List (ByteArray × Int))(p:Pr):(Fx (start tk) p).2.ev=(Fx (start tk') p).2.ev:=
 (rf7 (E:=False) p (start tk) (start tk') ⟨fun s=>Nc.refl _ _,fun h=>h.elim,rfl,fun h=>h.elim⟩).2.ev
theorem kc9 (ns:List ByteArray):∀ ev:List (ByteArray × Bool),(Ih ns ev).2=0->∀ e∈ev,e.2=false
 |[],_,e,he=>by cases he
 |(x,true)::l,h,_,_=>by simp[Ih]at h
 |(x,false)::l,h,e,he=>by
  simp only[Ih,Ba,if_false]at h;split at h
  ·rcases Bc.1 he with rfl|he
   ·rfl
   ·exact kc9 ns l h e he
  ·simp at h
theorem qj2 (tk:List (ByteArray × Int)):Lik (start tk) (start tk):=
 ⟨⟨fun s x h=>by simp[la,start]at h,fun s x h=>by simp[la,start]at h,fun s x h=>by simp[la,start]at h,fun s x h=>by simp[la,start]at h⟩,rfl,Ed _,rfl,fun _=>.rfl⟩
theorem kw8 {p:Pr}(h:He p=true):(Fx (start (Dx p)) p).2.count<=Bd:=by
 obtain⟨h1,h2⟩:=jf0 h;have h3:=kw3 p h1;have hg:=(Ll p (start [])).ev;have hlen:=La (Fx (start []) p).2.ev;have ho:=kw5 (Hw (Fx (start []) p).2.ev);have hs:(start []).ev.length=0:=rfl;have hf:(Cx p).length<=prN p:=by unfold Cx;omega
 have l1:=jq5 (Cx p) [];have l2:=jq5 (Dt p) (Fw [] (Cx p));rw[Av]at l1;have l3:(Dx p).length<=184400000:=by unfold Dx;omega
 have hc:=(Ll p (start (Dx p))).hi (Ed 0);have h4:(start (Dx p)).count=0:=rfl;have h5:(start (Dx p)).tk=Dx p:=rfl;rw[h4,h5]at hc;have h6:prN p * ((Dx p).length+1)<=184400000 * 184400001:=Nat.mul_le_mul (by omega) (by omega);have h7:((prN p:Int) * ((Dx p).length+1))=((prN p * ((Dx p).length+1):Nat):Int):=by rw[Int.natCast_mul];rfl
 rw[h7]at hc;unfold Bd;omega
structure Vv (p:Pr):Prop where
 may:He (Dc p)=true
 free:Cx (Dc p)=Cx p
 check:Ij (Dc p) (Cx (Dc p))=Ij p (Cx p)
 uniq:Dc (Dc p)=Dc p
 nodup:(jf6 (Dc p)).Nodup
 apart:∀ x∈jf6 (Dc p),x∉Cx p
 len:(jf6 (Dc p)).length=(jf6 p).length
theorem mf5 {p:Pr}(h:He p=true)(hc:(Ij p (Cx p)).2=0):Vv p:=by
 obtain⟨h1,h2⟩:=jf0 h;have hnew:=ms7 p (start (Dx p)) (fun s x hx=>by cases hx) (Ed 0) (kw8 h) h1;have hev:=kc9 _ _ hc;have hfine:jw8 (Fx (start (Dx p)) p).2:=fun e he=>by
  rw[Qy (Dx p) []]at he;have e2:=hev e he;refine⟨e2,?_⟩;have:(Fx (start (Dx p)) p).2.has e.1↔(start (Dx p)).has e.1:=(Ll p (start (Dx p))).hs e.1;rw[this,jx6];left;rw[kw7];obtain⟨s,b⟩:=e;dsimp only at e2;subst e2;exact he
 have hb:=qg7 p (start (Dx p)) (start (Dx p)) (qj2 _) (ql8 p h1) (fun t ht=>jx6.2 (.inr ht)) hfine;have heq:(Fx (start (Dx p)) (Dc p)).1=Dc p:=hb.eq;have hevq:(Fx (start []) (Dc p)).2.ev=(Fx (start []) p).2.ev:=by
  rw[Qy [] (Dx p) (Dc p),Qy [] (Dx p) p];exact hb.lik.ev.symm
 have hfree:Cx (Dc p)=Cx p:=by unfold Cx;rw[hevq]
 have htag:Dt (Dc p)=Dt p:=hnew.2.2.2;have htk:Dx (Dc p)=Dx p:=by unfold Dx;rw[hfree,htag]
 refine⟨qy6 hnew.1 h,hfree,?_,?_,hnew.2.1.nodup,fun x hx hf=>?_,hnew.2.2.1⟩
 ·rw[hfree];unfold Ij;rw[hevq]
 ·rw[show Dc (Dc p)=(Fx (start (Dx (Dc p))) (Dc p)).1 from rfl,htk];exact heq
 ·obtain⟨_,_,_,_,h8⟩:=hnew.2.1.lo x hx;exact h8 (jx6.2 (.inl hf))
end Sc
end
section
namespace Sc
open Lx
mutual
theorem ms8:∀ {p q:Pr},ji6 p q->kPr p->kPr q
 |.mk kind name chan targets exprs rep guards l procs (.mk sk st sn se spp sf sb),.mk kind' name' chan' targets' exprs' rep' guards' l' procs' (.mk sk' st' sn' se' spp' sf' sb'),h,hk=>by
  simp only[ji6,Pr.kind,Pr.name,Pr.chan,Pr.targets,Pr.exprs,Pr.rep,Pr.guards,Pr.l,Pr.procs,Pr.spec,Sp.kind,Sp.type,Sp.names,Sp.e,Sp.proto,Sp.formals,Sp.body]at h;obtain⟨_,_,_,_,_,_,hg,hl,_,_,_,_,_,_,_,hb⟩:=h;simp only[kPr]at hk ⊢;exact⟨mf6 hg hk.1,jx7 hl hk.2.1,jx7 hb hk.2.2⟩
theorem jx7:∀ {l m:List Pr},x5 l m->Oi l->Oi m
 |[],m,h,hk=>by simp only[x5]at h;rw[h];exact hk
 |p::l,m,h,hk=>by
  simp only[x5]at h;obtain⟨q,r,rfl,h1,h2⟩:=h;simp only[Oi]at hk ⊢;exact⟨ms8 h1 hk.1,jx7 h2 hk.2⟩
theorem mf6:∀ {l m:List Gu},y9 l m->Sb l->Sb m
 |[],m,h,hk=>by simp only[y9]at h;rw[h];exact hk
 |.mk kind name cond chan targets values time body::l,m,h,hk=>by
  simp only[y9]at h;obtain⟨⟨kind',name',cond',chan',targets',values',time',body'⟩,r,rfl,h1,h2⟩:=h;simp only[jn2,Gu.kind,Gu.body]at h1;simp only[Sb]at hk ⊢;exact⟨by rw[h1.1];exact hk.1,jx7 h1.2.2.2.2.2.2.2 hk.2.1,mf6 h2 hk.2.2⟩
end
theorem qj3 (p:Pr)(h:Ht p≠0):Ht p=2\/Ht p=121:=by
 unfold Ht at h ⊢;split
 ·rename_i hm;rw[Ad hm]at h;rcases my6 hm with hf|⟨s,_,hf⟩
  ·rw[hf]at h;exact absurd rfl h
  ·rw[hf];exact .inr rfl
 ·exact .inl rfl
theorem kg6 {p:Pr}(h:Ht p=0):He p=true/\(Ij p (Cx p)).2=0:=by
 unfold Ht at h;split at h
 ·rename_i hm;exact⟨hm,h⟩
 ·cases h
structure NewAll (p q:Pr):Prop where
 may:He p=true
 mayq:He q=true
 un:Vf p=q
 unq:Vf q=q
 errq:Ht q=0
 free:Cx q=Cx p
 nodup:(jf6 q).Nodup
 apart:∀ x∈jf6 q,x∉Cx p
 len:(jf6 q).length=(jf6 p).length
 k:kPr p->kPr q
theorem jv3 {p:Pr}(h:Ht p=0):NewAll p (Dc p):=by
 obtain⟨hm,hc⟩:=kg6 h;have n:=mf5 hm hc;have hcq:(Ij (Dc p) (Cx (Dc p))).2=0:=by rw[n.check];exact hc
 have hnew:=ms7 p (start (Dx p)) (fun s x hx=>by cases hx) (Ed 0) (kw8 hm) (jf0 hm).1;refine⟨hm,n.may,?_,?_,?_,n.free,n.nodup,n.apart,n.len,fun hk=>ms8 hnew.1 hk⟩
 ·unfold Vf;rw[Ad ⟨hm,hc⟩]
 ·unfold Vf;rw[Ad ⟨n.may,hcq⟩,n.uniq]
 ·unfold Ht;rw[Ad n.may];exact hcq
end Sc
end
end Go.Proofs.YtklklgfpkpglgaaGreatDoor
