/- Parts: S51, S52, S53, S55, L8, L9, L10, L11. -/
import Derived.Test.YtdopmfifmgkmoaaGreatDoorKRenameA1
import Derived.Test.YtdopmfifmgkmoaaGreatDoorP44
set_option linter.all false
set_option maxRecDepth 100000
set_option maxHeartbeats 16000000
namespace Go.Proofs.YtdopmfifmgkmoaaGreatDoor
open Go.RowKit Go.Proofs.Tryz
section
namespace Sc
open Lx
def nmL (b:Bool)(s t:ByteArray):Prop:=if b then (Dg s=true->Dg t=true) else t=s
mutual
def Hy:Ex->Ex->Prop
 |.mk kind op ty n s l,.mk kind' op' ty' n' s' l'=>kind'=kind/\op'=op/\ty'=ty/\n'=n/\nmL (Dt kind) s s'/\Gq l l'
def Gq:List Ex->List Ex->Prop
 |[],m=>m=[]
 |e::l,m=>∃ f r,m=f::r/\Hy e f/\Gq l r
end
theorem nmL.refl (b:Bool)(s:ByteArray):nmL b s s:=by unfold nmL;split<;>simp
mutual
theorem Hy.refl:∀ e:Ex,Hy e e
 |.mk kind op ty n s l=>by simp only[Hy,Ex.kind,Ex.op,Ex.ty,Ex.n,Ex.s,Ex.l,true_and];exact⟨.refl _ _,Gq.refl l⟩
theorem Gq.refl:∀ l:List Ex,Gq l l
 |[]=>by simp[Gq]
 |e::l=>by simp only[Gq];exact⟨e,l,rfl,Hy.refl e,Gq.refl l⟩
end
theorem js3:∀ {l m:List Ex},Gq l m->m.length=l.length
 |[],m,h=>by simp only[Gq]at h;rw[h]
 |e::l,m,h=>by
  simp only[Gq]at h;obtain⟨f,r,rfl,_,h2⟩:=h;simp only[Ai,js3 h2]
theorem kd6 (p:Ex->Bool)(hp:∀ e f,Hy e f->p e=true->p f=true):∀ {l m:List Ex},Gq l m->l.all p=true->m.all p=true
 |[],m,h,_=>by simp only[Gq]at h;rw[h];rfl
 |e::l,m,h,ha=>by
  simp only[Gq]at h;obtain⟨f,r,rfl,h1,h2⟩:=h;simp only[Ei,Ab]at ha ⊢;exact⟨hp e f h1 ha.1,kd6 p hp h2 ha.2⟩
theorem kw1 {e:Ex}(h:Hy ex0 e):e=ex0:=by
 obtain⟨kind,op,ty,n,s,l⟩:=e;simp only[Hy,Gq,ex0,nmL,Dt,Ex.kind,Ex.op,Ex.ty,Ex.n,Ex.s,Ex.l]at h ⊢;obtain⟨rfl,rfl,rfl,rfl,h1,rfl⟩:=h;simp at h1;rw[h1]
theorem mp0 {kind op ty n:Int}{s t:ByteArray}(h:nmL (Dt kind) s t)(ho:(Ka kind op ty n s).2=true):Ka kind op ty n t=Ka kind op ty n s:=by
 unfold nmL at h;by_cases hk:Dt kind=true
 ·rw[Ae hk]at h;unfold Dt at hk;simp only[Bo,Eb]at hk;unfold Ka at ho ⊢;rcases hk with (rfl|rfl)|rfl
  all_goals
   simp only[Int.reduceEq,if_false,if_true,or_false,or_true,false_or,true_or,or_self]at ho ⊢;cases hs:Dg s with
   |false=>simp[hs]at ho
   |true=>simp[h hs]
 ·rw[Af hk]at h;rw[h]
theorem mv5 {e f:Ex}(h:Hy e f):f.kind=e.kind/\f.op=e.op/\f.ty=e.ty/\f.n=e.n/\nmL (Dt e.kind) e.s f.s/\Gq e.l f.l:=by
 obtain⟨kind,op,ty,n,s,l⟩:=e;obtain⟨kind',op',ty',n',s',l'⟩:=f;simp only[Hy]at h;obtain⟨rfl,rfl,rfl,rfl,h1,h2⟩:=h;exact⟨rfl,rfl,rfl,rfl,h1,h2⟩
theorem ql5 {e f:Ex}(h:Hy e f)(ho:Lg e=true):Lg f=true:=by
 obtain⟨e1,e2,e3,e4,h1,h2⟩:=mv5 h;unfold Lg at ho ⊢;rw[Ab]at ho ⊢;rw[e1,e2,e3,e4,mp0 h1 ho.1,js3 h2];exact ho
mutual
theorem km3:∀ {e f:Ex} (d left:Int),Hy e f->(Dx d left e).1=true->Dx d left f=Dx d left e
 |.mk kind op ty n s l,.mk kind' op' ty' n' s' l',d,left,h,hv=>by
  have hw:=ql5 h;simp only[Hy,Ex.kind,Ex.op,Ex.ty,Ex.n,Ex.s,Ex.l]at h;obtain⟨rfl,rfl,rfl,rfl,h1,h2⟩:=h;rw[Dx]at hv ⊢;rw[Dx];by_cases hc:Lg (.mk kind' op' ty' n' s l)=false\/left - 1<0\/32<d
  ·rw[Ae hc]at hv;cases hv
  ·rw[Af hc]at hv ⊢;have ho:Lg (.mk kind' op' ty' n' s l)=true:=by
    cases h3:Lg (.mk kind' op' ty' n' s l) with
    |true=>rfl
    |false=>exact absurd (.inl h3) hc
   rw[Af (fun h=>hc (h.elim (fun h=>by rw[hw ho]at h;cases h) .inr))];exact kd7 _ _ h2 hv
theorem kd7:∀ {l m:List Ex} (d left:Int),Gq l m->(Gi d left l).1=true->Gi d left m=Gi d left l
 |[],m,d,left,h,_=>by simp only[Gq]at h;rw[h]
 |e::l,m,d,left,h,hv=>by
  simp only[Gq]at h;obtain⟨f,r,rfl,h1,h2⟩:=h;rw[Gi]at hv ⊢;rw[Gi];by_cases hc:(Dx d left e).1=true
  ·rw[Ae hc]at hv ⊢;rw[km3 d left h1 hc,Ae hc];exact kd7 _ _ h2 hv
  ·rw[Af hc]at hv;exact absurd hv hc
end
theorem jd1 {e f:Ex}(h:Hy e f)(hm:Gr e=true):Gr f=true:=by
 unfold Gr at hm ⊢;rw[km3 _ _ h hm];exact hm
theorem mv6 {e f:Ex}(h:Hy e f):f.kind=e.kind:=by
 obtain⟨kind,op,ty,n,s,l⟩:=e;obtain⟨kind',op',ty',n',s',l'⟩:=f;simp only[Hy]at h;exact h.1
theorem jk9 {e f:Ex}(h:Hy e f)(hm:Hf e=true):Hf f=true:=by
 unfold Hf at hm ⊢;rw[Ab]at hm ⊢;rw[mv6 h];exact⟨hm.1,jd1 h hm.2⟩
theorem jb2 {e f:Ex}(h:Hy e f)(hm:Jm e=true):Jm f=true:=by
 unfold Jm at hm ⊢;rw[k7]at hm ⊢;subst hm;exact kw1 h
def mi8 (l m:List ByteArray):Prop:=m.length=l.length/\((∀ s∈l,Dg s=true)->∀ s∈m,Dg s=true)
def qv3 (s t:ByteArray):Prop:=(Dg s=true->Dg t=true)/\(s=ByteArray.empty->t=ByteArray.empty)
def mv7 (r q:Rp):Prop:=(q.name=ByteArray.empty↔r.name=ByteArray.empty)/\(Dg r.name=true->Dg q.name=true)/\Hy r.base q.base/\Hy r.count q.count
def Te (t u:Ty):Prop:=(Qp t=true->Qp u=true)/\(Ru t=true->Ru u=true)/\(t=ty0->u=ty0)
def qv4 (f g:Fo):Prop:=g.val=f.val/\Te f.type g.type/\(Dg f.name=true->Dg g.name=true)
def Jt:List Fo->List Fo->Prop
 |[],m=>m=[]
 |f::l,m=>∃ g r,m=g::r/\qv4 f g/\Jt l r
mutual
def Lb:Pr->Pr->Prop
 |.mk kind name chan targets exprs rep guards l procs (.mk sk st sn se spp sf sb),p=>p.kind=kind/\qv3 name p.name/\Hy chan p.chan/\Gq targets p.targets/\Gq exprs p.exprs/\mv7 rep p.rep/\Ii guards p.guards/\Gm l p.l/\p.procs=procs/\
  p.spec.kind=sk/\Te st p.spec.type/\mi8 sn p.spec.names/\Hy se p.spec.e/\p.spec.proto=spp/\Jt sf p.spec.formals/\Gm sb p.spec.body
def Gm:List Pr->List Pr->Prop
 |[],m=>m=[]
 |p::l,m=>∃ q r,m=q::r/\Lb p q/\Gm l r
def Mv:Gu->Gu->Prop
 |.mk kind name cond chan targets values time body,g=>g.kind=kind/\g.name=name/\Hy cond g.cond/\Hy chan g.chan/\Gq targets g.targets/\Gq values g.values/\Hy time g.time/\Gm body g.body
def Ii:List Gu->List Gu->Prop
 |[],m=>m=[]
 |g::l,m=>∃ k r,m=k::r/\Mv g k/\Ii l r
end
theorem jm0:∀ {l m:List Pr},Gm l m->m.length=l.length
 |[],m,h=>by simp only[Gm]at h;rw[h]
 |e::l,m,h=>by
  simp only[Gm]at h;obtain⟨f,r,rfl,_,h2⟩:=h;simp only[Ai,jm0 h2]
theorem kd8:∀ {l m:List Gu},Ii l m->m.length=l.length
 |[],m,h=>by simp only[Ii]at h;rw[h]
 |e::l,m,h=>by
  simp only[Ii]at h;obtain⟨f,r,rfl,_,h2⟩:=h;simp only[Ai,kd8 h2]
theorem js4:∀ {l m:List Fo},Jt l m->m.length=l.length
 |[],m,h=>by simp only[Jt]at h;rw[h]
 |e::l,m,h=>by
  simp only[Jt]at h;obtain⟨f,r,rfl,_,h2⟩:=h;simp only[Ai,js4 h2]
theorem jm1 (p:Ex->Bool)(hp:∀ e f,Hy e f->p e=true->p f=true){l m:List Ex}(a b:Int)(h:Gq l m)(he:Da l a b p=true):Da m a b p=true:=by
 unfold Da at he ⊢;rw[Ab]at he ⊢;rw[js3 h];exact⟨he.1,kd6 p hp h he.2⟩
theorem mv8 {g k:Gu}(h:Mv g k):k.kind=g.kind/\k.name=g.name/\Hy g.cond k.cond/\Hy g.chan k.chan/\Gq g.targets k.targets/\Gq g.values k.values/\Hy g.time k.time/\Gm g.body k.body:=by
 obtain⟨kind,name,cond,chan,targets,values,time,body⟩:=g;simp only[Mv]at h;exact h
theorem mp1 {g k:Gu}(h:Mv g k)(hm:Lh g=true):Lh k=true:=by
 obtain⟨e1,e2,h1,h2,h3,h4,h5,h6⟩:=mv8 h;unfold Lh at hm ⊢;rw[e1,e2,jm0 h6];simp only[Ab]at hm ⊢;refine⟨⟨⟨⟨⟨⟨hm.1.1.1.1.1.1,?_⟩,hm.1.1.1.1.2⟩,?_⟩,?_⟩,?_⟩,?_⟩
 ·have:=hm.1.1.1.1.1.2;split
  ·rename_i hc;rw[Ae hc]at this;rw[Bo,Ab]at this ⊢;exact this.imp (jd1 h1) fun h=>⟨h.1,jb2 h1 h.2⟩
  ·rename_i hc;rw[Af hc]at this;exact jb2 h1 this
 ·have:=hm.1.1.1.2;split
  ·rename_i hc;rw[Ae hc]at this;exact jk9 h2 this
  ·rename_i hc;rw[Af hc]at this;exact jb2 h2 this
 ·have:=hm.1.1.2;split
  ·rename_i hc;rw[Ae hc]at this;exact jd1 h5 this
  ·rename_i hc;rw[Af hc]at this;exact jb2 h5 this
 ·exact jm1 _ (fun e f=>jk9) _ _ h3 hm.1.2
 ·exact jm1 _ (fun e f=>jd1) _ _ h4 hm.2
theorem kd9 (p:Gu->Bool)(hp:∀ e f,Mv e f->p e=true->p f=true):∀ {l m:List Gu},Ii l m->l.all p=true->m.all p=true
 |[],m,h,_=>by simp only[Ii]at h;rw[h];rfl
 |e::l,m,h,ha=>by
  simp only[Ii]at h;obtain⟨f,r,rfl,h1,h2⟩:=h;simp only[Ei,Ab]at ha ⊢;exact⟨hp e f h1 ha.1,kd9 p hp h2 ha.2⟩
theorem kw2 {g k:Gu}(h:Mv g k):k.kind=g.kind:=by
 obtain⟨kind,name,cond,chan,targets,values,time,body⟩:=g;simp only[Mv]at h;exact h.1
theorem mp2 {f g:Fo}(h:qv4 f g)(hm:Mg f=true):Mg g=true:=by
 unfold Mg at hm ⊢;rw[Ab,Ab,Bo]at hm ⊢;rw[h.1];exact⟨⟨h.2.2 hm.1.1,h.2.1.1 hm.1.2⟩,hm.2.imp id h.2.1.2.1⟩
theorem ke0:∀ {l m:List Fo},Jt l m->l.all Mg=true->m.all Mg=true
 |[],m,h,_=>by simp only[Jt]at h;rw[h];rfl
 |e::l,m,h,ha=>by
  simp only[Jt]at h;obtain⟨f,r,rfl,h1,h2⟩:=h;simp only[Ei,Ab]at ha ⊢;exact⟨mp2 h1 ha.1,ke0 h2 ha.2⟩
theorem jh7 {l m:List ByteArray}(a b:Int)(h:mi8 l m)(he:Da l a b Dg=true):Da m a b Dg=true:=by
 unfold Da at he ⊢;rw[Ab,Ec]at he ⊢;rw[h.1];exact⟨he.1,h.2 he.2⟩
theorem qy4 {α:Type}{l:List α}(h:l.length=0):l=[]:=At h
structure Vo (s t:Sp):Prop where
 kind:t.kind=s.kind
 type:Te s.type t.type
 names:mi8 s.names t.names
 e:Hy s.e t.e
 proto:t.proto=s.proto
 formals:Jt s.formals t.formals
 body:Gm s.body t.body
theorem mp3 {s t:Sp}(h:Vo s t)(hm:Jf s=true):Jf t=true:=by
 have h1:=h.type;have h2:=h.names;have h3:=h.e;have h4:=h.formals;unfold Jf at hm ⊢;rw[h.kind,h.proto,js4 h4,jm0 h.body];by_cases k1:s.kind=1
 ·rw[Ae k1]at hm ⊢;simp only[Ab]at hm ⊢;exact⟨⟨⟨⟨⟨h1.1 hm.1.1.1.1.1,jh7 _ _ h2 hm.1.1.1.1.2⟩,jb2 h3 hm.1.1.1.2⟩,hm.1.1.2⟩,hm.1.2⟩,hm.2⟩
 rw[Af k1]at hm ⊢;by_cases k2:s.kind=2
 ·rw[Ae k2]at hm ⊢;simp only[Ab]at hm ⊢;exact⟨⟨⟨⟨⟨h1.2.1 hm.1.1.1.1.1,jd1 h3 hm.1.1.1.1.2⟩,jh7 _ _ h2 hm.1.1.1.2⟩,hm.1.1.2⟩,hm.1.2⟩,hm.2⟩
 rw[Af k2]at hm ⊢;by_cases k3:s.kind=3
 ·rw[Ae k3]at hm ⊢;simp only[Ab]at hm ⊢;exact⟨⟨⟨⟨⟨h1.2.1 hm.1.1.1.1.1,jk9 h3 hm.1.1.1.1.2⟩,jh7 _ _ h2 hm.1.1.1.2⟩,hm.1.1.2⟩,hm.1.2⟩,hm.2⟩
 rw[Af k3]at hm ⊢;by_cases k4:s.kind=4
 ·rw[Ae k4]at hm ⊢;simp only[Ab,k7]at hm ⊢;exact⟨⟨⟨⟨⟨hm.1.1.1.1.1,jh7 _ _ h2 hm.1.1.1.1.2⟩,h1.2.2 hm.1.1.1.2⟩,jb2 h3 hm.1.1.2⟩,hm.1.2⟩,hm.2⟩
 rw[Af k4]at hm ⊢;by_cases k5:s.kind=5
 ·rw[Ae k5]at hm ⊢;simp only[Ab,k7]at hm ⊢;refine⟨⟨⟨⟨⟨hm.1.1.1.1.1,?_⟩,jh7 _ _ h2 hm.1.1.1.2⟩,h1.2.2 hm.1.1.2⟩,jb2 h3 hm.1.2⟩,hm.2⟩;have:=hm.1.1.1.1.2;unfold Da at this ⊢;rw[Ab]at this ⊢;rw[js4 h4];exact⟨this.1,ke0 h4 this.2⟩
 rw[Af k5]at hm;cases hm
theorem ql6 {s:Sp}(h:Vo sp0 s):s=sp0:=by
 obtain⟨q1,q2,q3,q4,q5,q6,q7⟩:=h;obtain⟨sk,st,sn,se,spp,sf,sb⟩:=s;simp only[sp0,Sp.kind,Sp.type,Sp.names,Sp.e,Sp.proto,Sp.formals,Sp.body,Jt,Gm,mi8,Aq]at *;rw[q1,q2.2.2 rfl,qy4 q3.1,kw1 q4,q5,q6,q7]
theorem md1 {r q:Rp}(h:mv7 r q)(hm:Iz r=true):Iz q=true:=by
 unfold Iz at hm ⊢;by_cases h0:r.name=ByteArray.empty
 ·rw[Ae h0]at hm;rw[Ae (h.1.2 h0)];rw[Ab]at hm ⊢;exact⟨jb2 h.2.2.1 hm.1,jb2 h.2.2.2 hm.2⟩
 ·rw[Af h0]at hm;rw[Af (fun e=>h0 (h.1.1 e))];simp only[Ab]at hm ⊢;exact⟨⟨h.2.1 hm.1.1,jd1 h.2.2.1 hm.1.2⟩,jd1 h.2.2.2 hm.2⟩
theorem kw3 {r q:ByteArray}(u:Uses)(h:q=ByteArray.empty↔r=ByteArray.empty):Ir u q=Ir u r:=by
 unfold Ir;by_cases h0:r=ByteArray.empty
 ·rw[Ae h0,Ae (h.2 h0)]
 ·rw[Af h0,Af (fun e=>h0 (h.1 e))]
structure likeAt (p q:Pr):Prop where
 kind:q.kind=p.kind
 name:qv3 p.name q.name
 chan:Hy p.chan q.chan
 targets:Gq p.targets q.targets
 exprs:Gq p.exprs q.exprs
 rep:mv7 p.rep q.rep
 guards:Ii p.guards q.guards
 l:Gm p.l q.l
 procs:q.procs=p.procs
 spec:Vo p.spec q.spec
theorem mv9 {p q:Pr}(h:Lb p q):likeAt p q:=by
 obtain⟨kind,name,chan,targets,exprs,rep,guards,l,procs,⟨sk,st,sn,se,spp,sf,sb⟩⟩:=p;simp only[Lb]at h;obtain⟨h1,h2,h3,h4,h5,h6,h7,h8,h9,h10,h11,h12,h13,h14,h15,h16⟩:=h;exact⟨h1,h2,h3,h4,h5,h6,h7,h8,h9,h10,h11,h12,h13,h14,h15,h16⟩
theorem mp4 {p q:Pr}(h:Lb p q)(hm:Il p=true):Il q=true:=by
 obtain⟨hk,hn,hc,ht,he,hr,hg,hl,hp,hs⟩:=mv9 h;unfold Il at hm ⊢;rw[hk,hp,kw3 _ hr.1,jm0 hl];generalize Ir (Ia p.kind).1 p.rep.name=u at hm ⊢;simp only[Ab,Bo,Al]at hm ⊢;obtain⟨⟨⟨m1,m2⟩,m3⟩,⟨⟨⟨⟨⟨⟨m4,m5⟩,m6⟩,m7⟩,m8⟩,m9⟩,m10⟩,m11⟩:=hm;refine⟨⟨⟨m1,md1 hr m2⟩,m3.imp hr.1.2 id⟩,⟨⟨⟨⟨⟨⟨m4,?_⟩,?_⟩,?_⟩,jm1 _ (fun e f=>jk9) _ _ ht m8⟩,jm1 _ (fun e f=>jd1) _ _ he m9⟩,m10⟩,?_⟩
 ·unfold Da at m5 ⊢;rw[Ab]at m5 ⊢;rw[kd8 hg];refine⟨m5.1,kd9 _ (fun g k hgk hq=>?_) hg m5.2⟩;rw[kw2 hgk];simp only[Ab]at hq ⊢;exact⟨hq.1,mp1 hgk hq.2⟩
 ·split
  ·rename_i hu;rw[Ae hu]at m6;exact hn.1 m6
  ·rename_i hu;rw[Af hu,Al]at m6;rw[Al];exact hn.2 m6
 ·split
  ·rename_i hu;rw[Ae hu]at m7;exact jk9 hc m7
  ·rename_i hu;rw[Af hu]at m7;exact jb2 hc m7
 ·split
  ·rename_i hu;rw[Ae hu]at m11;exact mp3 hs m11
  ·rename_i hu;rw[Af hu,k7]at m11;rw[k7];rw[m11]at hs;exact ql6 hs
mutual
theorem jn4:∀ {p q:Pr} (d left:Int) (pl:Bool),Lb p q->(Fz d left pl p).1=true->Fz d left pl q=Fz d left pl p
 |.mk kind name chan targets exprs rep guards l procs (.mk sk st sn se spp sf sb),.mk kind' name' chan' targets' exprs' rep' guards' l' procs' (.mk sk' st' sn' se' spp' sf' sb'),d,left,pl,h,hv=>by
  have hw:=mp4 h;simp only[Lb,Pr.kind,Pr.name,Pr.chan,Pr.targets,Pr.exprs,Pr.rep,Pr.guards,Pr.l,Pr.procs,Pr.spec,Sp.kind,Sp.type,Sp.names,Sp.e,Sp.proto,Sp.formals,Sp.body]at h;obtain⟨rfl,hn,hc,ht,he,hr,hg,hl,rfl,rfl,hst,hsn,hse,rfl,hsf,hsb⟩:=h;rw[Fz]at hv ⊢;rw[Fz];by_cases c1:left - 1<0\/32<d\/Il (.mk kind' name chan targets exprs rep guards l procs' (.mk sk' st sn se spp' sf sb))=false\/(kind'=11/\pl=false)
  ·rw[Ae c1]at hv;cases hv
  rw[Af c1]at hv ⊢;have ho:Il (.mk kind' name chan targets exprs rep guards l procs' (.mk sk' st sn se spp' sf sb))=true:=by
   cases h3:Il (.mk kind' name chan targets exprs rep guards l procs' (.mk sk' st sn se spp' sf sb)) with
   |true=>rfl
   |false=>exact absurd (.inr (.inr (.inl h3))) c1
  rw[Af (fun h=>c1 (h.imp id fun h=>h.imp id fun h=>h.imp (fun h=>by rw[hw ho]at h;cases h) id))];by_cases c2:kind'=18/\spp'.cases=true/\32<d+2
  ·rw[Ae c2]at hv;cases hv
  rw[Af c2]at hv ⊢;rw[Af c2];dsimp only at hv ⊢;have hb:(if kind'=18 then Df (d+1) (left - 1) sb else (true,left - 1)).1=true->(if kind'=18 then Df (d+1) (left - 1) sb' else (true,left - 1))=(if kind'=18 then Df (d+1) (left - 1) sb else (true,left - 1)):=by
   split
   ·exact kw4 _ _ hsb
   ·exact fun _=>rfl
  generalize (if kind'=18 then Df (d+1) (left - 1) sb else (true,left - 1))=b at hb hv ⊢;by_cases c3:b.1=false
  ·rw[Ae c3]at hv;cases hv
  rw[Af c3]at hv ⊢;rw[hb (by simpa using c3),Af c3];have hm:=ju3 (if kind'=11 then d+2 else if kind'=18 then d else d+1) b.2 (pl && decide (kind'=18)) hl;generalize Gg (if kind'=11 then d+2 else if kind'=18 then d else d+1) b.2 (pl && decide (kind'=18)) l=m at hm hv ⊢;by_cases c4:m.1=false
  ·rw[Ae c4]at hv;cases hv
  rw[Af c4]at hv ⊢;rw[hm (by simpa using c4),Af c4];exact ju4 _ _ hg hv
theorem kw4:∀ {l m:List Pr} (d left:Int),Gm l m->(Df d left l).1=true->Df d left m=Df d left l
 |[],m,d,left,h,_=>by simp only[Gm]at h;rw[h]
 |e::l,m,d,left,h,hv=>by
  simp only[Gm]at h;obtain⟨f,r,rfl,h1,h2⟩:=h;rw[Df]at hv ⊢;rw[Df];exact jn4 d left false h1 hv
theorem ju3:∀ {l m:List Pr} (d left:Int) (pl:Bool),Gm l m->(Gg d left pl l).1=true->Gg d left pl m=Gg d left pl l
 |[],m,d,left,pl,h,_=>by simp only[Gm]at h;rw[h]
 |e::l,m,d,left,pl,h,hv=>by
  simp only[Gm]at h;obtain⟨f,r,rfl,h1,h2⟩:=h;rw[Gg]at hv ⊢;rw[Gg];by_cases hc:(Fz d left pl e).1=true
  ·rw[Ae hc]at hv ⊢;rw[jn4 d left pl h1 hc,Ae hc];exact ju3 _ _ _ h2 hv
  ·rw[Af hc]at hv;exact absurd hv hc
theorem ju4:∀ {l m:List Gu} (d left:Int),Ii l m->(Ib d left l).1=true->Ib d left m=Ib d left l
 |[],m,d,left,h,_=>by simp only[Ii]at h;rw[h]
 |.mk kind name cond chan targets values time body::l,m,d,left,h,hv=>by
  simp only[Ii]at h;obtain⟨⟨kind',name',cond',chan',targets',values',time',body'⟩,r,rfl,h1,h2⟩:=h;simp only[Mv,Gu.body]at h1;rw[Ib]at hv ⊢;rw[Ib];by_cases hc:(Df d left body).1=true
  ·rw[Ae hc]at hv ⊢;rw[kw4 d left h1.2.2.2.2.2.2.2 hc,Ae hc];exact ju4 _ _ h2 hv
  ·rw[Af hc]at hv;exact absurd hv hc
end
theorem ql7 {p q:Pr}(h:Lb p q)(hm:Dz p=true):Dz q=true:=by
 unfold Dz at hm ⊢;rw[jn4 _ _ _ h hm];exact hm
end Sc
end
section
namespace Sc
open Lx
theorem Te.refl (t:Ty):Te t t:=⟨id,id,id⟩
end Sc
end
section
namespace Sc
open Lx
theorem ql8 (tk tk':List (ByteArray × Int))(p:Pr):(Fv (start tk) p).2.ev=(Fv (start tk') p).2.ev:=
 (qa9 (E:=False) p (start tk) (start tk') ⟨fun s=>Nb.refl _ _,fun h=>h.elim,rfl,fun h=>h.elim⟩).2.ev
end Sc
end
section
namespace Sc
open Lx
mutual
theorem mi9:∀ p:Pr,(Hl p).length<=prN p
 |.mk kind name chan targets exprs rep guards l procs (.mk sk st sn se spp sf sb)=>by
  have h1:=ju5 sb;have h2:=kw5 guards;have h3:=ju5 l;have h4:(if rep.name=ByteArray.empty then ([]:List ByteArray) else [rep.name]).length<=1:=by split<;>simp
  simp only[Hl,prN,Gc,Lv,Ag,Aa];omega
theorem ju5:∀ l:List Pr,(Dr l).length<=Hz l
 |[]=>by simp[Dr]
 |p::l=>by
  have h1:=mi9 p;have h2:=ju5 l;simp only[Dr,Hz,Ag];omega
theorem kw5:∀ l:List Gu,(Gf l).length<=Jb l
 |[]=>by simp[Gf]
 |.mk kind name cond chan targets values time body::l=>by
  have h1:=ju5 body;have h2:=kw5 l;rw[Gf,Qn,Jb,guN,Ag];omega
end
theorem Vz {p:Pr}(h:Dz p=true):(Hl p).length<=184400000:=by
 obtain⟨h1,h2⟩:=Nl h;have h3:=Rw p h1;have:=mi9 p;omega
end Sc
end
section
variable {mm:Int}
theorem mw0 {l:List ByteArray}{s:ByteArray}(h:s∉l):l.any (Sc.isB s)=false:=by
 cases hc:l.any (Sc.isB s) with
 |false=>rfl
 |true=>exact absurd (Sc.Px.1 hc) h
attribute [local irreducible] TR TC
end
section
def Ue:List Nat:=[0,1,2,6,7,8,9,13,32]
attribute [local irreducible] TR TC
theorem qy5 (gl:List (Nat × List D))(s old fr:ByteArray):FnD prog gl 92 [.d (.str s),.d (.str old),.d (.str fr)] (fun v=>v=.d (.str (if s=old then fr else s))):=by
 (refine j3 func92 ntmps92 results92 fun w M=>?_)
 (repeat' first|refine yyp ?_;try refine Cc ?_ ?_<;>intro hb|refine yy ?_|refine yy2 ?_ ?_<;>intro hcmp|refine at_nil ?_;refine Ce [0,1,2,6,7,8,9] ?_|refine Cb fun K hK=>?_|apply_assumption -exfalso -symm)
 all_goals
  (refine j0 (j5 ?_))
  simp[oneOf,hcmp]
theorem qv5 (old fr:ByteArray)(e:Ex):dE (Sc.He old fr e)=.agg [.int .u8 e.kind,.int .u8 e.op,.int .u8 e.ty,.int .i32 e.n,.str (if Dt e.kind then (if e.s=old then fr else e.s) else e.s),.list 6 ((Sc.Gp old fr e.l).map dEx)]:=by
 obtain⟨kind,op,ty,n,s,l⟩:=e;rw[Sc.He];simp only[dE,Ex.kind,Ex.op,Ex.ty,Ex.n,Ex.s,Ex.l];by_cases h1:Dt kind=true<;>by_cases h2:s=old<;>simp[h1,h2]
theorem ql9 (old fr:ByteArray)(l:List Ex)(j:Nat)(hj:j<l.length):Sc.Gp old fr (l.take (j+1))=Sc.Gp old fr (l.take j)++[Sc.He old fr l[j]]:=by
 rw[Sc.Pn,Sc.Pn,<-ja3 _ _ hj,Ap];rfl
theorem km4 (gl:List (Nat × List D))(l:List Ex)(old fr:ByteArray)(hb:l.length<=1000000000)
 (ih:∀ (j:Nat) (hj:j<l.length),FnD prog gl 52 [.d (.list 6 ((l[j]).l.map dEx)),.d (.str old),.d (.str fr)] (fun v=>v=.d (.list 6 ((Sc.Gp old fr (l[j]).l).map dEx)))):
 FnD prog gl 52 [.d (.list 6 (l.map dEx)),.d (.str old),.d (.str fr)] (fun v=>v=.d (.list 6 ((Sc.Gp old fr l).map dEx))):=by
 rw[show(l.map dEx)=l.map dE from by rw[r9],show((Sc.Gp old fr l).map dEx)=(Sc.Gp old fr l).map dE from by rw[r9]]
 (refine j3 func52 ntmps52 results52 fun w M=>?_)
 ((repeat' first|refine Ck 2 ?_;refine halt ?_|refine yyp ?_;try refine Cc ?_ ?_<;>intro hb|refine yy ?_|refine at_nil ?_;refine Ce Ue ?_|refine Cb fun K hK=>?_|apply_assumption -exfalso -symm);all_goals try refine unhalt ?_)
 refine jf1 (t:=7) (e:=28) (sz:=6) rfl rfl ?_
 (repeat' first|refine yyp ?_;try refine Cc ?_ ?_<;>intro hb|refine yy ?_|refine at_nil ?_;refine Ce Ue ?_|refine Cb fun K hK=>?_|apply_assumption -exfalso -symm)
 refine j8 [7,8,9,10,11,12,13,14,15,16,17,18,19,20,21,22,23,24,25,26,27,28,29,30,31,32,33,34,35,36,37,38,39,40,41,42,43,44,45,46,47,48] [7] (fun x:Nat × Nat=>[(8,.d (.int .i64 x.1)),(7,.own 7 x.2)]) (fun x=>[(7,.row 28 6 true ((Sc.Gp old fr (l.take x.1)).map dE) x.2)]) (fun x=>x.1<=l.length) (fun x=>l.length - x.1) (0,0) (Ak _) fun⟨j,kv⟩ hj=>?_;dsimp only[Ac,Ad]at hj ⊢;have hlen:(Sc.Gp old fr (l.take j)).length=j:=by rw[Sc.Pn,Aa,Aj];omega
 rcases Ah j l.length with hj2|hj2
 ·have hone:=ih j hj2;have ht:=qy5 gl (l[j]).s old fr;have hr:=qv5 old fr l[j]
  (repeat' first|refine Ca 9 ?_;(refine Cj 9 ?_)|refine Ca 23 ?_;(first|refine yyp ?_;try refine Cc ?_ ?_<;>intro hb|refine yy2 ?_ ?_<;>intro hcmp);all_goals try refine Db true 23 32 Ue ?_|refine Ca 28 ?_;(first|refine yyp ?_;try refine Cc ?_ ?_<;>intro hb|refine yy2 ?_ ?_<;>intro hcmp);all_goals try refine Db true 28 32 Ue ?_|refine Ca 47 ?_;(refine Dh 47 ?_)|refine yyp ?_;try refine Cc ?_ ?_<;>intro hb|refine yy ?_|refine yy2 ?_ ?_<;>intro hcmp|refine Cf 92 ?_;refine Cg (hc:=(by exact ht)) ?_|refine Cf 52 ?_;refine Cg (hc:=(by exact hone)) ?_|(refine Cq ?_;first|(refine Cs (fun kv=>?_))|(refine z_append_suf (fun sx sp kv hsx hsp hsl=>?_)))|refine at_nil ?_;refine Ce Ue ?_|refine Cb fun K hK=>?_|apply_assumption -exfalso -symm)
  all_goals
   refine⟨(j+1,kv),by dsimp only;omega,by dsimp only;omega,?_⟩;dsimp only;rw[ql9 old fr l j hj2];simp only[Ap,Am,Aw,hr]
   first
    |(have hk:Dt (l[j]).kind=true:=by unfold Dt;simp[hcmp]
      simp only[hk,if_true];exact v6)
    |(have hk:¬Dt (l[j]).kind=true:=by unfold Dt;simp;omega
      rw[Af hk];exact v6)
 have hjl:j=l.length:=by omega
 subst hjl;rw[Au]
 (repeat' first|refine yyp ?_;try refine Cc ?_ ?_<;>intro hb|refine yy ?_|refine at_nil ?_;refine Ce Ue ?_|refine Cb fun K hK=>?_|apply_assumption -exfalso -symm)
 (refine j0 (j5 ?_))
 rfl
theorem jn5 (gl:List (Nat × List D))(old fr:ByteArray):∀ (n:Nat) (l:List Ex),Hr l<=n->n<=1000000000->FnD prog gl 52 [.d (.list 6 (l.map dEx)),.d (.str old),.d (.str fr)] (fun v=>v=.d (.list 6 ((Sc.Gp old fr l).map dEx))):=by
 intro n
 induction n with
 |zero=>
  intro l hl _;have:=n7 l;exact km4 gl l old fr (by omega) fun j hj=>by omega
 |succ n ih=>
  intro l hl hn;have:=n7 l;refine km4 gl l old fr (by omega) fun j hj=>ih (l[j]).l ?_ (by omega);have h1:=n5 l j hj;have h2:=mx9 l[j];omega
theorem js5 (gl:List (Nat × List D))(e:Ex)(old fr:ByteArray)(hb:exN e<=1000000000):FnD prog gl 51 [.d (dEx e),.d (.str old),.d (.str fr)] (fun v=>v=.d (dEx (Sc.He old fr e))):=by
 have h:=jn5 gl old fr _ [e] (As _) (by simp only[Hr];omega);have hr:=qv5 old fr e;simp only[Sc.Gp,Am,Aw,r9,hr]at h ⊢
 (refine j3 func51 ntmps51 results51 fun w M=>?_)
 (repeat' first|refine Ca 3 ?_;(refine j6 3 ?_)|refine Ca 6 ?_;(refine Cj 6 ?_)|refine Ca 8 ?_;(refine Dh 8 ?_)|refine yyp ?_;try refine Cc ?_ ?_<;>intro hb|refine yy ?_|refine Cf 52 ?_;refine Cg (hc:=(by exact h)) ?_|refine at_nil ?_;refine Ce [0,1,2,3,6,7,8,28] ?_|refine Cb fun K hK=>?_|apply_assumption -exfalso -symm)
 (refine j0 (j5 ?_))
 rfl
end
section
def Uq:List Nat:=[0,1,2,6,7,8,12]
theorem qy6 (old fr:ByteArray)(g:Gu):dG (Sc.Ra old fr g)=.agg [.int .u8 g.kind,.str g.name,
 .int .u8 (Sc.He old fr g.cond).kind,.int .u8 (Sc.He old fr g.cond).op,.int .u8 (Sc.He old fr g.cond).ty,.int .i32 (Sc.He old fr g.cond).n,.str (Sc.He old fr g.cond).s,.list 6 ((Sc.He old fr g.cond).l.map dEx),
 .int .u8 (Sc.He old fr g.chan).kind,.int .u8 (Sc.He old fr g.chan).op,.int .u8 (Sc.He old fr g.chan).ty,.int .i32 (Sc.He old fr g.chan).n,.str (Sc.He old fr g.chan).s,.list 6 ((Sc.He old fr g.chan).l.map dEx),
 .list 6 ((Sc.Gp old fr g.targets).map dEx),.list 6 ((Sc.Gp old fr g.values).map dEx),
 .int .u8 (Sc.He old fr g.time).kind,.int .u8 (Sc.He old fr g.time).op,.int .u8 (Sc.He old fr g.time).ty,.int .i32 (Sc.He old fr g.time).n,.str (Sc.He old fr g.time).s,.list 6 ((Sc.He old fr g.time).l.map dEx),
 .list 42 ((Sc.Io old fr g.body).map dPr)]:=by
 obtain⟨kind,name,cond,chan,targets,values,time,body⟩:=g;rw[Sc.Ra];rfl
theorem mw1 (old fr:ByteArray)(l:List Gu)(j:Nat)(hj:j<l.length):Sc.Jd old fr (l.take (j+1))=Sc.Jd old fr (l.take j)++[Sc.Ra old fr l[j]]:=by
 have hm:∀ l:List Gu,Sc.Jd old fr l=l.map (Sc.Ra old fr):=fun l=>by
  induction l with
  |nil=>simp[Sc.Jd]
  |cons x l ih=>simp only[Sc.Jd,Am,ih]
 rw[hm,hm,<-ja3 _ _ hj,Ap];rfl
theorem mj0 (old fr:ByteArray):∀ l:List Pr,Sc.Io old fr l=l.map (Sc.Ja old fr)
 |[]=>by simp[Sc.Io]
 |x::l=>by simp only[Sc.Io,Am,mj0 old fr l]
theorem mj1 (old fr:ByteArray):∀ l:List Gu,(Sc.Jd old fr l).length=l.length
 |[]=>by simp[Sc.Jd]
 |x::l=>by simp only[Sc.Jd,Ai,mj1 old fr l]
theorem qm0 (old fr:ByteArray)(p:Pr):∃ g l b,Sc.Ja old fr p=.mk p.kind p.name (Sc.He old fr p.chan) (Sc.Gp old fr p.targets) (Sc.Gp old fr p.exprs) ⟨p.rep.name,Sc.He old fr p.rep.base,Sc.He old fr p.rep.count⟩ g l p.procs (.mk p.spec.kind p.spec.type p.spec.names (Sc.He old fr p.spec.e) p.spec.proto p.spec.formals b)/\
 (old∈p.spec.names\/p.rep.name=old->g=p.guards/\l=p.l)/\(¬(old∈p.spec.names\/p.rep.name=old)->g=Sc.Jd old fr p.guards/\l=Sc.Io old fr p.l)/\
 (old∈p.spec.formals.map (·.name)->b=p.spec.body)/\(old∉p.spec.formals.map (·.name)->b=Sc.Io old fr p.spec.body):=by
 obtain⟨kind,name,chan,targets,exprs,rep,guards,l,procs,⟨sk,st,sn,se,spp,sf,sb⟩⟩:=p;rw[Sc.Ja];refine⟨_,_,_,rfl,fun h=>⟨Ae h,Ae h⟩,fun h=>⟨Af h,Af h⟩,fun h=>Ae h,fun h=>Af h⟩
theorem kw6:∀ l:List Gu,l.length<=Sc.Jb l
 |[]=>by simp[Sc.Jb]
 |.mk kind name cond chan targets values time body::l=>by
  have:=kw6 l;have:=jm4 cond;simp only[Sc.Jb,Sc.guN,Sc.Ng,Ai];omega
theorem ke1 {g:Gu}:∀ {l:List Gu},g∈l->Sc.guN g<=Sc.Jb l
 |x::l,h=>by
  rcases Bf.1 h with rfl|h
  ·simp only[Sc.Jb];omega
  ·have:=ke1 h;simp only[Sc.Jb];omega
theorem kw7 {p:Pr}:∀ {l:List Pr},p∈l->Sc.prN p<=Sc.Hz l
 |x::l,h=>by
  rcases Bf.1 h with rfl|h
  ·simp only[Sc.Hz];omega
  ·have:=kw7 h;simp only[Sc.Hz];omega
theorem qm1 (p:Pr):1<=Sc.prN p:=by
 obtain⟨kind,name,chan,targets,exprs,rep,guards,l,procs,⟨sk,st,sn,se,spp,sf,sb⟩⟩:=p;simp only[Sc.prN,Sc.Gc];omega
theorem kw8:∀ l:List Pr,l.length<=Sc.Hz l
 |[]=>by simp[Sc.Hz]
 |x::l=>by have:=kw8 l;have:=qm1 x;simp only[Sc.Hz,Ai];omega
theorem mw2 (p:Pr):Sc.prN p=1+exN p.chan+Hr p.targets+Hr p.exprs+(1+exN p.rep.base+exN p.rep.count)+(2 * p.spec.names.length+3 * p.spec.formals.length+exN p.spec.e+1)+Sc.Hz p.spec.body+Sc.Jb p.guards+Sc.Hz p.l:=by
 obtain⟨kind,name,chan,targets,exprs,rep,guards,l,procs,⟨sk,st,sn,se,spp,sf,sb⟩⟩:=p;simp only[Sc.prN,Sc.Gc,Sc.Lv];rfl
theorem mw3 (g:Gu):Sc.guN g=exN g.cond+exN g.chan+Hr g.targets+Hr g.values+exN g.time+Sc.Hz g.body:=by
 obtain⟨kind,name,cond,chan,targets,values,time,body⟩:=g;simp only[Sc.guN,Sc.Ng];rfl
attribute [local irreducible] TR TC
theorem qm2 (gl:List (Nat × List D))(l:List Pr)(old fr:ByteArray)(hb:l.length<=1000000000)
 (ih:∀ x∈l,FnD prog gl 27 [.d (dPr x),.d (.str old),.d (.str fr)] (fun v=>v=.d (dPr (Sc.Ja old fr x)))):
 FnD prog gl 53 [.d (.list 42 (l.map dPr)),.d (.str old),.d (.str fr)] (fun v=>v=.d (.list 42 ((Sc.Io old fr l).map dPr))):=by
 rw[mj0];simp only[v8]at ih ⊢
 (refine j3 func53 ntmps53 results53 fun w M=>?_)
 refine r7 0 rfl fun hn=>?_;simp only[Aa]at hn
 ((repeat' first|refine Ck 2 ?_;refine halt ?_|refine yyp ?_;try refine Cc ?_ ?_<;>intro hb|refine yy ?_|refine at_nil ?_;refine Ce Uq ?_|refine Cb fun K hK=>?_|apply_assumption -exfalso -symm);all_goals try refine unhalt ?_)
 refine jf1 (t:=7) (e:=45) (sz:=42) rfl rfl ?_
 (repeat' first|refine yyp ?_;try refine Cc ?_ ?_<;>intro hb|refine yy ?_|refine at_nil ?_;refine Ce Uq ?_|refine Cb fun K hK=>?_|apply_assumption -exfalso -symm)
 refine j8 [7,8,9,10,11,12,13,14,15,16,17,18,19,20,21,22,23,24] [7] (fun x:Nat × Nat=>[(8,.d (.int .i64 x.1)),(7,.own 7 x.2)]) (fun x=>[(7,.row 45 42 true (((l.take x.1).map (Sc.Ja old fr)).map dP) x.2)]) (fun x=>x.1<=l.length) (fun x=>l.length - x.1) (0,0) (Ak _) fun⟨j,kv⟩ hj=>?_;dsimp only[Ac,Ad]at hj ⊢;have hlen:((l.take j).map (Sc.Ja old fr)).length=j:=by rw[Aa,Aj];omega
 rcases Ah j l.length with hj2|hj2
 ·have hone:=ih l[j] (Ar hj2)
  (repeat' first|refine Ca 23 ?_;(refine Dh 23 ?_)|refine yyp ?_;try refine Cc ?_ ?_<;>intro hb|refine yy ?_|refine Cf 27 ?_;refine Cg (hc:=(by exact hone)) ?_|(refine Cq ?_;first|(refine Cs (fun kv=>?_))|(refine z_append_suf (fun sx sp kv hsx hsp hsl=>?_)))|refine at_nil ?_;refine Ce Uq ?_|refine Cb fun K hK=>?_|apply_assumption -exfalso -symm)
  refine⟨(j+1,kv),by dsimp only;omega,by dsimp only;omega,?_⟩;dsimp only;rw[<-ja3 _ _ hj2];simp only[Ap,Am,Aw];exact v6
 have hjl:j=l.length:=by omega
 subst hjl;rw[Au]
 (repeat' first|refine yyp ?_;try refine Cc ?_ ?_<;>intro hb|refine yy ?_|refine at_nil ?_;refine Ce Uq ?_|refine Cb fun K hK=>?_|apply_assumption -exfalso -symm)
 (refine j0 (j5 ?_))
 rfl
end
section
def Ql:List Nat:=[0,1,2,3,6,7,8,9,10,11,12,45,72,88,97,103]
attribute [local irreducible] TR TC
theorem kw9 (gl:List (Nat × List D))(p:Pr)(old fr:ByteArray)(hb:Sc.prN p<=1000000000)
 (ih:∀ l:List Pr,(l=p.l\/l=p.spec.body\/∃ g∈p.guards,l=g.body)->FnD prog gl 53 [.d (.list 42 (l.map dPr)),.d (.str old),.d (.str fr)] (fun v=>v=.d (.list 42 ((Sc.Io old fr l).map dPr)))):
 FnD prog gl 27 [.d (dPr p),.d (.str old),.d (.str fr)] (fun v=>v=.d (dPr (Sc.Ja old fr p))):=by
 have hN:=mw2 p;obtain⟨gg,ll,bb,hat,h1,h2,h3,h4⟩:=qm0 old fr p;have hgl:=kw6 p.guards;have o1:=js5 gl p.chan old fr (by omega);have o2:=js5 gl p.rep.base old fr (by omega);have o3:=js5 gl p.rep.count old fr (by omega);have o4:=js5 gl p.spec.e old fr (by omega);have e1:=jn5 gl old fr _ p.targets (As _) (by omega);have e2:=jn5 gl old fr _ p.exprs (As _) (by omega);have hin:=jr9 gl p.spec.names old;have p1:=ih p.spec.body (.inr (.inl rfl));have p2:=ih p.l (.inl rfl);rw[hat];rw[show(dPr p)=dP p from congrFun v8 p,show dPr (Pr.mk p.kind p.name (Sc.He old fr p.chan) (Sc.Gp old fr p.targets) (Sc.Gp old fr p.exprs) ⟨p.rep.name,Sc.He old fr p.rep.base,Sc.He old fr p.rep.count⟩ gg ll p.procs (.mk p.spec.kind p.spec.type p.spec.names (Sc.He old fr p.spec.e) p.spec.proto p.spec.formals bb))=dP _ from congrFun v8 _];simp only[r9]at o1 o2 o3 o4
 (refine j3 func27 ntmps27 results27 fun w M=>?_)
 refine k9 0 23 rfl rfl fun hng=>?_;refine k9 0 40 rfl rfl fun hnf=>?_;simp only[Aa]at hng hnf
 (repeat' first|refine Ca 3 ?_;(refine j6 3 ?_)|refine Ca 6 ?_;(refine Cj 6 ?_)|refine Ca 60 ?_;(first|refine yyp ?_;try refine Cc ?_ ?_<;>intro hb|refine yy2 ?_ ?_<;>intro hcmp);all_goals try refine Db true 60 7 Ql ?_|refine yyp ?_|refine yy ?_|refine yy2 ?_ ?_<;>intro hcmp|refine Cf 51 ?_;refine Cg (hc:=o1) ?_|refine Cf 52 ?_;refine Cg (hc:=e1) ?_|refine Cf 52 ?_;refine Cg (hc:=e2) ?_|refine Cf 51 ?_;refine Cg (hc:=o2) ?_|refine Cf 51 ?_;refine Cg (hc:=o3) ?_|refine Cf 51 ?_;refine Cg (hc:=o4) ?_|refine Cf 24 ?_;refine Cg (hc:=(by exact hin)) ?_|refine at_nil ?_;refine Ce Ql ?_|refine Cb fun K hK=>?_|apply_assumption -exfalso -symm)
 all_goals
  refine j8 [8,9,67,68,69,70,71,72,73,74,75,76,77,78,79,80,81,82,83,84,85,86] [] (fun i:Nat=>[(9,.d (.int .i64 i)),(8,.d (.bool ((p.spec.formals.take i).any fun f=>decide (f.name=old))))]) (fun _=>[]) (fun i=>i<=p.spec.formals.length) (fun i=>p.spec.formals.length - i) 0 (Ak _) fun i hi=>?_;dsimp only[Ac,Ad];rcases Ah i p.spec.formals.length with hi2|hi2
  ·have hnx:((p.spec.formals.take (i+1)).any fun f=>decide (f.name=old))=(((p.spec.formals.take i).any fun f=>decide (f.name=old)) || decide (p.spec.formals[i].name=old)):=by rw[<-ja3 _ _ hi2,List.any_append];simp
   (repeat' first|refine Ca 76 ?_;(first|refine yyp ?_;try refine Cc ?_ ?_<;>intro hb|refine yy2 ?_ ?_<;>intro hcmp);all_goals try refine Db true 76 8 Ql ?_|refine yyp ?_|refine yy ?_|refine yy2 ?_ ?_<;>intro hcmp|refine at_nil ?_;refine Ce Ql ?_|refine Cb fun K hK=>?_|apply_assumption -exfalso -symm)
   all_goals first
    |(refine⟨i+1,by omega,by omega,?_⟩
      first
       |(have e:((p.spec.formals.take (i+1)).any fun f=>decide (f.name=old))=true:=by rw[hnx];simp[*]
         rw[e];exact v6)
       |(have e:((p.spec.formals.take (i+1)).any fun f=>decide (f.name=old))=false:=by rw[hnx];simp[*]
         rw[e];exact v6))
  obtain rfl:i=p.spec.formals.length:=by omega
  rw[Au]
  ((repeat' first|refine Ca 88 ?_;refine yyp ?_;try refine Cc ?_ ?_<;>intro hb|refine Ca 97 ?_;refine yyp ?_;try refine Cc ?_ ?_<;>intro hb|refine Ck 18 ?_;refine halt ?_|refine yyp ?_|refine yy ?_|refine Cf 53 ?_;refine Cg (hc:=(by exact p1)) ?_|refine at_nil ?_;refine Ce Ql ?_|refine Cb fun K hK=>?_|apply_assumption -exfalso -symm);all_goals try refine unhalt ?_)
  all_goals try simp only[By,Fp]at *
  all_goals
   first
    |(have hinn:old∈p.spec.formals.map (·.name):=by
       have hx:(p.spec.formals.any fun f=>decide (f.name=old))=true:=by assumption
       obtain⟨f,hf,e⟩:=Eo.1 hx;exact Bs.2 ⟨f,hf,of_decide_eq_true e⟩
      obtain rfl:=h3 hinn)
    |(have hinn:old∉p.spec.formals.map (·.name):=fun hm=>by
       have hx:(p.spec.formals.any fun f=>decide (f.name=old))=false:=by assumption
       obtain⟨f,hf,e⟩:=Bs.1 hm;have hy:(p.spec.formals.any fun f=>decide (f.name=old))=true:=Eo.2 ⟨f,hf,Bt e⟩;rw[hx]at hy;cases hy
      obtain rfl:=h4 hinn)
  all_goals first
   |(have hid:old∈p.spec.names\/p.rep.name=old:=by
      first
       |exact .inl (Sc.Px.1 (by assumption))
       |exact .inr (by assumption)
     obtain⟨rfl,rfl⟩:=h1 hid
     (refine j0 (j5 ?_))
     rfl)
   |skip
  all_goals
   have nid:¬(old∈p.spec.names\/p.rep.name=old):=fun h=>h.elim (fun h=>by
    have hx:p.spec.names.any (Sc.isB old)=false:=by assumption
    rw[Sc.Px.2 h]at hx;cases hx) (fun h=>by first|exact absurd h (by assumption)|(have:=by assumption;contradiction))
   obtain⟨rfl,rfl⟩:=h2 nid;refine jf1 (t:=10) (e:=101) (sz:=23) rfl rfl ?_;rw[je9]
   (refine x7 (id:=18) ?_;(repeat' first|refine yyp ?_;try refine Cc ?_ ?_<;>intro hb|refine at_nil ?_;refine Ce Ql ?_))
   apply_assumption -exfalso -symm
   refine yy ?_;refine j8 [10,11,12,99,100,101,102,103,104,105,106,107,108,109,110,111,112,113,114,115,116,117,118,119,120,121,122,123,124,125,126,127,128,129,130,131,132,133,134,135,136,137,138,139,140,141,142,143,144,145,146,147,148,149,150] [10] (fun x:Nat × Nat=>[(11,.d (.int .i64 x.1)),(10,.own 10 x.2)]) (fun x=>[(10,.row 101 23 true ((Sc.Jd old fr (p.guards.take x.1)).map dG) x.2)]) (fun x=>x.1<=p.guards.length) (fun x=>p.guards.length - x.1) (0,0) (Ak _) fun⟨j,kv⟩ hj=>?_;dsimp only[Ac,Ad]at hj ⊢;have hlen:(Sc.Jd old fr (p.guards.take j)).length=j:=by rw[mj1,Aj];omega
   rcases Ah j p.guards.length with hj2|hj2
   ·have hg:=mw3 p.guards[j];have hgm:=ke1 (Ar hj2:p.guards[j]∈p.guards);have g1:=js5 gl p.guards[j].cond old fr (by omega);have g2:=js5 gl p.guards[j].chan old fr (by omega);have g3:=js5 gl p.guards[j].time old fr (by omega);have g4:=jn5 gl old fr _ p.guards[j].targets (As _) (by omega);have g5:=jn5 gl old fr _ p.guards[j].values (As _) (by omega);have g6:=ih p.guards[j].body (.inr (.inr ⟨_,Ar hj2,rfl⟩));have hr:=qy6 old fr p.guards[j];simp only[r9]at g1 g2 g3
    (repeat' first|refine Ca 12 ?_;(refine Cj 12 ?_)|refine Ca 149 ?_;(refine Dh 149 ?_)|refine yyp ?_;try refine Cc ?_ ?_<;>intro hb|refine yy ?_|refine Cf 51 ?_;refine Cg (hc:=(by exact g1)) ?_|refine Cf 51 ?_;refine Cg (hc:=(by exact g2)) ?_|refine Cf 52 ?_;refine Cg (hc:=(by exact g4)) ?_|refine Cf 52 ?_;refine Cg (hc:=(by exact g5)) ?_|refine Cf 51 ?_;refine Cg (hc:=(by exact g3)) ?_|refine Cf 53 ?_;refine Cg (hc:=(by exact g6)) ?_|(refine Cq ?_;first|(refine Cs (fun kv=>?_))|(refine z_append_suf (fun sx sp kv hsx hsp hsl=>?_)))|refine at_nil ?_;refine Ce Ql ?_|refine Cb fun K hK=>?_|apply_assumption -exfalso -symm)
    refine⟨(j+1,kv),by dsimp only;omega,by dsimp only;omega,?_⟩;dsimp only;rw[mw1 old fr p.guards j hj2];simp only[Ap,Am,Aw,hr];exact v6
   have hjl:j=p.guards.length:=by omega
   subst hjl;rw[Au]
   (repeat' first|refine yyp ?_;try refine Cc ?_ ?_<;>intro hb|refine yy ?_|refine Cf 53 ?_;refine Cg (hc:=(by exact p2)) ?_|refine at_nil ?_;refine Ce Ql ?_|refine Cb fun K hK=>?_|apply_assumption -exfalso -symm)
   (refine j0 (j5 ?_))
   rw[<-je9];rfl
theorem kx0 (gl:List (Nat × List D))(old fr:ByteArray):∀ (n:Nat) (p:Pr),SizeOf.sizeOf p<=n->Sc.prN p<=1000000000->FnD prog gl 27 [.d (dPr p),.d (.str old),.d (.str fr)] (fun v=>v=.d (dPr (Sc.Ja old fr p))):=by
 intro n
 induction n with
 |zero=>intro p h;cases p;simp only[Pr.mk.sizeOf_spec]at h;omega
 |succ n ih=>
  intro p hp hb;have hN:=mw2 p;refine kw9 gl p old fr hb fun l hl=>?_;have key:Sc.Hz l<=1000000000/\∀ x∈l,SizeOf.sizeOf x<=n:=by
   rcases hl with rfl|rfl|⟨g,hg,rfl⟩
   ·exact⟨by omega,fun x hx=>by have:=mv0 hx;omega⟩
   ·exact⟨by omega,fun x hx=>by have:=mv2 hx;omega⟩
   ·have h1:=ke1 hg;have h2:=mw3 g;exact⟨by omega,fun x hx=>by have:=mv1 hg hx;omega⟩
  have hlen:=kw8 l;exact qm2 gl l old fr (by omega) fun x hx=>ih x (key.2 x hx) (by have:=kw7 hx;omega)
end
end Go.Proofs.YtdopmfifmgkmoaaGreatDoor
