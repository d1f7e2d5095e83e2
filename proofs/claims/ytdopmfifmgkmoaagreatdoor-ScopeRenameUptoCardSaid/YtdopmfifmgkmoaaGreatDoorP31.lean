/- Parts: S36, S40. -/
import Derived.Test.YtdopmfifmgkmoaaGreatDoorP28
import Derived.Test.YtdopmfifmgkmoaaGreatDoorP29
import Derived.Test.YtdopmfifmgkmoaaGreatDoorP30
import Derived.Test.YtdopmfifmgkmoaaGreatDoorP16
set_option linter.all false
set_option maxRecDepth 100000
set_option maxHeartbeats 16000000
namespace Go.Proofs.YtdopmfifmgkmoaaGreatDoor
open Go.RowKit Go.Proofs.Tryz
section
variable {mm:Int}
mutual
def kc2:Pr->Prop
 |.mk _ _ _ _ _ _ guards l procs (.mk _ _ _ _ spp _ sb)=>(procs.length<=10000000/\spp.l.length<=1000000000/\∀ v∈spp.l,v.items.length<=10000000)/\jr8 sb/\kg9 guards/\jr8 l
def jr8:List Pr->Prop
 |[]=>True
 |p::l=>kc2 p/\jr8 l
def kg9:List Gu->Prop
 |[]=>True
 |.mk _ _ _ _ _ _ _ body::l=>jr8 body/\kg9 l
end
theorem rb9:∀ p:Pr,1<=Sc.prN p
 |.mk _ _ _ _ _ _ _ _ _ (.mk _ _ _ _ _ _ _)=>by simp only[Sc.prN];omega
theorem ks3:∀ l:List Pr,l.length<=Sc.Hz l
 |[]=>Ak _
 |p::l=>by have:=ks3 l;have:=rb9 p;simp only[Ai,Sc.Hz];omega
theorem rc0:∀ g:Gu,1<=Sc.guN g
 |.mk _ _ cond _ _ _ _ _=>by have:=jm4 cond;simp only[Sc.guN,Sc.Ng];omega
theorem ks4:∀ l:List Gu,l.length<=Sc.Jb l
 |[]=>Ak _
 |p::l=>by have:=ks4 l;have:=rc0 p;simp only[Ai,Sc.Jb];omega
theorem kh0:∀ (l:List Pr) (j:Nat) (hj:j<l.length),Sc.Hz (l.take j)+Sc.prN l[j]<=Sc.Hz l
 |[],_,h=>by simp at h
 |p::l,0,_=>by simp[Sc.Hz]
 |p::l,j+1,h=>by
  have:=kh0 l j (by simpa using h);simp only[Eg,Sc.Hz,Bz];omega
theorem jv6:∀ (l:List Gu) (j:Nat) (hj:j<l.length),Sc.Jb (l.take j)+Sc.guN l[j]<=Sc.Jb l
 |[],_,h=>by simp at h
 |p::l,0,_=>by simp[Sc.Jb]
 |p::l,j+1,h=>by
  have:=jv6 l j (by simpa using h);simp only[Eg,Sc.Jb,Bz];omega
theorem jv7 (k:Sc.Kind)(l:List Pr)(σ:Sc.W)(hf:σ.fit (Sc.Hz l+1))
 (ih:∀ x∈l,∀ σ:Sc.W,σ.fit (Sc.prN x+1)->FnE prog (glS mm) 33 [.ptr 900 0,.d (dPr x)] (HW k σ) (fun v H1=>v=.d (dPr (Sc.Fv σ x).1)/\H1=HW k (Sc.Fv σ x).2)):
 FnE prog (glS mm) 68 [.d (.list 42 (l.map dPr)),.clo (.func 33) [.ptr 900 0] []] (HW k σ)
  (fun v H1=>v=.d (.list 42 ((Cv Sc.Fv σ l).1.map dPr))/\H1=HW k (Cv Sc.Fv σ l).2):=by
 have hr:=hf.room;unfold Sc.W.room at hr;have:=ks3 l;refine kg4 (glS mm) k l σ (by omega) fun j hj=>ih l[j] (Ar hj) _ ?_;have g:=Sc.Iu (l.take j) σ;rw[Sc.Kw]at g;have h2:=kh0 l j hj;exact r8 g (hf.mono (by omega))
theorem qc5 (k:Sc.Kind)(g:Gu)(σ:Sc.W)(hf:σ.fit (Sc.guN g+1))
 (ih:∀ x∈g.body,∀ σ:Sc.W,σ.fit (Sc.prN x+1)->FnE prog (glS mm) 33 [.ptr 900 0,.d (dPr x)] (HW k σ) (fun v H1=>v=.d (dPr (Sc.Fv σ x).1)/\H1=HW k (Sc.Fv σ x).2)):
 FnE prog (glS mm) 67 [.ptr 900 0,.d (dGu g)] (HW k σ) (fun v H1=>v=.d (dGu (Sc.Jc σ g).1)/\H1=HW k (Sc.Jc σ g).2):=by
 obtain⟨kind,name,cond,chan,targets,values,time,body⟩:=g;simp only[Sc.guN]at hf;have gh:=Sc.Rh σ cond chan targets values time;have hb:=jv7 (mm:=mm) k body (Sc.Ie σ cond chan targets values time).2 (r8 gh (hf.mono (by omega))) ih;have h:=mq6 (glS mm) k (.mk kind name cond chan targets values time body) σ _ _ (hf.mono (by simp only[Gu.cond,Gu.chan,Gu.targets,Gu.values,Gu.time];omega)).room hb;simp only[Sc.Jc,Sc.Kw];exact h
theorem ks5 (k:Sc.Kind)(l:List Gu)(σ:Sc.W)(hf:σ.fit (Sc.Jb l+1))
 (ih:∀ g∈l,∀ x∈g.body,∀ σ:Sc.W,σ.fit (Sc.prN x+1)->FnE prog (glS mm) 33 [.ptr 900 0,.d (dPr x)] (HW k σ) (fun v H1=>v=.d (dPr (Sc.Fv σ x).1)/\H1=HW k (Sc.Fv σ x).2)):
 FnE prog (glS mm) 66 [.d (.list 23 (l.map dGu)),.clo (.func 67) [.ptr 900 0] []] (HW k σ)
  (fun v H1=>v=.d (.list 23 ((Cv Sc.Jc σ l).1.map dGu))/\H1=HW k (Cv Sc.Jc σ l).2):=by
 have hr:=hf.room;unfold Sc.W.room at hr;have:=ks4 l;refine ks0 (glS mm) k l σ (by omega) fun j hj=>qc5 k l[j] _ ?_ (ih l[j] (Ar hj));have g:=Sc.Ji (l.take j) σ;rw[Sc.Me]at g;have h2:=jv6 l j hj;exact r8 g (hf.mono (by omega))
theorem js9:∀ {l:List Pr},jr8 l->∀ x∈l,kc2 x
 |p::l,h,x,hx=>by
  simp only[jr8]at h;rcases Bf.1 hx with rfl|hx
  ·exact h.1
  ·exact js9 h.2 x hx
theorem ks6:∀ {l:List Gu},kg9 l->∀ g∈l,jr8 g.body
 |.mk _ _ _ _ _ _ _ body::l,h,x,hx=>by
  simp only[kg9]at h;rcases Bf.1 hx with rfl|hx
  ·exact h.1
  ·exact ks6 h.2 x hx
theorem kh1:∀ {l:List Pr},Sc.Qu l->∀ x∈l,Sc.Ry x
 |p::l,h,x,hx=>by
  simp only[Sc.Qu]at h;rcases Bf.1 hx with rfl|hx
  ·exact h.1
  ·exact kh1 h.2 x hx
theorem mg2:∀ {l:List Gu},Sc.Sw l->∀ g∈l,Sc.Qu g.body
 |.mk _ _ _ _ _ _ _ body::l,h,x,hx=>by
  simp only[Sc.Sw,Sc.Xh]at h;rcases Bf.1 hx with rfl|hx
  ·exact h.1
  ·exact mg2 h.2 x hx
theorem ks7 (k:Sc.Kind):∀ (n:Nat) (p:Pr),SizeOf.sizeOf p<=n->Sc.Ry p->kc2 p->∀ σ:Sc.W,σ.fit (Sc.prN p+1)->
 FnE prog (glS mm) 33 [.ptr 900 0,.d (dPr p)] (HW k σ) (fun v H1=>v=.d (dPr (Sc.Fv σ p).1)/\H1=HW k (Sc.Fv σ p).2):=by
 intro n
 induction n with
 |zero=>intro p h;cases p;simp only[Pr.mk.sizeOf_spec]at h;omega
 |succ n ih=>
  intro p hp hok hcap σ hf;have il:∀ x∈p.l,SizeOf.sizeOf x<=n:=fun x hx=>by have:=mv0 hx;omega
  have ig:∀ g∈p.guards,∀ x∈g.body,SizeOf.sizeOf x<=n:=fun g hg x hx=>by have:=mv1 hg hx;omega
  have ib:∀ x∈p.spec.body,SizeOf.sizeOf x<=n:=fun x hx=>by have:=mv2 hx;omega
  obtain⟨kind,name,chan,targets,exprs,rep,guards,l,procs,⟨sk,st,sn,se,spp,sf,sb⟩⟩:=p;simp only[Sc.Ry]at hok;simp only[kc2]at hcap;obtain⟨hn,hsp,_,_,hob,hog,hol⟩:=hok;obtain⟨⟨hc1,hc2,hc3⟩,hcb,hcg,hcl⟩:=hcap;simp only[Pr.l,Pr.guards,Pr.spec,Sp.body]at il ig ib;have il:=fun x hx=>ih x (il x hx) (kh1 hol x hx) (js9 hcl x hx);have ig:=fun g hg x hx=>ih x (ig g hg x hx) (kh1 (mg2 hog g hg) x hx) (js9 (ks6 hcg g hg) x hx);have ib:=fun x hx=>ih x (ib x hx) (kh1 hob x hx) (js9 hcb x hx);simp only[Sc.prN]at hf;have gp:=Sc.Po σ kind name chan targets exprs rep;have h5:kind=5->0<exprs.length:=fun h=>List.length_pos_iff.2 (hn.2 h).1;by_cases hk:kind=18
  ·have h0:=hn.1.1 hk;have hr:Sc.Iw (Sc.Dn (Sc.Cy σ.env kind chan exprs) (Cv j2 (j2 (if kind=17 then Sc.nameOf σ name else (name,σ)).2 chan).2 targets).2 exprs).2 rep=((rep,[]),(Sc.Dn (Sc.Cy σ.env kind chan exprs) (Cv j2 (j2 (if kind=17 then Sc.nameOf σ name else (name,σ)).2 chan).2 targets).2 exprs).2):=by
    unfold Sc.Iw;rw[Ae h0]
   simp only[Sc.Fv,Ae hk];unfold Sc.Hg at gp ⊢;dsimp only at gp ⊢;rw[hr]at gp ⊢;dsimp only at gp ⊢;obtain⟨a,ha⟩:∃ a,a=if kind=17 then Sc.nameOf σ name else (name,σ):=⟨_,rfl⟩;rw[<-ha]at gp ⊢;obtain⟨c,hc⟩:∃ c,c=j2 a.2 chan:=⟨_,rfl⟩;rw[<-hc]at gp ⊢;obtain⟨t,ht⟩:∃ t,t=Cv j2 c.2 targets:=⟨_,rfl⟩;rw[<-ht]at gp ⊢;obtain⟨x,hx⟩:∃ x,x=Sc.Dn (Sc.Cy σ.env kind chan exprs) t.2 exprs:=⟨_,rfl⟩;rw[<-hx]at gp ⊢;have fx:=r8 gp (m:=2 * sn.length+3 * sf.length+exN se+1+Sc.Hz sb+Sc.Jb guards+Sc.Hz l+1) (hf.mono (by omega));have gh:=Sc.Oq x.2 (.mk sk st sn se spp sf []);obtain⟨h,hh⟩:∃ h,h=Sc.Fu x.2 (.mk sk st sn se spp sf []):=⟨_,rfl⟩;rw[<-hh]at gh ⊢;have hN:Sc.Nc (.mk sk st sn se spp sf [])=2 * sn.length+3 * sf.length+exN se+1:=rfl;have fh:=r8 gh (m:=Sc.Hz sb+Sc.Jb guards+Sc.Hz l+1) (fx.mono (by omega));have hil:sf.length=h.1.inner.length:=by
    rw[hh];unfold Sc.Fu;dsimp only;rw[Sc.Jv,Aa];rfl
   have hol':sn.length=h.1.own.length:=by
    rw[hh];unfold Sc.Fu;dsimp only;rw[Sc.Jv,Aa];rfl
   have fb:=jj3 (τ:=h.2) (ns:=sf.map (·.name)) (xs:=h.1.inner) (m:=Sc.Hz sb+Sc.Jb guards+Sc.Hz l+1) (hf.mono (by rw[Aa];omega)) fh (by rw[Aa];exact hil);have hB:=jv7 (mm:=mm) k sb _ (fb.mono (m:=Sc.Hz sb+1) (by omega)) ib;rw[<-Sc.Kw]at hB;have gb:=Sc.Iu sb {h.2 with env:=Sc.Cn σ.env (sf.map (·.name)) h.1.inner};obtain⟨b,hb'⟩:∃ b,b=Sc.Gv {h.2 with env:=Sc.Cn σ.env (sf.map (·.name)) h.1.inner} sb:=⟨_,rfl⟩;rw[<-hb']at hB gb ⊢;have fb2:=r8 gb (m:=Sc.Jb guards+Sc.Hz l+1) (fb.mono (by omega));have fg:=jj3 (τ:=b.2) (ns:=sn) (xs:=h.1.own) (m:=Sc.Jb guards+Sc.Hz l+1) (hf.mono (by omega)) fb2 hol';have hG:=ks5 (mm:=mm) k guards _ (fg.mono (m:=Sc.Jb guards+1) (by omega)) ig;rw[<-Sc.Me]at hG;have gg:=Sc.Ji guards {b.2 with env:=Sc.Cn σ.env sn h.1.own};obtain⟨g,hg⟩:∃ g,g=Sc.Hw {b.2 with env:=Sc.Cn σ.env sn h.1.own} guards:=⟨_,rfl⟩;rw[<-hg]at hG gg ⊢;have fg2:=r8 gg (m:=Sc.Hz l+1) (fg.mono (by omega));have hL:=jv7 (mm:=mm) k l g.2 fg2 il;rw[<-Sc.Kw]at hL;have gl':=Sc.Iu l g.2;obtain⟨q,hq⟩:∃ q,q=Sc.Gv g.2 l:=⟨_,rfl⟩;rw[<-hq]at hL gl' ⊢;have hhd:Sc.Fu x.2 (.mk sk st sn se spp sf sb)=Sc.Fu x.2 (.mk sk st sn se spp sf []):=rfl;exact qc0 (mm:=mm) k (.mk kind name chan targets exprs rep guards l procs (.mk sk st sn se spp sf sb)) σ a ha _ rfl c hc t ht x hx h (hh.trans hhd.symm) b.1 b.2 gb.env hol' g.1 q.1 g.2 q.2 hk h0 h5 (hf.mono (by have:Sc.Nc (.mk sk st sn se spp sf sb)=2 * sn.length+3 * sf.length+exN se+1:=rfl;simp only[Pr.chan,Pr.targets,Pr.exprs,Pr.rep,Pr.spec];omega)) hc1 hc2 hc3 (gl'.env.trans gg.env) hB hG hL
  ·simp only[Sc.Fv,Af hk];by_cases h0:rep.name=ByteArray.empty
   ·have hr:Sc.Iw (Sc.Dn (Sc.Cy σ.env kind chan exprs) (Cv j2 (j2 (if kind=17 then Sc.nameOf σ name else (name,σ)).2 chan).2 targets).2 exprs).2 rep=((rep,[]),(Sc.Dn (Sc.Cy σ.env kind chan exprs) (Cv j2 (j2 (if kind=17 then Sc.nameOf σ name else (name,σ)).2 chan).2 targets).2 exprs).2):=by
     unfold Sc.Iw;rw[Ae h0]
    rw[Ae h0];unfold Sc.Hg at gp ⊢;dsimp only at gp ⊢;rw[hr]at gp ⊢;dsimp only at gp ⊢;obtain⟨a,ha⟩:∃ a,a=if kind=17 then Sc.nameOf σ name else (name,σ):=⟨_,rfl⟩;rw[<-ha]at gp ⊢;obtain⟨c,hc⟩:∃ c,c=j2 a.2 chan:=⟨_,rfl⟩;rw[<-hc]at gp ⊢;obtain⟨t,ht⟩:∃ t,t=Cv j2 c.2 targets:=⟨_,rfl⟩;rw[<-ht]at gp ⊢;obtain⟨x,hx⟩:∃ x,x=Sc.Dn (Sc.Cy σ.env kind chan exprs) t.2 exprs:=⟨_,rfl⟩;rw[<-hx]at gp ⊢;have fx:=r8 gp (m:=Sc.Jb guards+Sc.Hz l+1) (hf.mono (by omega));have fg:=jj3 (τ:=x.2) (ns:=([]:List ByteArray)) (xs:=([]:List Sc.Ent)) (m:=Sc.Jb guards+Sc.Hz l+1) (hf.mono (by simp only[Ai,Aq];omega)) fx rfl;have hG:=ks5 (mm:=mm) k guards _ (fg.mono (m:=Sc.Jb guards+1) (by omega)) ig;rw[<-Sc.Me]at hG;have gg:=Sc.Ji guards {x.2 with env:=Sc.Cn σ.env ([]:List ByteArray) ([]:List Sc.Ent)};obtain⟨g,hg⟩:∃ g,g=Sc.Hw {x.2 with env:=Sc.Cn σ.env ([]:List ByteArray) ([]:List Sc.Ent)} guards:=⟨_,rfl⟩;rw[<-hg]at hG gg ⊢;have fg2:=r8 gg (m:=Sc.Hz l+1) (fg.mono (by omega));have hL:=jv7 (mm:=mm) k l g.2 fg2 il;rw[<-Sc.Kw]at hL;have gl':=Sc.Iu l g.2;obtain⟨q,hq⟩:∃ q,q=Sc.Gv g.2 l:=⟨_,rfl⟩;rw[<-hq]at hL gl' ⊢;exact qc1 (mm:=mm) k (.mk kind name chan targets exprs rep guards l procs (.mk sk st sn se spp sf sb)) σ a ha _ rfl c hc t ht x hx g.1 q.1 g.2 q.2 hk h0 h5 (hf.mono (by simp only[Pr.chan,Pr.targets,Pr.exprs,Pr.rep];omega)) hc1 hc2 hc3 (gl'.env.trans gg.env) hG hL
   ·have hr:Sc.Iw (Sc.Dn (Sc.Cy σ.env kind chan exprs) (Cv j2 (j2 (if kind=17 then Sc.nameOf σ name else (name,σ)).2 chan).2 targets).2 exprs).2 rep=((⟨(Sc.Ct (Sc.Dn (Sc.Cy σ.env kind chan exprs) (Cv j2 (j2 (if kind=17 then Sc.nameOf σ name else (name,σ)).2 chan).2 targets).2 exprs).2).1,(j2 (Sc.Ct (Sc.Dn (Sc.Cy σ.env kind chan exprs) (Cv j2 (j2 (if kind=17 then Sc.nameOf σ name else (name,σ)).2 chan).2 targets).2 exprs).2).2 rep.base).1,(j2 (j2 (Sc.Ct (Sc.Dn (Sc.Cy σ.env kind chan exprs) (Cv j2 (j2 (if kind=17 then Sc.nameOf σ name else (name,σ)).2 chan).2 targets).2 exprs).2).2 rep.base).2 rep.count).1⟩,[⟨(Sc.Ct (Sc.Dn (Sc.Cy σ.env kind chan exprs) (Cv j2 (j2 (if kind=17 then Sc.nameOf σ name else (name,σ)).2 chan).2 targets).2 exprs).2).1,false,[]⟩]),(j2 (j2 (Sc.Ct (Sc.Dn (Sc.Cy σ.env kind chan exprs) (Cv j2 (j2 (if kind=17 then Sc.nameOf σ name else (name,σ)).2 chan).2 targets).2 exprs).2).2 rep.base).2 rep.count).2):=by
     unfold Sc.Iw;rw[Af h0]
    rw[Af h0];unfold Sc.Hg at gp ⊢;dsimp only at gp ⊢;rw[hr]at gp ⊢;dsimp only at gp ⊢;obtain⟨a,ha⟩:∃ a,a=if kind=17 then Sc.nameOf σ name else (name,σ):=⟨_,rfl⟩;rw[<-ha]at gp ⊢;obtain⟨c,hc⟩:∃ c,c=j2 a.2 chan:=⟨_,rfl⟩;rw[<-hc]at gp ⊢;obtain⟨t,ht⟩:∃ t,t=Cv j2 c.2 targets:=⟨_,rfl⟩;rw[<-ht]at gp ⊢;obtain⟨x,hx⟩:∃ x,x=Sc.Dn (Sc.Cy σ.env kind chan exprs) t.2 exprs:=⟨_,rfl⟩;rw[<-hx]at gp ⊢;obtain⟨r,hr'⟩:∃ r,r=Sc.Ct x.2:=⟨_,rfl⟩;rw[<-hr']at gp ⊢;obtain⟨rb,hrb⟩:∃ rb,rb=j2 r.2 rep.base:=⟨_,rfl⟩;rw[<-hrb]at gp ⊢;obtain⟨rc,hrc⟩:∃ rc,rc=j2 rb.2 rep.count:=⟨_,rfl⟩;rw[<-hrc]at gp ⊢;have fx:=r8 gp (m:=Sc.Jb guards+Sc.Hz l+1) (hf.mono (by omega));have fg:=jj3 (τ:=rc.2) (ns:=[rep.name]) (xs:=[(⟨r.1,false,[]⟩:Sc.Ent)]) (m:=Sc.Jb guards+Sc.Hz l+1) (hf.mono (by simp only[Ai,Aq];omega)) fx rfl;have hG:=ks5 (mm:=mm) k guards _ (fg.mono (m:=Sc.Jb guards+1) (by omega)) ig;rw[<-Sc.Me]at hG;have gg:=Sc.Ji guards {rc.2 with env:=Sc.Cn σ.env [rep.name] [(⟨r.1,false,[]⟩:Sc.Ent)]};obtain⟨g,hg⟩:∃ g,g=Sc.Hw {rc.2 with env:=Sc.Cn σ.env [rep.name] [(⟨r.1,false,[]⟩:Sc.Ent)]} guards:=⟨_,rfl⟩;rw[<-hg]at hG gg ⊢;have fg2:=r8 gg (m:=Sc.Hz l+1) (fg.mono (by omega));have hL:=jv7 (mm:=mm) k l g.2 fg2 il;rw[<-Sc.Kw]at hL;have gl':=Sc.Iu l g.2;obtain⟨q,hq⟩:∃ q,q=Sc.Gv g.2 l:=⟨_,rfl⟩;rw[<-hq]at hL gl' ⊢;by_cases h17:kind=17
    ·cases k with
     |free=>exact kg5 (mm:=mm) (.mk kind name chan targets exprs rep guards l procs (.mk sk st sn se spp sf sb)) σ a ha _ rfl c hc t ht x hx r hr' rb hrb rc hrc g.1 q.1 g.2 q.2 h17 hk h0 h5 (hf.mono (by simp only[Pr.chan,Pr.targets,Pr.exprs,Pr.rep];omega)) hc1 hc2 hc3 (gl'.env.trans gg.env) hG hL
     |check cn=>exact kb9 (mm:=mm) cn (.mk kind name chan targets exprs rep guards l procs (.mk sk st sn se spp sf sb)) σ a ha _ rfl c hc t ht x hx r hr' rb hrb rc hrc g.1 q.1 g.2 q.2 h17 hk h0 h5 (hf.mono (by simp only[Pr.chan,Pr.targets,Pr.exprs,Pr.rep];omega)) hc1 hc2 hc3 (gl'.env.trans gg.env) hG hL
     |none=>exact kg6 (mm:=mm) (.mk kind name chan targets exprs rep guards l procs (.mk sk st sn se spp sf sb)) σ a ha _ rfl c hc t ht x hx r hr' rb hrb rc hrc g.1 q.1 g.2 q.2 h17 hk h0 h5 (hf.mono (by simp only[Pr.chan,Pr.targets,Pr.exprs,Pr.rep];omega)) hc1 hc2 hc3 (gl'.env.trans gg.env) hG hL
    ·cases k with
     |free=>exact kg7 (mm:=mm) (.mk kind name chan targets exprs rep guards l procs (.mk sk st sn se spp sf sb)) σ a ha _ rfl c hc t ht x hx r hr' rb hrb rc hrc g.1 q.1 g.2 q.2 h17 hk h0 h5 (hf.mono (by simp only[Pr.chan,Pr.targets,Pr.exprs,Pr.rep];omega)) hc1 hc2 hc3 (gl'.env.trans gg.env) hG hL
     |check cn=>exact kc1 (mm:=mm) cn (.mk kind name chan targets exprs rep guards l procs (.mk sk st sn se spp sf sb)) σ a ha _ rfl c hc t ht x hx r hr' rb hrb rc hrc g.1 q.1 g.2 q.2 h17 hk h0 h5 (hf.mono (by simp only[Pr.chan,Pr.targets,Pr.exprs,Pr.rep];omega)) hc1 hc2 hc3 (gl'.env.trans gg.env) hG hL
     |none=>exact kg8 (mm:=mm) (.mk kind name chan targets exprs rep guards l procs (.mk sk st sn se spp sf sb)) σ a ha _ rfl c hc t ht x hx r hr' rb hrb rc hrc g.1 q.1 g.2 q.2 h17 hk h0 h5 (hf.mono (by simp only[Pr.chan,Pr.targets,Pr.exprs,Pr.rep];omega)) hc1 hc2 hc3 (gl'.env.trans gg.env) hG hL
end
section
variable {mm:Int}
attribute [local irreducible] TR TC
theorem jo1 (gl:List (Nat × List D))(k:Sc.Kind)(ev:List (ByteArray × Bool)):
 FnE prog gl 31 [ja4 k] (n6 k ⟨fun _=>[],[],0,ev⟩) (fun v H1=>v=.ptr 900 0/\H1=HW k ⟨fun _=>[],[],0,ev⟩):=by
 cases k
 case free=>
  dsimp only[ja4,n6]
  (refine j4 func31 ntmps31 results31 fun w M E b0=>?_)
  (repeat' first|refine Ca 3 ?_;(refine jl9 901 ?_)|refine Ca 4 ?_;(refine jl9 902 ?_)|refine Ca 7 ?_;(refine j6 900 ?_)|refine yyp ?_;try refine Cc ?_ ?_<;>intro hb|refine yy ?_|refine at_nil ?_;refine Ce [0,2,3,4,5,6] ?_|refine Cb fun K hK=>?_|apply_assumption -exfalso -symm)
  refine jd9 (md8 (n:=901) 120 3 rfl) ?_;refine jd9 (S':=⟨[(2,.ptr 900 0)],HW .free ⟨fun _=>[],[],0,ev⟩,gl⟩) (by dsimp only[HW,ja4,n6];exact v6) ?_
  (refine j0 (j7 ⟨?_,rfl⟩))
  rfl
 case check nn=>
  dsimp only[ja4,n6]
  (refine j4 func31 ntmps31 results31 fun w M E b0=>?_)
  (repeat' first|refine Ca 3 ?_;(refine jl9 901 ?_)|refine Ca 4 ?_;(refine jl9 902 ?_)|refine Ca 7 ?_;(refine j6 900 ?_)|refine yyp ?_;try refine Cc ?_ ?_<;>intro hb|refine yy ?_|refine at_nil ?_;refine Ce [0,2,3,4,5,6] ?_|refine Cb fun K hK=>?_|apply_assumption -exfalso -symm)
  refine jd9 (md8 (n:=901) 120 3 rfl) ?_;refine jd9 (S':=⟨[(2,.ptr 900 0)],HW (.check nn) ⟨fun _=>[],[],0,ev⟩,gl⟩) (by dsimp only[HW,ja4,n6];exact v6) ?_
  (refine j0 (j7 ⟨?_,rfl⟩))
  rfl
 case none=>
  dsimp only[ja4,n6]
  (refine j4 func31 ntmps31 results31 fun w M E b0=>?_)
  (repeat' first|refine Ca 3 ?_;(refine jl9 901 ?_)|refine Ca 4 ?_;(refine jl9 902 ?_)|refine Ca 7 ?_;(refine j6 900 ?_)|refine yyp ?_;try refine Cc ?_ ?_<;>intro hb|refine yy ?_|refine at_nil ?_;refine Ce [0,2,3,4,5,6] ?_|refine Cb fun K hK=>?_|apply_assumption -exfalso -symm)
  refine jd9 (md8 (n:=901) 120 3 rfl) ?_;refine jd9 (S':=⟨[(2,.ptr 900 0)],HW .none ⟨fun _=>[],[],0,ev⟩,gl⟩) (by dsimp only[HW,ja4,n6];exact v6) ?_
  (refine j0 (j7 ⟨?_,rfl⟩))
  rfl
end
end Go.Proofs.YtdopmfifmgkmoaaGreatDoor
