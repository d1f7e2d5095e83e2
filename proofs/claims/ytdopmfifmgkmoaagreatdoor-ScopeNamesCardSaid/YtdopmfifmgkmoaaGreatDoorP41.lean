/- Parts: S36, S40, S41, R6, O26, S42, S43. -/
import Derived.Test.YtdopmfifmgkmoaaGreatDoorP38
import Derived.Test.YtdopmfifmgkmoaaGreatDoorP39
import Derived.Test.YtdopmfifmgkmoaaGreatDoorP40
import Derived.Test.YtdopmfifmgkmoaaGreatDoorP26
import Derived.Test.YtdopmfifmgkmoaaGreatDoorP30
import Derived.Test.YtdopmfifmgkmoaaGreatDoorP24
import Derived.Test.YtdopmfifmgkmoaaGreatDoorP31
import Derived.Test.YtdopmfifmgkmoaaGreatDoorP16
import Derived.Sort.OwnSorted
import Derived.Lib.RowBridge
import Derived.Test.YtdopmfifmgkmoaaGreatDoorP18
import Derived.Test.YtdopmfifmgkmoaaGreatDoorP29
set_option linter.all false
set_option maxRecDepth 100000
set_option maxHeartbeats 16000000
namespace Go.Proofs.YtdopmfifmgkmoaaGreatDoor
open Go.RowKit Go.Proofs.Tryz
section
variable {mm:Int}
mutual
def kq5:Pr->Prop
 |.mk _ _ _ _ _ _ guards l procs (.mk _ _ _ _ spp _ sb)=>(procs.length<=10000000/\spp.l.length<=1000000000/\∀ v∈spp.l,v.items.length<=10000000)/\jq0 sb/\kf6 guards/\jq0 l
def jq0:List Pr->Prop
 |[]=>True
 |p::l=>kq5 p/\jq0 l
def kf6:List Gu->Prop
 |[]=>True
 |.mk _ _ _ _ _ _ _ body::l=>jq0 body/\kf6 l
end
theorem qt7:∀ p:Pr,1<=Sc.prN p
 |.mk _ _ _ _ _ _ _ _ _ (.mk _ _ _ _ _ _ _)=>by simp only[Sc.prN];omega
theorem mg5:∀ l:List Pr,l.length<=Sc.prsN l
 |[]=>Nat.zero_le _
 |p::l=>by have:=mg5 l;have:=qt7 p;simp only[List.length_cons,Sc.prsN];omega
theorem qt8:∀ g:Gu,1<=Sc.guN g
 |.mk _ _ cond _ _ _ _ _=>by have:=jq6 cond;simp only[Sc.guN,Sc.gheadN];omega
theorem mg6:∀ l:List Gu,l.length<=Sc.gusN l
 |[]=>Nat.zero_le _
 |p::l=>by have:=mg6 l;have:=qt8 p;simp only[List.length_cons,Sc.gusN];omega
theorem kx5:∀ (l:List Pr) (j:Nat) (hj:j<l.length),Sc.prsN (l.take j)+Sc.prN l[j]<=Sc.prsN l
 |[],_,h=>by simp at h
 |p::l,0,_=>by simp[Sc.prsN]
 |p::l,j+1,h=>by
  have:=kx5 l j (by simpa using h)
  simp only[List.take_succ_cons,Sc.prsN,List.getElem_cons_succ]
  omega
theorem kx6:∀ (l:List Gu) (j:Nat) (hj:j<l.length),Sc.gusN (l.take j)+Sc.guN l[j]<=Sc.gusN l
 |[],_,h=>by simp at h
 |p::l,0,_=>by simp[Sc.gusN]
 |p::l,j+1,h=>by
  have:=kx6 l j (by simpa using h)
  simp only[List.take_succ_cons,Sc.gusN,List.getElem_cons_succ]
  omega
theorem jt9 (k:Sc.Kind)(l:List Pr)(σ:Sc.W)(hf:σ.fit (Sc.prsN l+1))
 (ih:∀ x∈l,∀ σ:Sc.W,σ.fit (Sc.prN x+1)->FnE prog (glS mm) 33 [.ptr 900 0,.d (dPr x)] (HW k σ) (fun v H1=>v=.d (dPr (Sc.prOf σ x).1)/\H1=HW k (Sc.prOf σ x).2)):
 FnE prog (glS mm) 68 [.d (.list 42 (l.map dPr)),.clo (.func 33) [.ptr 900 0] []] (HW k σ)
  (fun v H1=>v=.d (.list 42 ((y4 Sc.prOf σ l).1.map dPr))/\H1=HW k (y4 Sc.prOf σ l).2):=by
 have hr:=hf.room
 unfold Sc.W.room at hr
 have:=mg5 l
 refine kf1 (glS mm) k l σ (by omega) fun j hj=>ih l[j] (List.getElem_mem hj) _ ?_
 have g:=Sc.grow_prs (l.take j) σ
 rw[Sc.prsOf_map]at g
 have h2:=kx5 l j hj
 exact x4 g (hf.mono (by omega))
theorem mw9 (k:Sc.Kind)(g:Gu)(σ:Sc.W)(hf:σ.fit (Sc.guN g+1))
 (ih:∀ x∈g.body,∀ σ:Sc.W,σ.fit (Sc.prN x+1)->FnE prog (glS mm) 33 [.ptr 900 0,.d (dPr x)] (HW k σ) (fun v H1=>v=.d (dPr (Sc.prOf σ x).1)/\H1=HW k (Sc.prOf σ x).2)):
 FnE prog (glS mm) 67 [.ptr 900 0,.d (dGu g)] (HW k σ) (fun v H1=>v=.d (dGu (Sc.guOf σ g).1)/\H1=HW k (Sc.guOf σ g).2):=by
 obtain⟨kind,name,cond,chan,targets,values,time,body⟩:=g
 simp only[Sc.guN]at hf
 have gh:=Sc.grow_ghead σ cond chan targets values time
 have hb:=jt9 (mm:=mm) k body (Sc.gheadOf σ cond chan targets values time).2 (x4 gh (hf.mono (by omega))) ih
 have h:=ml3 (glS mm) k (.mk kind name cond chan targets values time body) σ _ _ (hf.mono (by simp only[Gu.cond,Gu.chan,Gu.targets,Gu.values,Gu.time];omega)).room hb
 simp only[Sc.guOf,Sc.prsOf_map]
 exact h
theorem kq6 (k:Sc.Kind)(l:List Gu)(σ:Sc.W)(hf:σ.fit (Sc.gusN l+1))
 (ih:∀ g∈l,∀ x∈g.body,∀ σ:Sc.W,σ.fit (Sc.prN x+1)->FnE prog (glS mm) 33 [.ptr 900 0,.d (dPr x)] (HW k σ) (fun v H1=>v=.d (dPr (Sc.prOf σ x).1)/\H1=HW k (Sc.prOf σ x).2)):
 FnE prog (glS mm) 66 [.d (.list 23 (l.map dGu)),.clo (.func 67) [.ptr 900 0] []] (HW k σ)
  (fun v H1=>v=.d (.list 23 ((y4 Sc.guOf σ l).1.map dGu))/\H1=HW k (y4 Sc.guOf σ l).2):=by
 have hr:=hf.room
 unfold Sc.W.room at hr
 have:=mg6 l
 refine kq2 (glS mm) k l σ (by omega) fun j hj=>mw9 k l[j] _ ?_ (ih l[j] (List.getElem_mem hj))
 have g:=Sc.grow_gus (l.take j) σ
 rw[Sc.gusOf_map]at g
 have h2:=kx6 l j hj
 exact x4 g (hf.mono (by omega))
theorem kq7:∀ {l:List Pr},jq0 l->∀ x∈l,kq5 x
 |p::l,h,x,hx=>by
  simp only[jq0]at h
  rcases List.mem_cons.1 hx with rfl|hx
  ·exact h.1
  ·exact kq7 h.2 x hx
theorem mg7:∀ {l:List Gu},kf6 l->∀ g∈l,jq0 g.body
 |.mk _ _ _ _ _ _ _ body::l,h,x,hx=>by
  simp only[kf6]at h
  rcases List.mem_cons.1 hx with rfl|hx
  ·exact h.1
  ·exact mg7 h.2 x hx
theorem mg8:∀ {l:List Pr},Sc.okPrs l->∀ x∈l,Sc.okPr x
 |p::l,h,x,hx=>by
  simp only[Sc.okPrs]at h
  rcases List.mem_cons.1 hx with rfl|hx
  ·exact h.1
  ·exact mg8 h.2 x hx
theorem mx0:∀ {l:List Gu},Sc.okGus l->∀ g∈l,Sc.okPrs g.body
 |.mk _ _ _ _ _ _ _ body::l,h,x,hx=>by
  simp only[Sc.okGus,Sc.okGu]at h
  rcases List.mem_cons.1 hx with rfl|hx
  ·exact h.1
  ·exact mx0 h.2 x hx
theorem kq8 (k:Sc.Kind):∀ (n:Nat) (p:Pr),SizeOf.sizeOf p<=n->Sc.okPr p->kq5 p->∀ σ:Sc.W,σ.fit (Sc.prN p+1)->
 FnE prog (glS mm) 33 [.ptr 900 0,.d (dPr p)] (HW k σ) (fun v H1=>v=.d (dPr (Sc.prOf σ p).1)/\H1=HW k (Sc.prOf σ p).2):=by
 intro n
 induction n with
 |zero=>intro p h;cases p;simp only[Pr.mk.sizeOf_spec]at h;omega
 |succ n ih=>
  intro p hp hok hcap σ hf
  have il:∀ x∈p.l,SizeOf.sizeOf x<=n:=fun x hx=>by have:=qn9 hx;omega
  have ig:∀ g∈p.guards,∀ x∈g.body,SizeOf.sizeOf x<=n:=fun g hg x hx=>by have:=qo0 hg hx;omega
  have ib:∀ x∈p.spec.body,SizeOf.sizeOf x<=n:=fun x hx=>by have:=qo1 hx;omega
  obtain⟨kind,name,chan,targets,exprs,rep,guards,l,procs,⟨sk,st,sn,se,spp,sf,sb⟩⟩:=p
  simp only[Sc.okPr]at hok
  simp only[kq5]at hcap
  obtain⟨hn,hsp,_,_,hob,hog,hol⟩:=hok
  obtain⟨⟨hc1,hc2,hc3⟩,hcb,hcg,hcl⟩:=hcap
  simp only[Pr.l,Pr.guards,Pr.spec,Sp.body]at il ig ib
  have il:=fun x hx=>ih x (il x hx) (mg8 hol x hx) (kq7 hcl x hx)
  have ig:=fun g hg x hx=>ih x (ig g hg x hx) (mg8 (mx0 hog g hg) x hx) (kq7 (mg7 hcg g hg) x hx)
  have ib:=fun x hx=>ih x (ib x hx) (mg8 hob x hx) (kq7 hcb x hx)
  simp only[Sc.prN]at hf
  have gp:=Sc.grow_phead σ kind name chan targets exprs rep
  have h5:kind=5->0<exprs.length:=fun h=>List.length_pos_iff.2 (hn.2 h).1
  by_cases hk:kind=18
  ·have h0:=hn.1.1 hk
   have hr:Sc.repOf (Sc.outOf (Sc.taggedB σ.env kind chan exprs) (y4 exprOf (exprOf (if kind=17 then Sc.nameOf σ name else (name,σ)).2 chan).2 targets).2 exprs).2 rep=((rep,[]),(Sc.outOf (Sc.taggedB σ.env kind chan exprs) (y4 exprOf (exprOf (if kind=17 then Sc.nameOf σ name else (name,σ)).2 chan).2 targets).2 exprs).2):=by
    unfold Sc.repOf
    rw[if_pos h0]
   simp only[Sc.prOf,if_pos hk]
   unfold Sc.pheadOf at gp ⊢
   dsimp only at gp ⊢
   rw[hr]at gp ⊢
   dsimp only at gp ⊢
   obtain⟨a,ha⟩:∃ a,a=if kind=17 then Sc.nameOf σ name else (name,σ):=⟨_,rfl⟩
   rw[<-ha]at gp ⊢
   obtain⟨c,hc⟩:∃ c,c=exprOf a.2 chan:=⟨_,rfl⟩
   rw[<-hc]at gp ⊢
   obtain⟨t,ht⟩:∃ t,t=y4 exprOf c.2 targets:=⟨_,rfl⟩
   rw[<-ht]at gp ⊢
   obtain⟨x,hx⟩:∃ x,x=Sc.outOf (Sc.taggedB σ.env kind chan exprs) t.2 exprs:=⟨_,rfl⟩
   rw[<-hx]at gp ⊢
   have fx:=x4 gp (m:=2 * sn.length+3 * sf.length+exN se+1+Sc.prsN sb+Sc.gusN guards+Sc.prsN l+1) (hf.mono (by omega))
   have gh:=Sc.grow_head x.2 (.mk sk st sn se spp sf [])
   obtain⟨h,hh⟩:∃ h,h=Sc.headOf x.2 (.mk sk st sn se spp sf []):=⟨_,rfl⟩
   rw[<-hh]at gh ⊢
   have hN:Sc.headN (.mk sk st sn se spp sf [])=2 * sn.length+3 * sf.length+exN se+1:=rfl
   have fh:=x4 gh (m:=Sc.prsN sb+Sc.gusN guards+Sc.prsN l+1) (fx.mono (by omega))
   have hil:sf.length=h.1.inner.length:=by
    rw[hh]
    unfold Sc.headOf
    dsimp only
    rw[Sc.decl_len,List.length_map]
    rfl
   have hol':sn.length=h.1.own.length:=by
    rw[hh]
    unfold Sc.headOf
    dsimp only
    rw[Sc.decl_len,List.length_map]
    rfl
   have fb:=ka7 (τ:=h.2) (ns:=sf.map (·.name)) (xs:=h.1.inner) (m:=Sc.prsN sb+Sc.gusN guards+Sc.prsN l+1) (hf.mono (by rw[List.length_map];omega)) fh (by rw[List.length_map];exact hil)
   have hB:=jt9 (mm:=mm) k sb _ (fb.mono (m:=Sc.prsN sb+1) (by omega)) ib
   rw[<-Sc.prsOf_map]at hB
   have gb:=Sc.grow_prs sb {h.2 with env:=Sc.pushE σ.env (sf.map (·.name)) h.1.inner}
   obtain⟨b,hb'⟩:∃ b,b=Sc.prsOf {h.2 with env:=Sc.pushE σ.env (sf.map (·.name)) h.1.inner} sb:=⟨_,rfl⟩
   rw[<-hb']at hB gb ⊢
   have fb2:=x4 gb (m:=Sc.gusN guards+Sc.prsN l+1) (fb.mono (by omega))
   have fg:=ka7 (τ:=b.2) (ns:=sn) (xs:=h.1.own) (m:=Sc.gusN guards+Sc.prsN l+1) (hf.mono (by omega)) fb2 hol'
   have hG:=kq6 (mm:=mm) k guards _ (fg.mono (m:=Sc.gusN guards+1) (by omega)) ig
   rw[<-Sc.gusOf_map]at hG
   have gg:=Sc.grow_gus guards {b.2 with env:=Sc.pushE σ.env sn h.1.own}
   obtain⟨g,hg⟩:∃ g,g=Sc.gusOf {b.2 with env:=Sc.pushE σ.env sn h.1.own} guards:=⟨_,rfl⟩
   rw[<-hg]at hG gg ⊢
   have fg2:=x4 gg (m:=Sc.prsN l+1) (fg.mono (by omega))
   have hL:=jt9 (mm:=mm) k l g.2 fg2 il
   rw[<-Sc.prsOf_map]at hL
   have gl':=Sc.grow_prs l g.2
   obtain⟨q,hq⟩:∃ q,q=Sc.prsOf g.2 l:=⟨_,rfl⟩
   rw[<-hq]at hL gl' ⊢
   have hhd:Sc.headOf x.2 (.mk sk st sn se spp sf sb)=Sc.headOf x.2 (.mk sk st sn se spp sf []):=rfl
   exact mw4 (mm:=mm) k (.mk kind name chan targets exprs rep guards l procs (.mk sk st sn se spp sf sb)) σ a ha _ rfl c hc t ht x hx h (hh.trans hhd.symm) b.1 b.2 gb.env hol' g.1 q.1 g.2 q.2 hk h0 h5 (hf.mono (by have:Sc.headN (.mk sk st sn se spp sf sb)=2 * sn.length+3 * sf.length+exN se+1:=rfl;simp only[Pr.chan,Pr.targets,Pr.exprs,Pr.rep,Pr.spec];omega)) hc1 hc2 hc3 (gl'.env.trans gg.env) hB hG hL
  ·simp only[Sc.prOf,if_neg hk]
   by_cases h0:rep.name=ByteArray.empty
   ·have hr:Sc.repOf (Sc.outOf (Sc.taggedB σ.env kind chan exprs) (y4 exprOf (exprOf (if kind=17 then Sc.nameOf σ name else (name,σ)).2 chan).2 targets).2 exprs).2 rep=((rep,[]),(Sc.outOf (Sc.taggedB σ.env kind chan exprs) (y4 exprOf (exprOf (if kind=17 then Sc.nameOf σ name else (name,σ)).2 chan).2 targets).2 exprs).2):=by
     unfold Sc.repOf
     rw[if_pos h0]
    rw[if_pos h0]
    unfold Sc.pheadOf at gp ⊢
    dsimp only at gp ⊢
    rw[hr]at gp ⊢
    dsimp only at gp ⊢
    obtain⟨a,ha⟩:∃ a,a=if kind=17 then Sc.nameOf σ name else (name,σ):=⟨_,rfl⟩
    rw[<-ha]at gp ⊢
    obtain⟨c,hc⟩:∃ c,c=exprOf a.2 chan:=⟨_,rfl⟩
    rw[<-hc]at gp ⊢
    obtain⟨t,ht⟩:∃ t,t=y4 exprOf c.2 targets:=⟨_,rfl⟩
    rw[<-ht]at gp ⊢
    obtain⟨x,hx⟩:∃ x,x=Sc.outOf (Sc.taggedB σ.env kind chan exprs) t.2 exprs:=⟨_,rfl⟩
    rw[<-hx]at gp ⊢
    have fx:=x4 gp (m:=Sc.gusN guards+Sc.prsN l+1) (hf.mono (by omega))
    have fg:=ka7 (τ:=x.2) (ns:=([]:List ByteArray)) (xs:=([]:List Sc.Ent)) (m:=Sc.gusN guards+Sc.prsN l+1) (hf.mono (by simp only[List.length_cons,List.length_nil];omega)) fx rfl
    have hG:=kq6 (mm:=mm) k guards _ (fg.mono (m:=Sc.gusN guards+1) (by omega)) ig
    rw[<-Sc.gusOf_map]at hG
    have gg:=Sc.grow_gus guards {x.2 with env:=Sc.pushE σ.env ([]:List ByteArray) ([]:List Sc.Ent)}
    obtain⟨g,hg⟩:∃ g,g=Sc.gusOf {x.2 with env:=Sc.pushE σ.env ([]:List ByteArray) ([]:List Sc.Ent)} guards:=⟨_,rfl⟩
    rw[<-hg]at hG gg ⊢
    have fg2:=x4 gg (m:=Sc.prsN l+1) (fg.mono (by omega))
    have hL:=jt9 (mm:=mm) k l g.2 fg2 il
    rw[<-Sc.prsOf_map]at hL
    have gl':=Sc.grow_prs l g.2
    obtain⟨q,hq⟩:∃ q,q=Sc.prsOf g.2 l:=⟨_,rfl⟩
    rw[<-hq]at hL gl' ⊢
    exact mw5 (mm:=mm) k (.mk kind name chan targets exprs rep guards l procs (.mk sk st sn se spp sf sb)) σ a ha _ rfl c hc t ht x hx g.1 q.1 g.2 q.2 hk h0 h5 (hf.mono (by simp only[Pr.chan,Pr.targets,Pr.exprs,Pr.rep];omega)) hc1 hc2 hc3 (gl'.env.trans gg.env) hG hL
   ·have hr:Sc.repOf (Sc.outOf (Sc.taggedB σ.env kind chan exprs) (y4 exprOf (exprOf (if kind=17 then Sc.nameOf σ name else (name,σ)).2 chan).2 targets).2 exprs).2 rep=((⟨(Sc.freshOf (Sc.outOf (Sc.taggedB σ.env kind chan exprs) (y4 exprOf (exprOf (if kind=17 then Sc.nameOf σ name else (name,σ)).2 chan).2 targets).2 exprs).2).1,(exprOf (Sc.freshOf (Sc.outOf (Sc.taggedB σ.env kind chan exprs) (y4 exprOf (exprOf (if kind=17 then Sc.nameOf σ name else (name,σ)).2 chan).2 targets).2 exprs).2).2 rep.base).1,(exprOf (exprOf (Sc.freshOf (Sc.outOf (Sc.taggedB σ.env kind chan exprs) (y4 exprOf (exprOf (if kind=17 then Sc.nameOf σ name else (name,σ)).2 chan).2 targets).2 exprs).2).2 rep.base).2 rep.count).1⟩,[⟨(Sc.freshOf (Sc.outOf (Sc.taggedB σ.env kind chan exprs) (y4 exprOf (exprOf (if kind=17 then Sc.nameOf σ name else (name,σ)).2 chan).2 targets).2 exprs).2).1,false,[]⟩]),(exprOf (exprOf (Sc.freshOf (Sc.outOf (Sc.taggedB σ.env kind chan exprs) (y4 exprOf (exprOf (if kind=17 then Sc.nameOf σ name else (name,σ)).2 chan).2 targets).2 exprs).2).2 rep.base).2 rep.count).2):=by
     unfold Sc.repOf
     rw[if_neg h0]
    rw[if_neg h0]
    unfold Sc.pheadOf at gp ⊢
    dsimp only at gp ⊢
    rw[hr]at gp ⊢
    dsimp only at gp ⊢
    obtain⟨a,ha⟩:∃ a,a=if kind=17 then Sc.nameOf σ name else (name,σ):=⟨_,rfl⟩
    rw[<-ha]at gp ⊢
    obtain⟨c,hc⟩:∃ c,c=exprOf a.2 chan:=⟨_,rfl⟩
    rw[<-hc]at gp ⊢
    obtain⟨t,ht⟩:∃ t,t=y4 exprOf c.2 targets:=⟨_,rfl⟩
    rw[<-ht]at gp ⊢
    obtain⟨x,hx⟩:∃ x,x=Sc.outOf (Sc.taggedB σ.env kind chan exprs) t.2 exprs:=⟨_,rfl⟩
    rw[<-hx]at gp ⊢
    obtain⟨r,hr'⟩:∃ r,r=Sc.freshOf x.2:=⟨_,rfl⟩
    rw[<-hr']at gp ⊢
    obtain⟨rb,hrb⟩:∃ rb,rb=exprOf r.2 rep.base:=⟨_,rfl⟩
    rw[<-hrb]at gp ⊢
    obtain⟨rc,hrc⟩:∃ rc,rc=exprOf rb.2 rep.count:=⟨_,rfl⟩
    rw[<-hrc]at gp ⊢
    have fx:=x4 gp (m:=Sc.gusN guards+Sc.prsN l+1) (hf.mono (by omega))
    have fg:=ka7 (τ:=rc.2) (ns:=[rep.name]) (xs:=[(⟨r.1,false,[]⟩:Sc.Ent)]) (m:=Sc.gusN guards+Sc.prsN l+1) (hf.mono (by simp only[List.length_cons,List.length_nil];omega)) fx rfl
    have hG:=kq6 (mm:=mm) k guards _ (fg.mono (m:=Sc.gusN guards+1) (by omega)) ig
    rw[<-Sc.gusOf_map]at hG
    have gg:=Sc.grow_gus guards {rc.2 with env:=Sc.pushE σ.env [rep.name] [(⟨r.1,false,[]⟩:Sc.Ent)]}
    obtain⟨g,hg⟩:∃ g,g=Sc.gusOf {rc.2 with env:=Sc.pushE σ.env [rep.name] [(⟨r.1,false,[]⟩:Sc.Ent)]} guards:=⟨_,rfl⟩
    rw[<-hg]at hG gg ⊢
    have fg2:=x4 gg (m:=Sc.prsN l+1) (fg.mono (by omega))
    have hL:=jt9 (mm:=mm) k l g.2 fg2 il
    rw[<-Sc.prsOf_map]at hL
    have gl':=Sc.grow_prs l g.2
    obtain⟨q,hq⟩:∃ q,q=Sc.prsOf g.2 l:=⟨_,rfl⟩
    rw[<-hq]at hL gl' ⊢
    by_cases h17:kind=17
    ·cases k with
     |free=>exact kf2 (mm:=mm) (.mk kind name chan targets exprs rep guards l procs (.mk sk st sn se spp sf sb)) σ a ha _ rfl c hc t ht x hx r hr' rb hrb rc hrc g.1 q.1 g.2 q.2 h17 hk h0 h5 (hf.mono (by simp only[Pr.chan,Pr.targets,Pr.exprs,Pr.rep];omega)) hc1 hc2 hc3 (gl'.env.trans gg.env) hG hL
     |check cn=>exact ka1 (mm:=mm) cn (.mk kind name chan targets exprs rep guards l procs (.mk sk st sn se spp sf sb)) σ a ha _ rfl c hc t ht x hx r hr' rb hrb rc hrc g.1 q.1 g.2 q.2 h17 hk h0 h5 (hf.mono (by simp only[Pr.chan,Pr.targets,Pr.exprs,Pr.rep];omega)) hc1 hc2 hc3 (gl'.env.trans gg.env) hG hL
     |none=>exact kf3 (mm:=mm) (.mk kind name chan targets exprs rep guards l procs (.mk sk st sn se spp sf sb)) σ a ha _ rfl c hc t ht x hx r hr' rb hrb rc hrc g.1 q.1 g.2 q.2 h17 hk h0 h5 (hf.mono (by simp only[Pr.chan,Pr.targets,Pr.exprs,Pr.rep];omega)) hc1 hc2 hc3 (gl'.env.trans gg.env) hG hL
    ·cases k with
     |free=>exact kf4 (mm:=mm) (.mk kind name chan targets exprs rep guards l procs (.mk sk st sn se spp sf sb)) σ a ha _ rfl c hc t ht x hx r hr' rb hrb rc hrc g.1 q.1 g.2 q.2 h17 hk h0 h5 (hf.mono (by simp only[Pr.chan,Pr.targets,Pr.exprs,Pr.rep];omega)) hc1 hc2 hc3 (gl'.env.trans gg.env) hG hL
     |check cn=>exact ka3 (mm:=mm) cn (.mk kind name chan targets exprs rep guards l procs (.mk sk st sn se spp sf sb)) σ a ha _ rfl c hc t ht x hx r hr' rb hrb rc hrc g.1 q.1 g.2 q.2 h17 hk h0 h5 (hf.mono (by simp only[Pr.chan,Pr.targets,Pr.exprs,Pr.rep];omega)) hc1 hc2 hc3 (gl'.env.trans gg.env) hG hL
     |none=>exact kf5 (mm:=mm) (.mk kind name chan targets exprs rep guards l procs (.mk sk st sn se spp sf sb)) σ a ha _ rfl c hc t ht x hx r hr' rb hrb rc hrc g.1 q.1 g.2 q.2 h17 hk h0 h5 (hf.mono (by simp only[Pr.chan,Pr.targets,Pr.exprs,Pr.rep];omega)) hc1 hc2 hc3 (gl'.env.trans gg.env) hG hL
end
section
variable {mm:Int}
attribute [local irreducible] TR TC
theorem jm8 (gl:List (Nat × List D))(k:Sc.Kind)(ev:List (ByteArray × Bool)):
 FnE prog gl 31 [ja2 k] (l9 k ⟨fun _=>[],[],0,ev⟩) (fun v H1=>v=.ptr 900 0/\H1=HW k ⟨fun _=>[],[],0,ev⟩):=by
 cases k
 case free=>
  dsimp only[ja2,l9]
  (refine j3 func31 ntmps31 results31 fun w M E b0=>?_)
  (repeat' first|refine tr_at 3 ?_;(refine jj7 901 ?_)|refine tr_at 4 ?_;(refine jj7 902 ?_)|refine tr_at 7 ?_;(refine k7 900 ?_)|refine yyp ?_;try refine s_bu ?_ ?_<;>intro hb|refine yy ?_|refine at_nil ?_;refine z_nil [0,2,3,4,5,6] ?_|refine tc_seq fun K hK=>?_|apply_assumption -exfalso -symm)
  refine ka0 (kz9 (n:=901) 120 3 rfl) ?_
  refine ka0 (S':=⟨[(2,.ptr 900 0)],HW .free ⟨fun _=>[],[],0,ev⟩,gl⟩) (by dsimp only[HW,ja2,l9];exact v7) ?_
  (refine j0 (j7 ⟨?_,rfl⟩))
  rfl
 case check nn=>
  dsimp only[ja2,l9]
  (refine j3 func31 ntmps31 results31 fun w M E b0=>?_)
  (repeat' first|refine tr_at 3 ?_;(refine jj7 901 ?_)|refine tr_at 4 ?_;(refine jj7 902 ?_)|refine tr_at 7 ?_;(refine k7 900 ?_)|refine yyp ?_;try refine s_bu ?_ ?_<;>intro hb|refine yy ?_|refine at_nil ?_;refine z_nil [0,2,3,4,5,6] ?_|refine tc_seq fun K hK=>?_|apply_assumption -exfalso -symm)
  refine ka0 (kz9 (n:=901) 120 3 rfl) ?_
  refine ka0 (S':=⟨[(2,.ptr 900 0)],HW (.check nn) ⟨fun _=>[],[],0,ev⟩,gl⟩) (by dsimp only[HW,ja2,l9];exact v7) ?_
  (refine j0 (j7 ⟨?_,rfl⟩))
  rfl
 case none=>
  dsimp only[ja2,l9]
  (refine j3 func31 ntmps31 results31 fun w M E b0=>?_)
  (repeat' first|refine tr_at 3 ?_;(refine jj7 901 ?_)|refine tr_at 4 ?_;(refine jj7 902 ?_)|refine tr_at 7 ?_;(refine k7 900 ?_)|refine yyp ?_;try refine s_bu ?_ ?_<;>intro hb|refine yy ?_|refine at_nil ?_;refine z_nil [0,2,3,4,5,6] ?_|refine tc_seq fun K hK=>?_|apply_assumption -exfalso -symm)
  refine ka0 (kz9 (n:=901) 120 3 rfl) ?_
  refine ka0 (S':=⟨[(2,.ptr 900 0)],HW .none ⟨fun _=>[],[],0,ev⟩,gl⟩) (by dsimp only[HW,ja2,l9];exact v7) ?_
  (refine j0 (j7 ⟨?_,rfl⟩))
  rfl
end
section
open Go.RowKit Go.Sort
def mc5 (l:List ByteArray):List (List UInt8):=l.map fun s=>s.data.toList
theorem jb5 (l:List ByteArray):(mc5 l).length=l.length:=List.length_map ..
theorem qt9 (s:ByteArray):Sc.toB s.data.toList=s:=by simp[Sc.toB]
theorem qu0 (s:List UInt8):(Sc.toB s).data.toList=s:=by simp[Sc.toB]
theorem kq9 (l:List (List UInt8)):mc5 (l.map Sc.toB)=l:=by
 unfold mc5
 rw[List.map_map]
 conv=>rhs;rw[<-List.map_id l]
 exact List.map_congr_left fun s _=>qu0 s
theorem ka8 (l:List ByteArray):(mc5 l).map encStr=l.map Value.string:=by
 unfold mc5
 rw[List.map_map]
 exact List.map_congr_left fun s _=>congrArg Value.string (qt9 s)
theorem jk2 {w:World}{M:Nat->Nat->Prop}:∀ {l:List ByteArray} {ys:List Value},RepE w M 1 (l.map .str) ys↔ys=l.map Value.string
 |[],ys=>by simp[RepE]
 |s::l,ys=>by
  simp only[List.map_cons,RepE]
  constructor
  ·rintro⟨v,r,rfl,_,h3,h4⟩
   simp only[RepD]at h3
   subst h3
   rw[jk2.1 h4]
   rfl
  ·rintro rfl
   exact⟨.string s,l.map .string,rfl,rfl,rfl,jk2.2 rfl⟩
theorem jp1 {q m:Nat}{ob ob':Ob}(h:look m [(q,ob)]=some ob'):m=q/\ob'=ob:=by
 rw[j8]at h
 split at h
 ·rename_i e';cases h;exact⟨e'.symm,rfl⟩
 ·cases h
theorem mc6 (v:Value)(h:∃ a n c,v=.slice a n c):hb v=v.ownBlock:=by
 obtain⟨a,n,c,rfl⟩:=h
 cases a<;>rfl
theorem km0 {w w':World}{M:Nat->Nat->Prop}{β:Nat->Hd}{q e k:Nat}{sh sh':Bool}{l m:List ByteArray}(hlen:m.length=l.length)(ho:Obs w M β [(q,.row e 1 sh (l.map .str) k)])(hM:∀ b o,M b o->b<w.heap.size)
 (hg:w.grownBy w' (β q).v.ownBlock) (hm:w'.ownsRow 0 e 1 (β q).v l.length (m.map .string)):
 Frm (ku7 β [(q,.row e 1 sh (l.map .str) k)]) w w'/\(∀ n ob b,look n [(q,Ob.row e 1 sh' (m.map .str) k)]=some ob->own (β n) ob b->b∈ku7 β [(q,.row e 1 sh (l.map .str) k)]\/w.heap.size<=b)/\Obs w' M β [(q,.row e 1 sh' (m.map .str) k)]:=by
 have hs:∃ a n c,(β q).v=.slice a n c:=by
  rcases hm.2 with ⟨h,_⟩|⟨g,cap,cur,h,_⟩
  ·exact⟨_,_,_,h⟩
  ·exact⟨_,_,_,h⟩
 have hown:∀ b (sh':Bool) (xs:List D),own (β q) (.row e 1 sh' xs k) b↔(β q).v.ownBlock=some b:=fun b sh' xs=>by
  rw[p8 rfl,mc6 _ hs]
 have hl0:look q [(q,Ob.row e 1 sh (l.map .str) k)]=some (.row e 1 sh (l.map .str) k):=by rw[j8,if_pos rfl]
 have hin:∀ b,(β q).v.ownBlock=some b->b∈ku7 β [(q,Ob.row e 1 sh (l.map .str) k)]:=fun b hb2=>jg5.2 ⟨q,_,hl0,(hown b _ _).2 hb2⟩
 obtain⟨g1,g2,g3,g4,g5⟩:=hg
 refine⟨⟨?_,?_,?_,g4,fun b hb2 hnot=>g5 b hb2 fun e1=>hnot (hin b e1.symm)⟩,fun n ob b h1 h2=>?_,⟨fun n ob h1=>?_,fun n n' b ob ob' hne h1 h2 _=>?_,fun n ob b o h1 h2 h3=>?_⟩⟩
 ·first|exact g1|exact g2|exact g3
 ·first|exact g1|exact g2|exact g3
 ·first|exact g1|exact g2|exact g3
 ·obtain⟨rfl,rfl⟩:=jp1 h1
  exact .inl (hin b ((hown b _ _).1 h2))
 ·obtain⟨rfl,rfl⟩:=jp1 h1
  refine⟨m.map .string,?_,jk2.2 rfl⟩
  rw[List.length_map,hlen]
  exact hm
 ·obtain⟨rfl,_⟩:=jp1 h1
  obtain⟨rfl,_⟩:=jp1 h2
  exact absurd rfl hne
 ·obtain⟨rfl,rfl⟩:=jp1 h1
  exact ho.out n _ b o hl0 ((hown b _ _).2 ((hown b _ _).1 h2)) h3
theorem qu1 (gl:List (Nat × List D))(q k:Nat)(l:List ByteArray)(hl:l.length<4611686018427387904):
 FnE prog gl 34 [.own q k] [(q,.row 9 1 false (l.map .str) k)] (fun v H1=>v=.tup []/\H1=[(q,.row 9 1 false (((Sc.sortL l).map Sc.toB).map .str) k)]):=by
 intro w M β us hM hus ho hg
 simp only[RepL]at hus
 obtain⟨v,r,rfl,hv,rfl⟩:=hus
 have hl0:look q [(q,Ob.row 9 1 false (l.map .str) k)]=some (.row 9 1 false (l.map .str) k):=by rw[j8,if_pos rfl]
 have hv':v=(β q).v:=hv 9 1 false _ hl0
 subst hv'
 obtain⟨ys,h3,h4⟩:=ho.obs q _ hl0
 rw[jk2]at h4
 subst h4
 rw[List.length_map]at h3
 have hlen:((Sc.sortL l).map Sc.toB).length=l.length:=by
  rw[List.length_map]
  unfold Sc.sortL
  rw[List.length_mergeSort,List.length_map]
 have fin:∀ w',w.grownBy w' (β q).v.ownBlock->w'.ownsRow 0 9 1 (β q).v l.length (((Sc.sortL l).map Sc.toB).map .string)->∃ (v:V) (x:Value) (H1:List (Nat × Ob)) (β1:Nat->Hd),(v=.tup []/\H1=[(q,.row 9 1 false (((Sc.sortL l).map Sc.toB).map .str) k)])/\endOk [(q,.row 9 1 false (l.map .str) k)] H1 v=true/\Ending.returned (Value.tuple #[])=.returned x/\Frm (ku7 β [(q,.row 9 1 false (l.map .str) k)]) w w'/\(∀ n,(look n [(q,Ob.row 9 1 false (l.map .str) k)]).isSome=true->(β1 n).v=(β n).v)/\
  (∀ n ob b,look n H1=some ob->own (β1 n) ob b->b∈ku7 β [(q,.row 9 1 false (l.map .str) k)]\/w.heap.size<=b)/\Obs w' M β1 H1/\RepV w' (Mut M β1 H1) β1 H1 v x:=fun w' g1 g2=>by
  obtain⟨t1,t2,t3⟩:=km0 (sh':=false) hlen ho hM g1 g2
  refine⟨.tup [],_,_,β,⟨rfl,rfl⟩,?_,rfl,t1,fun _ _=>rfl,t2,t3,[],rfl,rfl⟩
  simp[endOk,mr0,mq9,kz7,ki7,j8,Ob.cells,jg2,V.within]
 rcases h3.2 with ⟨e1,e2⟩|⟨g,cap,cur,e1,e2,e3,e4,e5,e6,e7⟩
 ·have h0:l=[]:=List.eq_nil_of_length_eq_zero e2
  subst h0
  rw[e1]at fin ⊢
  refine(Tryz.slices_Sort_string_none none 0 w).mono ?_
  rintro en w' ⟨rfl,rfl⟩
  exact fin _ ⟨rfl,rfl,rfl,Nat.le_refl _,fun _ _ _=>rfl⟩ ⟨by rw[List.length_map,hlen];rfl,.inl ⟨rfl,rfl⟩⟩
 ·rw[e1]at fin ⊢
  rw[Nat.mul_one,<-ka8,<-jb5 l]at e7
  have hh:=holds_of_block e3 e7
  have hs:=Tryz.slices_Sort_string g 0 cap (mc5 l) w hh (Array.getElem?_eq_some_iff.1 e3).1 (by rw[jb5];exact hl)
  rw[jb5]at hs
  refine hs.mono ?_
  rintro en w' ⟨rfl,n,os,rfl⟩
  refine fin _ (grownBy_sorted _) ?_
  have h5:=ownsRow_sorted (ss:=mc5 l) (ts:=Sc.sortL l) (n:=n) (os:=os) (base:=0) (by rw[jb5,<-hlen,List.length_map]) e2 e3 (by rw[jb5];exact e4) e5 e6
  rw[jb5,show(Sc.sortL l).map encStr=((Sc.sortL l).map Sc.toB).map Value.string by rw[<-ka8,kq9]]at h5
  exact h5
theorem ml4 (gl:List (Nat × List D))(q k:Nat)(l:List ByteArray):
 FnE prog gl 35 [.own q k] [(q,.row 9 1 false (l.map .str) k)]
  (fun v H1=>v=.d (.list 1 (((Lib.compact (mc5 l)).map Sc.toB).map .str))/\H1=[(q,.row 9 1 true (((Lib.compact (mc5 l)++List.replicate (l.length - (Lib.compact (mc5 l)).length) []).map Sc.toB).map .str) k)]):=by
 intro w M β us hM hus ho hg
 simp only[RepL]at hus
 obtain⟨v,r,rfl,hv,rfl⟩:=hus
 have hl0:look q [(q,Ob.row 9 1 false (l.map .str) k)]=some (.row 9 1 false (l.map .str) k):=by rw[j8,if_pos rfl]
 have hv':v=(β q).v:=hv 9 1 false _ hl0
 subst hv'
 obtain⟨ys,h3,h4⟩:=ho.obs q _ hl0
 rw[jk2]at h4
 subst h4
 rw[List.length_map]at h3
 obtain⟨c,hc⟩:∃ c,c=Lib.compact (mc5 l):=⟨_,rfl⟩
 have hcl:c.length<=l.length:=by rw[hc,<-jb5 l];exact Lib.compact_length_le _
 rw[<-hc]
 obtain⟨m,hm⟩:∃ m,m=(c++List.replicate (l.length - c.length) []).map Sc.toB:=⟨_,rfl⟩
 rw[<-hm]
 have hlen:m.length=l.length:=by
  rw[hm,List.length_map,List.length_append,List.length_replicate]
  omega
 have hpre:m.take c.length=c.map Sc.toB:=by
  rw[hm,<-List.map_take,List.take_left']
  rfl
 have fin:∀ w' x,w.grownBy w' (β q).v.ownBlock->w'.ownsRow 0 9 1 (β q).v l.length (m.map .string)->(∀ a n cp,(β q).v=.slice a n cp->x=.slice a c.length cp)->∃ (v:V) (x':Value) (H1:List (Nat × Ob)) (β1:Nat->Hd),(v=.d (.list 1 ((c.map Sc.toB).map .str))/\H1=[(q,.row 9 1 true (m.map .str) k)])/\endOk [(q,.row 9 1 false (l.map .str) k)] H1 v=true/\Ending.returned x=.returned x'/\Frm (ku7 β [(q,.row 9 1 false (l.map .str) k)]) w w'/\(∀ n,(look n [(q,Ob.row 9 1 false (l.map .str) k)]).isSome=true->(β1 n).v=(β n).v)/\
  (∀ n ob b,look n H1=some ob->own (β1 n) ob b->b∈ku7 β [(q,.row 9 1 false (l.map .str) k)]\/w.heap.size<=b)/\Obs w' M β1 H1/\RepV w' (Mut M β1 H1) β1 H1 v x':=fun w' x g1 g2 g3=>by
  obtain⟨t1,t2,t3⟩:=km0 (sh':=true) hlen ho hM g1 g2
  refine⟨_,x,_,β,⟨rfl,rfl⟩,?_,rfl,t1,fun _ _=>rfl,t2,t3,?_⟩
  ·simp[endOk,mr0,mq9,kz7,ki7,j8,Ob.cells,jg2,V.within]
  ·show RepD _ _ _ _
   have hcl2:((c.map Sc.toB).map D.str).length=c.length:=by rw[List.length_map,List.length_map]
   simp only[RepD]
   rw[hcl2]
   rcases g2.2 with ⟨e1,e2⟩|⟨g,cap,cur,e1,e2,e3,e4,e5,e6,e7⟩
   ·have hc0:c.length=0:=by omega
    have hc1:c=[]:=List.eq_nil_of_length_eq_zero hc0
    refine⟨none,0,[],g3 _ _ _ e1,by omega,Nat.zero_le _,fun _=>rfl,?_,fun j y hj=>by simp at hj⟩
    rw[hc1]
    simp[RepE]
   ·refine⟨some ⟨g,0,none⟩,cap,(c.map Sc.toB).map .string,g3 _ _ _ e1,by omega,e5,fun h=>(by cases h),jk2.2 rfl,fun j y hj=>?_⟩
    have hj2:j<c.length:=by
     have:=(List.getElem?_eq_some_iff.1 hj).1
     simpa using this
    refine⟨g,0,rfl,?_,?_⟩
    ·rintro(h|⟨n,ob,h1,h2,h3⟩)
     ·exact ho.out q _ g _ hl0 ((p8 rfl).2 (by rw[e1];rfl)) h
     ·obtain⟨rfl,rfl⟩:=jp1 h1
      rcases h3 with h3|h3
      ·cases h3
      ·rw[List.length_map,hlen]at h3
       omega
    ·rw[<-hpre]at hj
     rw[List.map_take,<-e7,List.take_take,List.getElem?_take_of_lt (by omega)]at hj
     simp only[World.cell?,e3,Nat.zero_add]
     simp only[Option.isSome_none,Bool.false_eq_true,if_false]
     rw[<-Array.getElem?_toList]
     exact hj
 rcases h3.2 with ⟨e1,e2⟩|⟨g,cap,cur,e1,e2,e3,e4,e5,e6,e7⟩
 ·have hc0:c.length=0:=by omega
  rw[e1]at fin ⊢
  refine(Tryz.slices_Compact_string_empty none 0 w).mono ?_
  rintro en w' ⟨rfl,rfl⟩
  refine fin _ _ ⟨rfl,rfl,rfl,Nat.le_refl _,fun _ _ _=>rfl⟩ ⟨by rw[List.length_map,hlen];omega,.inl ⟨rfl,e2⟩⟩ fun a n cp h=>?_
  cases h
  rw[hc0]
 ·rw[e1]at fin ⊢
  rw[Nat.mul_one,<-ka8,<-jb5 l]at e7
  have hh:=holds_of_block e3 e7
  have hs:=Tryz.slices_Compact_string g 0 cap (mc5 l) w hh (by rw[jb5];have:maxLen=9223372036854775807:=rfl;omega) (by rw[jb5];exact e4)
  rw[jb5,<-hc]at hs
  refine hs.mono ?_
  rintro en w' ⟨rfl,n,rfl⟩
  have hts:(c++List.replicate (l.length - c.length) []).length=(mc5 l).length:=by
   rw[jb5,List.length_append,List.length_replicate]
   omega
  have h5:=ownsRow_sorted (ss:=mc5 l) (ts:=c++List.replicate (l.length - c.length) []) (n:=n) (os:=#[]) (base:=0) hts e2 e3 (by rw[jb5];exact e4) e5 e6
  have h6:=grownBy_sorted (w:=w) (g:=g) (n:=n) (os:=#[]) (c++List.replicate (l.length - c.length) []).toArray
  have hgr:∀ u:World,grow u #[]=u:=grow_empty
  rw[hgr]at h5 h6
  have h7:List.map encStr (c++List.replicate (l.length - c.length) [])=m.map Value.string:=by rw[hm,<-ka8,kq9]
  rw[jb5,h7]at h5
  refine fin _ _ h6 h5 fun a n cp h=>?_
  cases h
  rfl
end
section
section
variable {E:Set}{Q:Exit->Sd->Prop}{ops:Array Oper}{draw:Bool}{rest:Todo}{way:Way3}{ty:TypeId}{pos:String}{af:Array Edge}{gd:Option (Nat × Bool)}{dst:Option Tmp}
variable {env:List (Nat × V)}{H:List (Nat × Ob)}{gl:List (Nat × List D)}{d:Nat}
theorem ml5 {C:Ctx}(n:Nat){e sz k:Nat}(hl:look n H=some (.row e sz true [] k)):Wk C ⟨env,H,gl⟩ ⟨env,(n,.row e sz false [] k)::H,gl⟩:=fun a w ⟨β,h⟩=>by
 have hH:∀ m e' sz' sh' xs' k',look m ((n,Ob.row e sz false [] k)::H)=some (.row e' sz' sh' xs' k')->∃ sh' xs',look m H=some (.row e' sz' sh' xs' k'):=fun m e' sz' sh' xs' k' hm=>by
  rw[jb4]at hm
  split at hm
  ·rename_i e
   subst e
   cases hm
   exact⟨true,[],hl⟩
  ·exact⟨sh',xs',hm⟩
 refine⟨β,h.turn (S:=⟨env,H,gl⟩) hl (fun _ _=>rfl) rfl rfl rfl (Nat.le_refl _) (fun _ _ _=>rfl) (fun b h=>.inl h) (fun _ _ _ _ _ h=>h) (fun b o _ _ _=>.inr (by simp))
  (fun k t x v _=>RepV.keep k (fun _=>rfl) hH x v) (fun _=>rfl) (fun k m cs vs _ _=>RepL.keep k (fun _=>rfl) hH _ vs) (fun k=>?_)⟩
 obtain⟨ys,h1,h2⟩:=h.obs n _ hl
 exact⟨ys,h1,RepE.keep k _ _ _ h2⟩
end
end
section
variable {mm:Int}
theorem qu2:∀ (n:Nat) (p:Pr),SizeOf.sizeOf p<=n->∀ (depth left:Int) (pl:Bool),0<=left->left<=2048->0<=depth->depth<=34->
 FnE prog (glS mm) 55 [.ptr 5 0,.d (dPr p),.d (.int .i64 depth),.d (.bool pl)] [(5,.box [.d (.int .i64 left)])]
  (fun v H1=>v=.d (.bool (Lx.prVisit depth left pl p).1)/\H1=[(5,.box [.d (.int .i64 (Lx.prVisit depth left pl p).2)])]):=by
 intro n
 induction n with
 |zero=>intro p h;cases p;simp only[Pr.mk.sizeOf_spec]at h;omega
 |succ n ih=>
  intro p hp depth left pl h0 h1 h2 h3
  exact qs9 p depth left pl h0 h1 h2 h3 fun x hx d l q g0 g1 g2 g3=>ih x (by omega) d l q g0 g1 g2 g3
attribute [local irreducible] TR TC
theorem mg9 (p:Pr):FnD prog (glS mm) 30 [.d (dPr p)] (fun v=>v=.d (.bool (Lx.prMay p))):=by
 have h:=qu2 (mm:=mm) _ p (Nat.le_refl _) 0 2048 true (by omega) (by omega) (by omega) (by omega)
 unfold Lx.prMay
 rw[x5]at h ⊢
 (refine j4 func30 ntmps30 results30 fun w M=>?_)
 (repeat' first|refine tr_at 1 ?_;(refine k7 1 ?_)|refine tr_at 5 ?_;(refine k7 5 ?_)|refine tr_at 8 ?_;refine y_callE (hc:=h) ?_|refine yyp ?_|refine yy ?_|refine at_nil ?_;refine z_nil [0,1,2,3,4,5,6] ?_|refine tc_seq fun K hK=>?_|apply_assumption -exfalso -symm)
 (refine j0 (j6 ?_))
 rfl
end
section
def qs42_0:List Nat:=[0,1,2,3,4,5,6,7]
variable {mm:Int}
namespace Sc
def start (tk:List (ByteArray × Int)):W:=⟨fun _=>[],tk,0,[]⟩
noncomputable def freeOf (p:Pr):List ByteArray:=once (freeEv (prOf (start []) p).2.ev)
theorem strL_sort (l:List ByteArray):mc5 ((sortL l).map toB)=sortL l:=kq9 _
end Sc
attribute [local irreducible] TR TC
theorem mx1 (p:Pr)(hw:Lx.prMay p=true->Sc.okPr p/\kq5 p/\(Sc.start []).fit (Sc.prN p+1)):
 FnD prog (glS mm) 12 [.d (dPr p)] (fun v=>v=.tup [.d (.list 1 (if Lx.prMay p=true then (Sc.freeOf p).map .str else [])),.d (.int .i64 (if Lx.prMay p=true then 0 else 2))]):=by
 have c1:=mg9 (mm:=mm) p
 by_cases hm:Lx.prMay p=true
 ·obtain⟨hok,hcap,hfit⟩:=hw hm
  have c2:=jm8 (glS mm) .free []
  have c3:=kq8 (mm:=mm) .free _ p (Nat.le_refl _) hok hcap (Sc.start []) hfit
  have hg:=Sc.grow_pr p (Sc.start [])
  obtain⟨r,hr⟩:∃ r,r=Sc.prOf (Sc.start []) p:=⟨_,rfl⟩
  have hF:Sc.freeOf p=Sc.once (Sc.freeEv r.2.ev):=by rw[hr];rfl
  rw[<-hr]at c3 hg
  have he:=hg.ev
  have hroom:=hfit.room
  have hlen:=Sc.freeEv_len r.2.ev
  unfold Sc.W.room at hroom
  have c4:=qu1 (glS mm) 951 0 (Sc.freeEv r.2.ev) (by omega)
  have c5:=ml4 (glS mm) 951 0 ((Sc.sortL (Sc.freeEv r.2.ev)).map Sc.toB)
  rw[Sc.strL_sort,Sc.compact_once,<-hF]at c5
  rw[if_pos hm,if_pos hm]
  rw[hm]at c1
  dsimp only[HW,ja2,l9,Sc.start,Sc.freeEv,List.map_nil]at c2 c3
  clear hr hg he hroom hlen hfit hok hcap hF
  rw[x5]at c1 c3 ⊢
  (refine j4 func12 ntmps12 results12 fun w M=>?_)
  ((repeat' first|refine tr_at 1 ?_;(refine k7 1001 ?_)|refine tr_at 4 ?_;(refine j1 903 ?_)|refine j5 4 ?_;refine halt ?_|refine yyp ?_;try refine s_bu ?_ ?_<;>intro hb|refine yy ?_|refine at_call 30 ?_;refine y_call (hc:=c1) ?_;try refine s_bu ?_ ?_<;>intro hb|refine at_nil ?_;refine z_nil qs42_0 ?_|refine tc_seq fun K hK=>?_|apply_assumption -exfalso -symm);all_goals try refine unhalt ?_)
  refine js6 903 951 0 (e:=9) (sz:=1) rfl rfl rfl ?_
  refine ka0 (ml5 951 rfl) ?_
  refine ka0 (kk5 (n:=903) (q:=951) (i:=0) rfl rfl rfl rfl (by(repeat (first|exact Drop.nil|apply Drop.drop rfl|apply Drop.take rfl));fail_if_success intros) rfl) ?_
  ((repeat' first|refine tr_at 9 ?_;refine y_callE (hc:=c2) ?_|refine tr_at 11 ?_;refine y_callE (hc:=c3) ?_|refine j5 5 ?_;refine halt ?_|refine yyp ?_|refine at_nil ?_;refine z_nil qs42_0 ?_|refine ja1 ?_ ?_|(apply tc_mid (x:=.region 4 _ _);focus ((refine j5 4 ?_;refine j2 [1,3] (linT [0] (.mid 2 (lin [7,15]) 1 (lin [9,15]))) ?_);(repeat' (first|refine tr_at 1 ?_;(refine k7 1001 ?_)));(all_goals first|exact Wk.refl _ _|exact v7);done))|refine tc_seq fun K hK=>?_|refine j5 4 ?_;refine j2 [1,3] (linT [0] (.mid 2 (lin [7,15]) 1 (lin [9,15]))) ?_|apply_assumption -exfalso -symm);all_goals try refine unhalt ?_)
  all_goals (refine ka0 (kc8 (n:=903) (q:=951) rfl rfl) ?_)
  all_goals (repeat' first|refine tr_at 13 ?_;refine y_callE (hc:=c4) ?_|refine tr_at 15 ?_;refine y_callE (hc:=c5) ?_|refine yyp ?_|refine yy ?_|refine at_nil ?_;refine z_nil qs42_0 ?_|refine tc_seq fun K hK=>?_|refine j5 4 ?_;refine j2 [] (lin [0,9,6,14]) ?_|apply_assumption -exfalso -symm)
  all_goals (refine j0 (j6 ?_))
  all_goals rfl
 ·rw[if_neg hm,if_neg hm]
  rw[show Lx.prMay p=false by simpa using hm]at c1
  rw[x5]at c1 ⊢
  (refine j4 func12 ntmps12 results12 fun w M=>?_)
  (repeat' first|refine tr_at 1 ?_;(refine k7 1001 ?_)|refine yyp ?_;try refine s_bu ?_ ?_<;>intro hb|refine yy ?_|refine at_call 30 ?_;refine y_call (hc:=c1) ?_;try refine s_bu ?_ ?_<;>intro hb|refine at_nil ?_;refine z_nil qs42_0 ?_|refine tc_seq fun K hK=>?_|refine j5 4 ?_;refine j2 [] (lin [0,9,6,14]) ?_|apply_assumption -exfalso -symm)
  all_goals (refine j0 (j6 ?_))
  all_goals rfl
end
section
def qs43_0:List Nat:=[0,1,2,3,4,5,6,7,8,9,48]
variable {mm:Int}
namespace Sc
noncomputable def checkOf (p:Pr)(ns:List ByteArray):ByteArray × Int:=firstEv ns (prOf (start []) p).2.ev
end Sc
attribute [local irreducible] TR TC
theorem mh0 (p:Pr)(nn:List ByteArray)(hw:Lx.prMay p=true->Sc.okPr p/\kq5 p/\(Sc.start []).fit (Sc.prN p+1)):
 FnD prog (glS mm) 15 [.d (dPr p),.d (.list 1 (nn.map .str))] (fun v=>v=.tup [.d (.str (if Lx.prMay p=true then (Sc.checkOf p nn).1 else ByteArray.empty)),.d (.int .i64 (if Lx.prMay p=true then (Sc.checkOf p nn).2 else 2))]):=by
 have c1:=mg9 (mm:=mm) p
 by_cases hm:Lx.prMay p=true
 ·obtain⟨hok,hcap,hfit⟩:=hw hm
  have c2:=jm8 (glS mm) (.check nn) []
  have c3:=kq8 (mm:=mm) (.check nn) _ p (Nat.le_refl _) hok hcap (Sc.start []) hfit
  have hF:Sc.checkOf p nn=Sc.firstEv nn (Sc.prOf (Sc.start []) p).2.ev:=rfl
  obtain⟨r,hr⟩:∃ r,r=Sc.prOf (Sc.start []) p:=⟨_,rfl⟩
  rw[<-hr]at c3 hF
  rw[if_pos hm,if_pos hm,hF]
  rw[hm]at c1
  dsimp only[HW,ja2,l9,Sc.start,Sc.firstEv,List.map_nil]at c2 c3
  clear hr hfit hok hcap hF
  rw[x5]at c1 c3 ⊢
  (refine j4 func15 ntmps15 results15 fun w M=>?_)
  (repeat' first|refine tr_at 2 ?_;(refine k7 1002 ?_)|refine tr_at 3 ?_;(refine k7 903 ?_)|refine tr_at 4 ?_;(refine j1 904 ?_)|refine tr_at 5 ?_;(refine j1 905 ?_)|refine tr_at 8 ?_;refine yyp ?_;try refine s_bu ?_ ?_<;>intro hb|refine yyp ?_|refine yy ?_|refine at_call 30 ?_;refine y_call (hc:=c1) ?_|refine at_nil ?_;refine z_nil qs43_0 ?_|(apply tc_mid (x:=.region 3 _ _);focus ((refine j5 3 ?_;refine j2 [1,3] (linT [0] (.mid 2 (lin [7,15]) 1 (lin [9,15]))) ?_);(repeat' (first|refine tr_at 10 ?_;refine y_callE (hc:=c2) ?_|refine tr_at 12 ?_;refine y_callE (hc:=c3) ?_|refine yyp ?_|refine at_nil ?_;refine z_nil qs43_0 ?_|refine ja1 ?_ ?_));(all_goals first|exact Wk.refl _ _|exact v7);done))|(apply tc_mid (x:=.region 4 _ _);focus ((refine j5 4 ?_;refine j2 [2,3] (linT [1] (.mid 1 (lin [11,15]) 2 (lin [5,15]))) ?_);(repeat' (first|refine yyp ?_|refine yy ?_|refine at_nil ?_;refine z_nil qs43_0 ?_|refine ja1 ?_ ?_));(all_goals first|exact Wk.refl _ _|exact v7);done))|refine tc_seq fun K hK=>?_|refine j5 3 ?_;refine j2 [1,3] (linT [0] (.mid 2 (lin [7,15]) 1 (lin [9,15]))) ?_|refine j5 4 ?_;refine j2 [2,3] (linT [1] (.mid 1 (lin [11,15]) 2 (lin [5,15]))) ?_|apply_assumption -exfalso -symm)
  all_goals (refine j0 (j6 ?_ (Res.cell rfl rfl rfl (Arg.d _) (Res.cell rfl rfl rfl (Arg.d _) Res.nil))))
  all_goals rfl
 ·rw[if_neg hm,if_neg hm]
  rw[show Lx.prMay p=false by simpa using hm]at c1
  rw[x5]at c1 ⊢
  (refine j4 func15 ntmps15 results15 fun w M=>?_)
  (repeat' first|refine tr_at 2 ?_;(refine k7 1002 ?_)|refine tr_at 3 ?_;(refine k7 1003 ?_)|refine tr_at 4 ?_;(refine j1 1004 ?_)|refine tr_at 5 ?_;(refine j1 1005 ?_)|refine yyp ?_;try refine s_bu ?_ ?_<;>intro hb|refine yy ?_|refine at_call 30 ?_;refine y_call (hc:=c1) ?_;try refine s_bu ?_ ?_<;>intro hb|refine at_nil ?_;refine z_nil qs43_0 ?_|(apply tc_mid (x:=.region 4 _ _);focus ((refine j5 4 ?_;refine j2 [2,3] (linT [1] (.mid 1 (lin [11,15]) 2 (lin [5,15]))) ?_);(repeat' (first|refine tr_at 2 ?_;(refine k7 1002 ?_)));(all_goals first|exact Wk.refl _ _|exact v7);done))|refine tc_seq fun K hK=>?_|refine j5 3 ?_;refine j2 [] (lin [0,9,6,14]) ?_|refine j5 4 ?_;refine j2 [2,3] (linT [1] (.mid 1 (lin [11,15]) 2 (lin [5,15]))) ?_|apply_assumption -exfalso -symm)
  all_goals (refine j0 (j6 ?_ (Res.cell rfl rfl rfl (Arg.d _) (Res.cell rfl rfl rfl (Arg.d _) Res.nil))))
  all_goals rfl
end
end Go.Proofs.YtdopmfifmgkmoaaGreatDoor
