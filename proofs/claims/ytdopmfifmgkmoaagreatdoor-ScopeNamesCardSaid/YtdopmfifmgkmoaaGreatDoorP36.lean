/- Parts: S12, S23, S24. -/
import Derived.Test.YtdopmfifmgkmoaaGreatDoorP31
set_option linter.all false
set_option maxRecDepth 100000
set_option maxHeartbeats 16000000
namespace Go.Proofs.YtdopmfifmgkmoaaGreatDoor
open Go.RowKit Go.Proofs.Tryz
section
namespace Sc
abbrev la (f:ByteArray->List Ent)(s:ByteArray):Option Ent:=(f s).getLast?
structure LikE (has:ByteArray->Prop)(c:Int)(f g:ByteArray->List Ent):Prop where
 here:∀ s x,la f s=some x->la g x.fresh=some x
 num:∀ s x,la f s=some x->∃ k:Nat,x.fresh=newName k/\(k:Int)<=c/\¬has (newName k)
 new:∀ s x,la g s=some x->∃ k:Nat,s=newName k/\(k:Int)<=c/\¬has (newName k)
 tags:∀ s x,la f s=some x->∀ t∈x.tags,has t
structure Lik (σ τ:W):Prop where
 env:LikE σ.has σ.count σ.env τ.env
 count:σ.count=τ.count
 pos:0<=σ.count
 ev:σ.ev=τ.ev
 has:∀ s,σ.has s↔τ.has s
def jt5 (σ:W):Prop:=∀ e∈σ.ev,e.2=false/\σ.has e.1
theorem LikE.mono {has:ByteArray->Prop}{c d:Int}{f g:ByteArray->List Ent}(h:LikE has c f g)(hc:c<=d):LikE has d f g:=
 ⟨h.here,fun s x hx=>let ⟨k,h1,h2,h3⟩:=h.num s x hx;⟨k,h1,Int.le_trans h2 hc,h3⟩,fun s x hx=>let ⟨k,h1,h2,h3⟩:=h.new s x hx;⟨k,h1,Int.le_trans h2 hc,h3⟩,h.tags⟩
theorem Grow.fine {σ τ:W}{n:Nat}(h:Grow σ τ n)(hf:jt5 τ):jt5 σ:=fun e he=>by
 have:=hf e (h.pre.subset he)
 unfold W.has at *
 rw[h.tk]at this
 exact this
theorem Grow.hs {σ τ:W}{n:Nat}(h:Grow σ τ n)(s:ByteArray):τ.has s↔σ.has s:=by unfold W.has;rw[h.tk]
theorem kl8 (k:Nat):newName k≠ByteArray.empty:=fun h=>by
 have:=congrArg ByteArray.size h
 simp[newName,ByteArray.size]at this
structure Back {α:Type}(a b:α × W):Prop where
 eq:b.1=a.1
 lik:Lik a.2 b.2
theorem Lik.name {σ τ:W}(h:Lik σ τ)(s:ByteArray)(hf:jt5 (nameOf σ s).2):Back (nameOf σ s) (nameOf τ (nameOf σ s).1):=by
 unfold nameOf at hf ⊢
 cases h1:(σ.env s).getLast? with
 |some x=>
  dsimp only
  have:=h.env.here s x h1
  rw[show(τ.env x.fresh).getLast?=some x from this]
  exact⟨rfl,h⟩
 |none=>
  rw[h1]at hf
  dsimp only at hf ⊢
  have hs:=hf (s,false) (by simp[step])
  have h2:(τ.env s).getLast?=none:=by
   cases h3:(τ.env s).getLast? with
   |none=>rfl
   |some x=>
    obtain⟨k,rfl,_,h4⟩:=h.env.new s x h3
    exact absurd hs.2 h4
  rw[h2]
  exact⟨rfl,h.env,h.count,h.pos,by simp only[step,h.ev],h.has⟩
mutual
theorem jf7:∀ (e:Ex) (σ τ:W),Lik σ τ->jt5 (exprOf σ e).2->Back (exprOf σ e) (exprOf τ (exprOf σ e).1)
 |.mk kind op ty n s l,σ,τ,h,hF=>by
  simp only[exprOf]at hF ⊢
  have h1:Back (if exNamed kind then nameOf σ s else (s,σ)) (if exNamed kind then nameOf τ (if exNamed kind then nameOf σ s else (s,σ)).1 else ((if exNamed kind then nameOf σ s else (s,σ)).1,τ)):=by
   have hF1:=(jg9 l _).fine hF
   split
   ·rename_i hk
    rw[if_pos hk]at hF1
    exact h.name s hF1
   ·exact⟨rfl,h⟩
  have hq:=jx0 l _ _ h1.lik hF
  exact⟨by rw[h1.eq,hq.eq],hq.lik⟩
theorem jx0:∀ (l:List Ex) (σ τ:W),Lik σ τ->jt5 (z6 σ l).2->Back (z6 σ l) (z6 τ (z6 σ l).1)
 |[],_,_,h,_=>by simp only[z6];exact⟨rfl,h⟩
 |e::l,σ,τ,h,hF=>by
  simp only[z6]at hF ⊢
  have h1:=jf7 e σ τ h ((jg9 l _).fine hF)
  have h2:=jx0 l _ _ h1.lik hF
  exact⟨by rw[h1.eq,h2.eq],h2.lik⟩
end
theorem jh5 (l:List Ex){σ τ:W}(h:Lik σ τ)(hF:jt5 (y4 exprOf σ l).2):Back (y4 exprOf σ l) (y4 exprOf τ (y4 exprOf σ l).1):=by
 rw[<-ja3]at hF
 rw[<-ja3,<-ja3]
 exact jx0 l σ τ h hF
theorem Lik.fresh {σ τ:W}(h:Lik σ τ):(freshOf τ).1=(freshOf σ).1/\Lik (freshOf σ).2 (freshOf τ).2:=by
 have hc:=kp7 h.has
 have hg:=grow_fresh σ
 refine⟨?_,?_,?_,?_,?_,?_⟩
 ·unfold freshOf
  dsimp only
  rw[h.count,hc]
 ·have:=h.env.mono (hg.lo h.pos)
  exact this
 ·unfold freshOf
  dsimp only
  rw[h.count,hc]
 ·have:=hg.lo h.pos
  have:=h.pos
  omega
 ·exact h.ev
 ·exact h.has
theorem Lik.typed {σ τ:W}(h:Lik σ τ)(t:Ty)(hF:jt5 (typedOf σ t).2):Back (typedOf σ t) (typedOf τ (typedOf σ t).1)/\(t.proto≠ByteArray.empty->la τ.env (typedOf σ t).1.proto=la σ.env t.proto)/\((typedOf σ t).1.proto=ByteArray.empty↔t.proto=ByteArray.empty):=by
 unfold typedOf at hF ⊢
 by_cases ht:t.proto=ByteArray.empty
 ·rw[if_pos ht,if_pos ht]
  exact⟨⟨rfl,h⟩,fun h=>absurd ht h,.rfl⟩
 ·rw[if_neg ht]at hF ⊢
  dsimp only at hF ⊢
  have h1:=h.name t.proto hF
  have h2:(nameOf σ t.proto).1≠ByteArray.empty/\la τ.env (nameOf σ t.proto).1=la σ.env t.proto:=by
   unfold nameOf at hF ⊢
   cases h3:(σ.env t.proto).getLast? with
   |some x=>
    dsimp only
    obtain⟨k,h4,_⟩:=h.env.num _ x h3
    refine⟨by rw[h4];exact kl8 k,?_⟩
    rw[h.env.here _ x h3]
    exact h3.symm
   |none=>
    rw[h3]at hF
    dsimp only at hF ⊢
    refine⟨ht,?_⟩
    have hs:=hF (t.proto,false) (by simp[step])
    rw[show la σ.env t.proto=none from h3]
    cases h5:la τ.env t.proto with
    |none=>rfl
    |some x=>
     obtain⟨k,h6,_,h7⟩:=h.env.new _ x h5
     rw[h6]at hs
     exact absurd hs.2 h7
  rw[if_neg h2.1]
  exact⟨⟨by dsimp only;rw[h1.eq],h1.lik⟩,fun _=>h2.2,fun h=>absurd h h2.1,fun h=>absurd h ht⟩
def Incr (has:ByteArray->Prop):Int->List Ent->Int->Prop
 |c,[],d=>c<=d
 |c,x::l,d=>∃ k:Nat,x.fresh=newName k/\c<k/\¬has (newName k)/\Incr has k l d
theorem Incr.le {has:ByteArray->Prop}:∀ {l:List Ent} {c d:Int},Incr has c l d->c<=d
 |[],_,_,h=>h
 |_::l,_,_,⟨k,_,h1,_,h2⟩=>by have:=Incr.le h2;omega
theorem Incr.mono {has:ByteArray->Prop}{l:List Ent}{c c' d:Int}(h:Incr has c l d)(hc:c'<=c):Incr has c' l d:=by
 cases l with
 |nil=>exact Int.le_trans hc h
 |cons x l=>obtain⟨k,h1,h2,h3,h4⟩:=h;exact⟨k,h1,by omega,h3,h4⟩
theorem Incr.up {has:ByteArray->Prop}:∀ {l:List Ent} {c d d':Int},Incr has c l d->d<=d'->Incr has c l d'
 |[],_,_,_,h,h'=>Int.le_trans h h'
 |_::l,_,_,_,⟨k,h1,h2,h3,h4⟩,h'=>⟨k,h1,h2,h3,Incr.up h4 h'⟩
theorem jt6 (σ:W)(h:0<=σ.count):∃ k:Nat,(freshOf σ).1=newName k/\σ.count<k/\¬σ.has (newName k)/\(freshOf σ).2.count=k:=by
 unfold freshOf
 dsimp only
 exact⟨_,rfl,by omega,skip_free σ _,rfl⟩
theorem jm6:∀ (l:List (Bool × List ByteArray)) (σ:W),0<=σ.count->Incr σ.has σ.count (declOf σ l).1 (declOf σ l).2.count
 |[],σ,_=>Int.le_refl _
 |x::l,σ,h=>by
  obtain⟨k,h1,h2,h3,h4⟩:=jt6 σ h
  have h5:=jm6 l (freshOf σ).2 (by omega)
  rw[h4]at h5
  exact⟨k,h1,h2,h3,h5⟩
theorem LikE.push1 {has:ByteArray->Prop}{c:Int}{f g:ByteArray->List Ent}(h:LikE has c f g)(s:ByteArray)(x:Ent){k:Nat}(hk:c<k)(hx:x.fresh=newName k)(hn:¬has (newName k))(ht:∀ t∈x.tags,has t):
 LikE has k (fun t=>if t=s then f t++[x] else f t) (fun t=>if t=x.fresh then g t++[x] else g t):=by
 have e1:∀ t,la (fun t=>if t=s then f t++[x] else f t) t=if t=s then some x else la f t:=fun t=>by
  unfold la
  dsimp only
  split
  ·exact List.getLast?_concat
  ·rfl
 have e2:∀ t,la (fun t=>if t=x.fresh then g t++[x] else g t) t=if t=x.fresh then some x else la g t:=fun t=>by
  unfold la
  dsimp only
  split
  ·exact List.getLast?_concat
  ·rfl
 refine⟨fun t y hy=>?_,fun t y hy=>?_,fun t y hy=>?_,fun t y hy=>?_⟩
 ·rw[e1]at hy
  rw[e2]
  split at hy
  ·cases hy
   rw[if_pos rfl]
  ·obtain⟨j,h1,h2,_⟩:=h.num t y hy
   rw[if_neg fun e=>by
    rw[h1,hx]at e
    have:=jl1 e
    omega]
   exact h.here t y hy
 ·rw[e1]at hy
  split at hy
  ·cases hy
   exact⟨k,hx,Int.le_refl _,hn⟩
  ·obtain⟨j,h1,h2,h3⟩:=h.num t y hy
   exact⟨j,h1,by omega,h3⟩
 ·rw[e2]at hy
  split at hy
  ·rename_i e
   exact⟨k,e.trans hx,Int.le_refl _,hn⟩
  ·obtain⟨j,h1,h2,h3⟩:=h.new t y hy
   exact⟨j,h1,by omega,h3⟩
 ·rw[e1]at hy
  split at hy
  ·cases hy
   exact ht
  ·exact h.tags t y hy
theorem LikE.push {has:ByteArray->Prop}:∀ (ns:List ByteArray) {xs:List Ent} {c d:Int} {f g:ByteArray->List Ent},ns.length=xs.length->LikE has c f g->Incr has c xs d->(∀ x∈xs,∀ t∈x.tags,has t)->LikE has d (pushE f ns xs) (pushE g (xs.map (·.fresh)) xs)
 |[],[],_,_,_,_,_,h,hi,_=>h.mono hi
 |[],_::_,_,_,_,_,hl,_,_,_=>by cases hl
 |_::_,[],_,_,_,_,hl,_,_,_=>by cases hl
 |s::ns,x::xs,c,d,f,g,hl,h,⟨k,h1,h2,h3,h4⟩,ht=>by
  simp only[pushE,List.map_cons]
  exact LikE.push ns (by simpa using hl) (h.push1 s x h2 h1 h3 (ht x List.mem_cons_self)) h4 fun y hy=>ht y (List.mem_cons_of_mem _ hy)
theorem mc1 {has:ByteArray->Prop}:∀ {l:List Ent} {c d:Int},Incr has c l d->∀ x∈l,∃ k:Nat,x.fresh=newName k/\c<k/\(k:Int)<=d/\¬has (newName k)
 |_::l,_,_,⟨k,h1,h2,h3,h4⟩,x,hx=>by
  rcases List.mem_cons.1 hx with rfl|hx
  ·exact⟨k,h1,h2,h4.le,h3⟩
  ·obtain⟨j,h5,h6,h7,h8⟩:=mc1 h4 x hx
   exact⟨j,h5,by omega,h7,h8⟩
theorem jx1 {has:ByteArray->Prop}:∀ {l:List Ent} {c d:Int},Incr has c l d->(l.map (·.fresh)).Nodup
 |[],_,_,_=>List.nodup_nil
 |x::l,_,_,⟨k,h1,h2,h3,h4⟩=>by
  rw[List.map_cons,List.nodup_cons]
  refine⟨fun hm=>?_,jx1 h4⟩
  obtain⟨y,hy,e⟩:=List.mem_map.1 hm
  obtain⟨j,h5,h6,_⟩:=mc1 h4 y hy
  rw[h5,h1]at e
  have:=jl1 e
  omega
theorem ke7 (σ:W)(l:List ByteArray)(h:l.Nodup):twiceOf σ l=σ:=by
 unfold twiceOf
 rw[List.filter_eq_nil_iff.2,List.map_nil,List.append_nil]
 intro i hi ha
 rw[List.mem_range]at hi
 rw[List.any_eq_true]at ha
 obtain⟨x,hx,e⟩:=ha
 rw[isB_iff,List.getD_eq_getElem?_getD,List.getElem?_eq_getElem hi]at e
 simp only[Option.getD_some]at e
 obtain⟨j,hj,rfl⟩:=List.mem_iff_getElem.1 hx
 rw[List.length_take]at hj
 rw[List.getElem_take]at e
 have:=List.getElem_inj h |>.1 e
 omega
theorem kl9 (σ:W)(l:List ByteArray)(h:jt5 (twiceOf σ l)):twiceOf σ l=σ:=by
 unfold twiceOf at h ⊢
 cases hm:((List.range l.length).filter fun i=>(l.take i).any (isB (l.getD i ByteArray.empty))).map fun i=>(l.getD i ByteArray.empty,true) with
 |nil=>rw[List.append_nil]
 |cons e r=>
  rw[hm]at h
  have h1:=h e (by simp)
  have:e∈((List.range l.length).filter fun i=>(l.take i).any (isB (l.getD i ByteArray.empty))).map fun i=>(l.getD i ByteArray.empty,true):=by rw[hm];exact List.mem_cons_self
  obtain⟨i,_,rfl⟩:=List.mem_map.1 this
  cases h1.1
theorem ke8:∀ (l:List (Bool × List ByteArray)) (σ τ:W),Lik σ τ->Back (declOf σ l) (declOf τ l)
 |[],_,_,h=>⟨rfl,h⟩
 |x::l,σ,τ,h=>by
  have h1:=h.fresh
  have h2:=ke8 l _ _ h1.2
  simp only[declOf]
  exact⟨by rw[h1.1,h2.eq],h2.lik⟩
structure TyL (f g:ByteArray->List Ent)(t t':Ty):Prop where
 kind:t'.kind=t.kind
 none:t'.proto=ByteArray.empty↔t.proto=ByteArray.empty
 la:t.proto≠ByteArray.empty->la g t'.proto=la f t.proto
theorem TyL.carried {f g:ByteArray->List Ent}{t t':Ty}(h:TyL f g t t'):carriedOf g t'=carriedOf f t:=by
 unfold carriedOf
 rw[h.kind]
 by_cases h1:t.proto=ByteArray.empty
 ·rw[if_neg (fun h2=>h2.2 (h.none.2 h1)),if_neg (fun h2=>h2.2 h1)]
 ·have h2:¬t'.proto=ByteArray.empty:=fun h2=>h1 (h.none.1 h2)
  have h3:=h.la h1
  unfold Sc.la at h3
  rw[h3]
  simp only[h1,h2,ne_eq,not_false_eq_true]
theorem Lik.typedL {σ τ:W}(h:Lik σ τ)(t:Ty)(hF:jt5 (typedOf σ t).2):Back (typedOf σ t) (typedOf τ (typedOf σ t).1)/\TyL σ.env τ.env t (typedOf σ t).1:=by
 obtain⟨h1,h2,h3⟩:=h.typed t hF
 refine⟨h1,?_,h3,h2⟩
 unfold typedOf
 split<;>rfl
theorem named_len:∀ (l:List Fo) (ns:List ByteArray),ns.length=l.length->(named l ns).length=l.length
 |[],[],_=>rfl
 |[],_::_,h=>by cases h
 |_::_,[],h=>by cases h
 |f::l,n::ns,h=>by simp only[named,List.length_cons,named_len l ns (by simpa using h)]
theorem jr1:∀ (l:List Fo) (ns:List ByteArray),ns.length=l.length->(named l ns).map (·.name)=ns
 |[],[],_=>rfl
 |[],_::_,h=>by cases h
 |_::_,[],h=>by cases h
 |f::l,n::ns,h=>by simp only[named,List.map_cons,jr1 l ns (by simpa using h)]
theorem ke9:∀ (l:List Fo) (ns:List ByteArray),ns.length=l.length->named (named l ns) ns=named l ns
 |[],[],_=>rfl
 |[],_::_,h=>by cases h
 |_::_,[],h=>by cases h
 |f::l,n::ns,h=>by simp only[named,ke9 l ns (by simpa using h)]
theorem jy7:∀ (l:List Fo) (σ τ:W) (ns:List ByteArray),Lik σ τ->jt5 (y4 formalOf σ l).2->ns.length=l.length->
 (y4 formalOf τ (named (y4 formalOf σ l).1 ns)).1=named (y4 formalOf σ l).1 ns/\Lik (y4 formalOf σ l).2 (y4 formalOf τ (named (y4 formalOf σ l).1 ns)).2/\
   ((named (y4 formalOf σ l).1 ns).map fun f=>(false,carriedOf τ.env f.type))=l.map fun f=>(false,carriedOf σ.env f.type)
 |[],σ,τ,[],h,_,_=>⟨rfl,h,rfl⟩
 |[],_,_,_::_,_,_,hl=>by cases hl
 |_::_,_,_,[],_,_,hl=>by cases hl
 |f::l,σ,τ,n::ns,h,hF,hl=>by
  simp only[y4]at hF ⊢
  have hg:=grow_map (fun _=>1) (fun f σ=>grow_formal σ f) l (formalOf σ f).2
  obtain⟨h1,h2⟩:=h.typedL f.type (hg.fine hF)
  obtain⟨h3,h4,h5⟩:=jy7 l (formalOf σ f).2 (typedOf τ (typedOf σ f.type).1).2 ns h1.lik hF (by simpa using hl)
  simp only[named,y4,List.map_cons]
  have e1:formalOf τ {formalOf σ f |>.1 with name:=n}=({(formalOf σ f).1 with name:=n},(typedOf τ (typedOf σ f.type).1).2):=by
   unfold formalOf
   dsimp only
   rw[h1.eq]
  rw[e1]
  refine⟨by rw[h3],h4,?_⟩
  have e2:(formalOf σ f).1.type=(typedOf σ f.type).1:=rfl
  have e3:(formalOf σ f).2.env=σ.env:=(grow_formal σ f).env
  have e4:(typedOf τ (typedOf σ f.type).1).2.env=τ.env:=(grow_typed τ _).env
  rw[e2,h2.carried]
  rw[e3,e4]at h5
  rw[h5]
theorem kx3 {α β γ:Type}(T:γ):∀ (l:List α) (m:List β),l.length=m.length->(l.map fun _=>T)=m.map fun _=>T
 |[],[],_=>rfl
 |[],_::_,h=>by cases h
 |_::_,[],h=>by cases h
 |_::l,_::m,h=>by simp only[List.map_cons,kx3 T l m (by simpa using h)]
def Head.sp (a:Head)(sk:Int)(spp:Pt):Sp:=.mk sk a.type a.names a.e spp a.formals []
structure HeadBack (σ:W)(a b:Head × W)(sn:List ByteArray)(sf:List Fo):Prop where
 eq:b.1=a.1
 lik:Lik a.2 b.2
 ownL:sn.length=a.1.own.length
 innerL:sf.length=a.1.inner.length
 names:a.1.names=a.1.own.map (·.fresh)
 fnames:a.1.formals.map (·.name)=a.1.inner.map (·.fresh)
 mid:∃ c,Incr σ.has σ.count a.1.own c/\Incr σ.has c a.1.inner a.2.count
 tags:∀ x,x∈a.1.own\/x∈a.1.inner->∀ t∈x.tags,σ.has t
theorem jy8 {has:ByteArray->Prop}{f:ByteArray->List Ent}(h:∀ s x,la f s=some x->∀ t∈x.tags,has t)(t:Ty):∀ s∈carriedOf f t,has s:=by
 unfold carriedOf
 split
 ·cases h1:(f t.proto).getLast? with
  |none=>intro s hs;cases hs
  |some x=>
   dsimp only
   split
   ·exact h t.proto x h1
   ·intro s hs;cases hs
 ·intro s hs;cases hs
theorem kf0 {has:ByteArray->Prop}:∀ (l:List (Bool × List ByteArray)) (σ:W),(∀ x∈l,∀ t∈x.2,has t)->∀ x∈(declOf σ l).1,∀ t∈x.tags,has t
 |[],_,_,x,hx=>by cases hx
 |y::l,σ,h,x,hx=>by
  simp only[declOf]at hx
  rcases List.mem_cons.1 hx with rfl|hx
  ·exact h y List.mem_cons_self
  ·exact kf0 l _ (fun z hz=>h z (List.mem_cons_of_mem _ hz)) x hx
theorem Lik.head {σ τ:W}(h:Lik σ τ)(sk:Int)(st:Ty)(sn:List ByteArray)(se:Ex)(spp:Pt)(sf:List Fo)(hF:jt5 (headOf σ (.mk sk st sn se spp sf [])).2)(htg:∀ v∈spp.l,σ.has v.tag):
 HeadBack σ (headOf σ (.mk sk st sn se spp sf [])) (headOf τ ((headOf σ (.mk sk st sn se spp sf [])).1.sp sk spp)) sn sf:=by
 unfold headOf Head.sp at *
 dsimp only[Sp.names,Sp.formals,Sp.type,Sp.e,Sp.kind]at *
 have g1:=grow_twice σ sn
 have g2:=grow_decl (sn.map fun _=>ownTags σ.env (.mk sk st sn se spp sf [])) (twiceOf σ sn)
 have n2:=decl_len (sn.map fun _=>ownTags σ.env (.mk sk st sn se spp sf [])) (twiceOf σ sn)
 have i2:=jm6 (sn.map fun _=>ownTags σ.env (.mk sk st sn se spp sf [])) (twiceOf σ sn) h.pos
 have t2:=kf0 (has:=σ.has) (sn.map fun _=>ownTags σ.env (.mk sk st sn se spp sf [])) (twiceOf σ sn) (fun x hx=>by
  obtain⟨_,_,rfl⟩:=List.mem_map.1 hx
  unfold ownTags
  split
  ·dsimp only
   unfold protoTags
   split
   ·intro t ht
    obtain⟨v,hv,rfl⟩:=List.mem_map.1 ht
    exact htg v hv
   ·intro t ht;cases ht
  ·exact jy8 h.env.tags st)
 have b2:=ke8 (sn.map fun _=>ownTags σ.env (.mk sk st sn se spp sf [])) (twiceOf σ sn)
 generalize declOf (twiceOf σ sn) (sn.map fun _=>ownTags σ.env (.mk sk st sn se spp sf []))=o at g2 n2 i2 t2 b2 hF ⊢
 have g3:=grow_twice o.2 (sf.map (·.name))
 have g4:=grow_decl (sf.map fun f=>(false,carriedOf σ.env f.type)) (twiceOf o.2 (sf.map (·.name)))
 have n4:=decl_len (sf.map fun f=>(false,carriedOf σ.env f.type)) (twiceOf o.2 (sf.map (·.name)))
 have i4:=jm6 (sf.map fun f=>(false,carriedOf σ.env f.type)) (twiceOf o.2 (sf.map (·.name))) (by have:=g2.lo h.pos;have:=h.pos;dsimp only[twiceOf]at *;omega)
 have t4:=kf0 (has:=σ.has) (sf.map fun f=>(false,carriedOf σ.env f.type)) (twiceOf o.2 (sf.map (·.name))) (fun x hx=>by
  obtain⟨f,_,rfl⟩:=List.mem_map.1 hx
  exact jy8 h.env.tags f.type)
 have b4:=ke8 (sf.map fun f=>(false,carriedOf σ.env f.type)) (twiceOf o.2 (sf.map (·.name)))
 generalize declOf (twiceOf o.2 (sf.map (·.name))) (sf.map fun f=>(false,carriedOf σ.env f.type))=i at g4 n4 i4 t4 b4 hF ⊢
 have g5:=grow_typed i.2 st
 have b5:=fun(τ:W) (h:Lik i.2 τ)=>h.typedL st
 generalize typedOf i.2 st=t at g5 b5 hF ⊢
 have g6:=grow_map (fun _=>1) (fun f σ=>grow_formal σ f) sf t.2
 have b6:=jy7 sf t.2
 have n6:=p9 formalOf sf t.2
 generalize y4 formalOf t.2 sf=f at g6 b6 n6 hF ⊢
 have g7:=grow_expr se f.2
 have b7:=jf7 se f.2
 generalize exprOf f.2 se=e at g7 b7 hF ⊢
 simp only[List.length_map]at n2 n4
 have F6:=g7.fine hF
 have F5:=g6.fine F6
 have F4:=g5.fine F5
 have F3:=g4.fine F4
 have F2:=g3.fine F3
 have F1:=g2.fine F2
 have e1:=kl9 _ _ F1
 have e3:=kl9 _ _ F3
 rw[e1]at g2 i2 b2
 rw[e3]at g4 i4 b4
 have q2:(o.1.map (·.fresh)).Nodup:=jx1 i2
 have q4:(i.1.map (·.fresh)).Nodup:=jx1 i4
 have l2:=b2 τ h
 have l4:=b4 _ l2.lik
 have l5:=b5 _ l4.lik F5
 have en:i.2.env=σ.env:=g4.env.trans g2.env
 have en2:t.2.env=σ.env:=g5.env.trans en
 have hin:(i.1.map (·.fresh)).length=sf.length:=by rw[List.length_map,n4]
 have hf1:(named f.1 (i.1.map (·.fresh))).map (·.name)=i.1.map (·.fresh):=jr1 _ _ (by rw[List.length_map,n6,n4])
 obtain⟨l6,l6b,l6c⟩:=b6 _ (i.1.map (·.fresh)) l5.1.lik F6 hin
 have l7:=b7 _ l6b hF
 have et:(declOf τ (sn.map fun _=>ownTags σ.env (.mk sk st sn se spp sf []))).2.env=τ.env:=(grow_decl _ _).env
 have ei:(declOf (declOf τ (sn.map fun _=>ownTags σ.env (.mk sk st sn se spp sf []))).2 (sf.map fun f=>(false,carriedOf σ.env f.type))).2.env=τ.env:=(grow_decl _ _).env.trans et
 have el:TyL σ.env τ.env st t.1:=by
  have:=l5.2
  rw[en,ei]at this
  exact this
 have eo:ownTags τ.env (.mk sk t.1 (o.1.map (·.fresh)) e.1 spp (named f.1 (i.1.map (·.fresh))) [])=ownTags σ.env (.mk sk st sn se spp sf []):=by
  unfold ownTags protoTags
  dsimp only[Sp.kind,Sp.type,Sp.proto]
  rw[el.carried]
  rfl
 have ec:((named f.1 (i.1.map (·.fresh))).map fun f=>(false,carriedOf τ.env f.type))=sf.map fun f=>(false,carriedOf σ.env f.type):=by
  have h5:(typedOf (declOf (declOf τ (sn.map fun _=>ownTags σ.env (.mk sk st sn se spp sf []))).2 (sf.map fun f=>(false,carriedOf σ.env f.type))).2 t.1).2.env=τ.env:=(grow_typed _ _).env.trans ei
  rw[h5,en2]at l6c
  exact l6c
 rw[eo,ec,hf1,ke7 _ _ q2,kx3 (ownTags σ.env (.mk sk st sn se spp sf [])) (o.1.map (·.fresh)) sn (by rw[List.length_map,n2]),ke7 _ _ (by exact q4)]
 have m:∀ x,x∈o.1\/x∈i.1->∀ t∈x.tags,σ.has t:=fun x hx=>hx.elim (t2 x) (t4 x)
 refine⟨?_,l7.lik,n2.symm,n4.symm,rfl,hf1,⟨o.2.count,i2,?_⟩,m⟩
 ·rw[l2.eq,l4.eq,l5.1.eq,l6,l7.eq,ke9 _ _ (by rw[List.length_map,n6,n4])]
 ·have h8:=i4.up (d':=e.2.count) (by
   have p1:=g2.lo h.pos
   have p2:=g4.lo (by have:=h.pos;omega)
   have p3:=g5.lo (by have:=h.pos;omega)
   have p4:=g6.lo (by have:=h.pos;omega)
   have p5:=g7.lo (by have:=h.pos;omega)
   omega)
  have hh:o.2.has=σ.has:=by unfold W.has;rw[g2.tk]
  rw[hh]at h8
  exact h8
theorem Lik.la {σ τ:W}(h:Lik σ τ)(s:ByteArray)(hF:jt5 (nameOf σ s).2):la τ.env (nameOf σ s).1=la σ.env s:=by
 unfold nameOf at hF ⊢
 cases h3:(σ.env s).getLast? with
 |some x=>
  dsimp only
  rw[h.env.here _ x h3]
  exact h3.symm
 |none=>
  rw[h3]at hF
  dsimp only at hF ⊢
  have hs:=hF (s,false) (by simp[step])
  rw[show Sc.la σ.env s=none from h3]
  cases h5:Sc.la τ.env s with
  |none=>rfl
  |some x=>
   obtain⟨k,h6,_,h7⟩:=h.env.new _ x h5
   rw[h6]at hs
   exact absurd hs.2 h7
theorem qj2 (tag:Bool)(l:List Ex){σ τ:W}(h:Lik σ τ)(hF:jt5 (outOf tag σ l).2):Back (outOf tag σ l) (outOf tag τ (outOf tag σ l).1):=by
 cases l with
 |nil=>exact⟨rfl,h⟩
 |cons e l=>
  cases tag with
  |true=>
   simp only[outOf,if_true]at hF ⊢
   have h1:=jh5 l h hF
   exact⟨by rw[h1.eq],h1.lik⟩
  |false=>
   have e1:∀ (υ:W) (x:Ex) (r:List Ex),outOf false υ (x::r)=y4 exprOf υ (x::r):=fun _ _ _=>rfl
   rw[e1]at hF ⊢
   have h1:=jh5 (e::l) h hF
   rw[show(y4 exprOf σ (e::l)).1=(exprOf σ e).1::(y4 exprOf (exprOf σ e).2 l).1 from rfl]at h1 ⊢
   rw[e1]
   exact h1
structure RepBack (σ:W)(a b:(Rp × List Ent) × W)(r:Rp):Prop where
 eq:b.1=a.1
 lik:Lik a.2 b.2
 num:Incr σ.has σ.count a.1.2 a.2.count
 len:(if r.name=ByteArray.empty then [] else [r.name]).length=a.1.2.length
 names:(if a.1.1.name=ByteArray.empty then [] else [a.1.1.name])=a.1.2.map (·.fresh)
 tags:∀ x∈a.1.2,x.tags=[]
 none:r.name=ByteArray.empty->a.1=(r,[])
theorem Lik.rep {σ τ:W}(h:Lik σ τ)(r:Rp)(hF:jt5 (repOf σ r).2):RepBack σ (repOf σ r) (repOf τ (repOf σ r).1.1) r:=by
 unfold repOf at hF ⊢
 by_cases hr:r.name=ByteArray.empty
 ·rw[if_pos hr,if_pos hr]
  exact⟨rfl,h,Int.le_refl _,by rw[if_pos hr];rfl,by rw[if_pos hr];rfl,fun x hx=>(by cases hx),fun _=>rfl⟩
 ·rw[if_neg hr]at hF ⊢
  dsimp only at hF ⊢
  obtain⟨k,k1,k2,k3,k4⟩:=jt6 σ h.pos
  have hn:¬(freshOf σ).1=ByteArray.empty:=by rw[k1];exact kl8 k
  rw[if_neg hn]
  have h1:=h.fresh
  have g2:=grow_expr r.base (freshOf σ).2
  have g3:=grow_expr r.count (exprOf (freshOf σ).2 r.base).2
  have h2:=jf7 r.base _ _ h1.2 (g3.fine hF)
  have h3:=jf7 r.count _ _ h2.lik hF
  have p2:=g2.lo (by rw[k4];omega)
  have p3:=g3.lo (by have:=h.pos;omega)
  exact⟨by rw[h1.1,h2.eq,h3.eq],h3.lik,⟨k,k1,k2,k3,by show(k:Int)<=_;dsimp only;omega⟩,by rw[if_neg hr];rfl,by rw[if_neg hn];rfl,fun x hx=>by rw[List.mem_singleton.1 hx],fun h=>absurd h hr⟩
theorem Lik.ghead {σ τ:W}(h:Lik σ τ)(cond chan:Ex)(targets values:List Ex)(time:Ex)(hF:jt5 (gheadOf σ cond chan targets values time).2):
 Back (gheadOf σ cond chan targets values time) (gheadOf τ (gheadOf σ cond chan targets values time).1.cond (gheadOf σ cond chan targets values time).1.chan (gheadOf σ cond chan targets values time).1.targets (gheadOf σ cond chan targets values time).1.values (gheadOf σ cond chan targets values time).1.time):=by
 unfold gheadOf at *
 dsimp only at *
 have g2:=grow_expr chan (exprOf σ cond).2
 have g3:=grow_exprs2 targets (exprOf (exprOf σ cond).2 chan).2
 have g4:=grow_exprs2 values (y4 exprOf (exprOf (exprOf σ cond).2 chan).2 targets).2
 have g5:=grow_expr time (y4 exprOf (y4 exprOf (exprOf (exprOf σ cond).2 chan).2 targets).2 values).2
 have F4:=g5.fine hF
 have F3:=g4.fine F4
 have F2:=g3.fine F3
 have F1:=g2.fine F2
 have ha:=jf7 cond _ _ h F1
 have hb:=jf7 chan _ _ ha.lik F2
 have hc:=jh5 targets hb.lik F3
 have hd:=jh5 values hc.lik F4
 have he:=jf7 time _ _ hd.lik hF
 exact⟨by rw[ha.eq,hb.eq,hc.eq,hd.eq,he.eq],he.lik⟩
def mg3 (kind:Int)(chan:Ex)(exprs:List Ex)(rep:Rp):Prop:=((kind=18->rep.name=ByteArray.empty)/\(rep.name=ByteArray.empty->rep=rp0))/\(kind=5->exprs≠[]/\exNamed chan.kind=true/\∀ e∈exprs.head?,e.kind=4->e.l=[])
theorem mc2 (σ:W)(e:Ex):(exprOf σ e).1.kind=e.kind:=by cases e;simp only[exprOf,Ex.kind]
theorem mg4 (σ:W)(e:Ex):(exprOf σ e).1.s=if exNamed e.kind then (nameOf σ e.s).1 else e.s:=by
 obtain⟨kind,op,ty,n,s,l⟩:=e
 simp only[exprOf,Ex.s,Ex.kind]
 by_cases h:exNamed kind=true
 ·simp[h]
 ·simp[h]
theorem ml2 {σ:W}{e:Ex}(hk:exNamed e.kind=true)(hF:jt5 (exprOf σ e).2):jt5 (nameOf σ e.s).2:=by
 obtain⟨kind,op,ty,n,s,l⟩:=e
 simp only[exprOf,Ex.kind,Ex.s]at *
 have:=(jg9 l _).fine hF
 rw[if_pos hk]at this
 exact this
theorem Lik.tagged {σ τ σ1 σ2:W}(h:Lik σ τ){kind:Int}{chan:Ex}{exprs:List Ex}{rep:Rp}(hok:mg3 kind chan exprs rep)(e1:σ1.env=σ.env)(e2:σ2.env=σ.env)(h1:σ1.has=σ.has)(h2:σ2.has=σ.has)
 (hc:Sc.la τ.env (exprOf σ1 chan).1.s=Sc.la σ.env chan.s\/kind≠5) (hnum:∀ s x,Sc.la σ2.env s=some x->∃ k:Nat,x.fresh=newName k/\¬σ.has (newName k)):
 taggedB τ.env kind (exprOf σ1 chan).1 (outOf (taggedB σ.env kind chan exprs) σ2 exprs).1=taggedB σ.env kind chan exprs:=by
 by_cases hk:kind=5
 ·have hc:=hc.resolve_right (fun h=>h hk)
  cases exprs with
  |nil=>exact absurd rfl (hok.2 hk).1
  |cons e l=>
   cases ht:taggedB σ.env kind chan (e::l) with
   |true=>
    simp only[outOf,if_true]
    unfold taggedB at ht ⊢
    rw[if_pos hk]at ht ⊢
    dsimp only at ht ⊢
    unfold Sc.la at hc
    rw[hc]
    exact ht
   |false=>
    rw[show(outOf false σ2 (e::l)).1=(exprOf σ2 e).1::(y4 exprOf (exprOf σ2 e).2 l).1 from rfl]
    unfold taggedB at ht ⊢
    rw[if_pos hk]at ht ⊢
    dsimp only at ht ⊢
    unfold Sc.la at hc
    rw[hc,mc2]
    cases hx:(σ.env chan.s).getLast? with
    |none=>rw[Bool.and_false]
    |some x=>
     rw[hx]at ht
     dsimp only at ht ⊢
     by_cases hk4:e.kind=4
     ·rw[decide_eq_true hk4,Bool.true_and]at ht ⊢
      rw[mg4,if_pos (show exNamed e.kind=true by rw[hk4];rfl)]
      unfold nameOf
      cases hy:(σ2.env e.s).getLast? with
      |none=>exact ht
      |some y=>
       dsimp only
       obtain⟨k,k1,k2⟩:=hnum _ y hy
       rw[k1]
       have:(x.tags.any (isB (newName k)))=false:=by
        rw[Bool.eq_false_iff]
        intro ha
        rw[List.any_eq_true]at ha
        obtain⟨t,ht,e⟩:=ha
        rw[isB_iff]at e
        rw[e]at ht
        exact k2 (h.env.tags _ x hx _ ht)
       rw[this,Bool.and_false]
     ·rw[decide_eq_false hk4,Bool.false_and]
 ·unfold taggedB
  rw[if_neg hk,if_neg hk]
structure PBack (σ:W)(a b:PHead × W)(r:Rp):Prop where
 eq:b.1=a.1
 lik:Lik a.2 b.2
 num:Incr σ.has σ.count a.1.own a.2.count
 len:(if r.name=ByteArray.empty then [] else [r.name]).length=a.1.own.length
 names:(if a.1.rep.name=ByteArray.empty then [] else [a.1.rep.name])=a.1.own.map (·.fresh)
 tags:∀ x∈a.1.own,x.tags=[]
 none:r.name=ByteArray.empty->a.1.rep=r/\a.1.own=[]
theorem Lik.phead {σ τ:W}(h:Lik σ τ)(kind:Int)(name:ByteArray)(chan:Ex)(targets exprs:List Ex)(rep:Rp)(hok:mg3 kind chan exprs rep)(hF:jt5 (pheadOf σ kind name chan targets exprs rep).2):
 PBack σ (pheadOf σ kind name chan targets exprs rep) (pheadOf τ kind (pheadOf σ kind name chan targets exprs rep).1.name (pheadOf σ kind name chan targets exprs rep).1.chan (pheadOf σ kind name chan targets exprs rep).1.targets (pheadOf σ kind name chan targets exprs rep).1.exprs (pheadOf σ kind name chan targets exprs rep).1.rep) rep:=by
 have ga:Grow σ (if kind=17 then nameOf σ name else (name,σ)).2 1:=by
  split
  ·exact grow_name σ name
  ·exact Grow.refl _ _
 have ba:jt5 (if kind=17 then nameOf σ name else (name,σ)).2->Back (if kind=17 then nameOf σ name else (name,σ)) (if kind=17 then nameOf τ (if kind=17 then nameOf σ name else (name,σ)).1 else ((if kind=17 then nameOf σ name else (name,σ)).1,τ)):=by
  intro hF
  split
  ·rename_i hk
   rw[if_pos hk]at hF
   exact h.name name hF
  ·exact⟨rfl,h⟩
 unfold pheadOf at *
 dsimp only at *
 generalize (if kind=17 then nameOf σ name else (name,σ))=a at ga ba hF ⊢
 have gc:=grow_expr chan a.2
 have gt:=grow_exprs2 targets (exprOf a.2 chan).2
 have gx:=grow_out (taggedB σ.env kind chan exprs) (y4 exprOf (exprOf a.2 chan).2 targets).2 exprs
 have gr:=mf3 (outOf (taggedB σ.env kind chan exprs) (y4 exprOf (exprOf a.2 chan).2 targets).2 exprs).2 rep
 have F4:=gr.fine hF
 have F3:=gx.fine F4
 have F2:=gt.fine F3
 have F1:=gc.fine F2
 have ha:=ba F1
 have hc:=jf7 chan _ _ ha.lik F2
 have ht:=jh5 targets hc.lik F3
 have htag:taggedB τ.env kind (exprOf a.2 chan).1 (outOf (taggedB σ.env kind chan exprs) (y4 exprOf (exprOf a.2 chan).2 targets).2 exprs).1=taggedB σ.env kind chan exprs:=by
  have e2:=(gt.env.trans gc.env).trans ga.env
  refine h.tagged (rep:=rep) hok ga.env e2 (by unfold W.has;rw[ga.tk]) (by unfold W.has;rw[gt.tk,gc.tk,ga.tk]) ?_ fun s x hx=>?_
  ·by_cases hk:kind=5
   ·refine .inl ?_
    have hn:=(hok.2 hk).2.1
    have:=ha.lik.la chan.s (ml2 hn F2)
    rw[mg4,if_pos hn]
    have ht:(if kind=17 then nameOf τ a.1 else (a.1,τ)).2.env=τ.env:=by
     rw[if_neg (by omega)]
    rw[ht,ga.env]at this
    exact this
   ·exact .inr hk
  ·rw[e2]at hx
   obtain⟨k,h1,_,h3⟩:=h.env.num s x hx
   exact⟨k,h1,h3⟩
 rw[htag]
 have hx:=qj2 (taggedB σ.env kind chan exprs) exprs ht.lik F4
 have hr:=hx.lik.rep rep hF
 have hh:(outOf (taggedB σ.env kind chan exprs) (y4 exprOf (exprOf a.2 chan).2 targets).2 exprs).2.has=σ.has:=by unfold W.has;rw[gx.tk,gt.tk,gc.tk,ga.tk]
 have hcn:σ.count<=(outOf (taggedB σ.env kind chan exprs) (y4 exprOf (exprOf a.2 chan).2 targets).2 exprs).2.count:=by
  have p0:=h.pos
  have p1:=ga.lo p0
  have p2:=gc.lo (by omega)
  have p3:=gt.lo (by omega)
  have p4:=gx.lo (by omega)
  omega
 have hnum:=hr.num
 rw[hh]at hnum
 refine⟨?_,hr.lik,hnum.mono hcn,hr.len,hr.names,hr.tags,fun h=>by
  have:=hr.none h
  rw[this]
  exact⟨rfl,rfl⟩⟩
 rw[ha.eq,hc.eq,ht.eq,hx.eq,hr.eq]
mutual
def okPr:Pr->Prop
 |.mk kind _ chan _ exprs rep guards l _ (.mk sk st sn se spp sf sb)=>mg3 kind chan exprs rep/\(kind≠18->Sp.mk sk st sn se spp sf sb=sp0)/\(∀ s∈sn,s≠ByteArray.empty)/\(∀ f∈sf,f.name≠ByteArray.empty)/\okPrs sb/\okGus guards/\okPrs l
def okPrs:List Pr->Prop
 |[]=>True
 |p::l=>okPr p/\okPrs l
def okGu:Gu->Prop
 |.mk _ _ _ _ _ _ _ body=>okPrs body
def okGus:List Gu->Prop
 |[]=>True
 |g::l=>okGu g/\okGus l
end
mutual
def tagsPr:Pr->List ByteArray
 |.mk _ _ _ _ _ _ guards l _ (.mk _ _ _ _ spp _ sb)=>spp.l.map (·.tag)++(tagsPrs sb++(tagsGus guards++tagsPrs l))
def tagsPrs:List Pr->List ByteArray
 |[]=>[]
 |p::l=>tagsPr p++tagsPrs l
def tagsGu:Gu->List ByteArray
 |.mk _ name _ _ _ _ _ body=>name::tagsPrs body
def tagsGus:List Gu->List ByteArray
 |[]=>[]
 |g::l=>tagsGu g++tagsGus l
end
theorem Lik.pushed {σ τ a b:W}(h:Lik σ τ)(hab:Lik a b){n:Nat}(g:a.tk=σ.tk){c d:Int}(hc:σ.count<=c){ns:List ByteArray}{xs:List Ent}(hl:ns.length=xs.length)(hi:Incr σ.has c xs d)(hd:d<=a.count)(ht:∀ x∈xs,∀ t∈x.tags,σ.has t):
 Lik {a with env:=pushE σ.env ns xs} {b with env:=pushE τ.env (xs.map (·.fresh)) xs}:=by
 refine⟨?_,hab.count,hab.pos,hab.ev,hab.has⟩
 have:=(LikE.push ns hl (h.env.mono hc) hi ht).mono hd
 show LikE a.has a.count _ _
 rwa [show a.has=σ.has by unfold W.has;rw[g]]
theorem Lik.back {σ τ a b:W}(h:Lik σ τ)(hab:Lik a b)(g:a.tk=σ.tk)(hc:σ.count<=a.count):Lik {a with env:=σ.env} {b with env:=τ.env}:=by
 refine⟨?_,hab.count,hab.pos,hab.ev,hab.has⟩
 show LikE a.has a.count _ _
 rw[show a.has=σ.has by unfold W.has;rw[g]]
 exact h.env.mono hc
mutual
theorem mw1:∀ (p:Pr) (σ τ:W),Lik σ τ->okPr p->(∀ t∈tagsPr p,σ.has t)->jt5 (prOf σ p).2->Back (prOf σ p) (prOf τ (prOf σ p).1)
 |.mk kind name chan targets exprs rep guards l procs (.mk sk st sn se spp sf sb),σ,τ,h,hok,htg,hF=>by
  simp only[okPr]at hok
  simp only[tagsPr,List.mem_append]at htg
  obtain⟨hn,_,_,_,hsb,hgu,hpl⟩:=hok
  have gh:=grow_phead σ kind name chan targets exprs rep
  have bh:=h.phead kind name chan targets exprs rep hn
  simp only[prOf]at hF ⊢
  generalize pheadOf σ kind name chan targets exprs rep=a at gh bh hF ⊢
  have p0:=h.pos
  have q1:=gh.lo p0
  by_cases hk:kind=18
  ·rw[if_pos hk]at hF ⊢
   simp only[prOf]
   rw[if_pos hk]
   have gs:=grow_head a.2 (.mk sk st sn se spp sf [])
   have bs:=fun(τ:W) (h:Lik a.2 τ)=>h.head sk st sn se spp sf
   generalize headOf a.2 (.mk sk st sn se spp sf [])=s at gs bs hF ⊢
   have q2:=gs.lo (by omega)
   have gb:=grow_prs sb {s.2 with env:=pushE σ.env (sf.map (·.name)) s.1.inner}
   have bb:=jt7 sb {s.2 with env:=pushE σ.env (sf.map (·.name)) s.1.inner}
   generalize prsOf {s.2 with env:=pushE σ.env (sf.map (·.name)) s.1.inner} sb=b at gb bb hF ⊢
   have q3:=gb.lo (by dsimp only;omega)
   have gg:=grow_gus guards {b.2 with env:=pushE σ.env sn s.1.own}
   have bg:=kq1 guards {b.2 with env:=pushE σ.env sn s.1.own}
   generalize gusOf {b.2 with env:=pushE σ.env sn s.1.own} guards=g at gg bg hF ⊢
   have q4:=gg.lo (by dsimp only at q3 ⊢;omega)
   have gm:=grow_prs l g.2
   have bm:=jt7 l g.2
   generalize prsOf g.2 l=m at gm bm hF ⊢
   have q5:=gm.lo (by dsimp only at q3 q4 ⊢;omega)
   have Fm:jt5 m.2:=hF
   have Fg:=gm.fine Fm
   have Fb:jt5 b.2:=gg.fine Fg
   have Fs:jt5 s.2:=gb.fine Fb
   have Fa:=gs.fine Fs
   have kh:∀ (υ:W),υ.tk=σ.tk->∀ s,υ.has s↔σ.has s:=fun υ e s=>by unfold W.has;rw[e]
   have ta:=gh.tk
   have ts:=gs.tk.trans ta
   have tb:b.2.tk=σ.tk:=gb.tk.trans ts
   have tg:g.2.tk=σ.tk:=gg.tk.trans tb
   have tm:=gm.tk.trans tg
   have ba:=bh Fa
   generalize pheadOf τ kind a.1.name a.1.chan a.1.targets a.1.exprs a.1.rep=a' at ba ⊢
   have bs:=bs _ ba.lik Fs fun v hv=>(kh _ ta _).2 (htg _ (.inl (List.mem_map.2 ⟨v,hv,rfl⟩)))
   have hsp:Sp.mk sk s.1.type s.1.names s.1.e spp s.1.formals []=s.1.sp sk spp:=rfl
   rw[hsp]
   generalize headOf a'.2 (s.1.sp sk spp)=s' at bs ⊢
   obtain⟨c,i1,i2⟩:=bs.mid
   have hha:a.2.has=σ.has:=by unfold W.has;rw[ta]
   rw[hha]at i1 i2
   have hc1:=i1.le
   have hc2:=i2.le
   rw[bs.eq,bs.fnames,bs.names]
   have lb:=h.pushed (n:=0) bs.lik ts (c:=c) (by omega) (ns:=sf.map (·.name)) (by rw[List.length_map];exact bs.innerL) i2 (Int.le_refl _) fun x hx t ht=>(kh _ ta _).1 (bs.tags x (.inr hx) t ht)
   have bb:=bb _ lb hsb (fun t ht=>(kh _ ts _).2 (htg t (.inr (.inl ht)))) Fb
   generalize prsOf {s'.2 with env:=pushE τ.env (s.1.inner.map (·.fresh)) s.1.inner} b.1=b' at bb ⊢
   have lg:=h.pushed (n:=0) bb.lik tb (c:=a.2.count) q1 (ns:=sn) bs.ownL i1 (by dsimp only at q3;omega) fun x hx t ht=>(kh _ ta _).1 (bs.tags x (.inl hx) t ht)
   have bg:=bg _ lg hgu (fun t ht=>(kh _ tb _).2 (htg t (.inr (.inr (.inl ht))))) Fg
   generalize gusOf {b'.2 with env:=pushE τ.env (s.1.own.map (·.fresh)) s.1.own} g.1=g' at bg ⊢
   have bm:=bm _ bg.lik hpl (fun t ht=>(kh _ tg _).2 (htg t (.inr (.inr (.inr ht))))) Fm
   generalize prsOf g'.2 m.1=m' at bm ⊢
   refine⟨?_,?_⟩
   ·dsimp only
    rw[ba.eq,bb.eq,bg.eq,bm.eq]
   ·dsimp only at q3 q4 ⊢
    exact h.back bm.lik tm (by omega)
  ·rw[if_neg hk]at hF ⊢
   simp only[prOf]
   rw[if_neg hk]
   have gg:=grow_gus guards {a.2 with env:=pushE σ.env (if rep.name=ByteArray.empty then [] else [rep.name]) a.1.own}
   have bg:=kq1 guards {a.2 with env:=pushE σ.env (if rep.name=ByteArray.empty then [] else [rep.name]) a.1.own}
   generalize gusOf {a.2 with env:=pushE σ.env (if rep.name=ByteArray.empty then [] else [rep.name]) a.1.own} guards=g at gg bg hF ⊢
   have q4:=gg.lo (by dsimp only;omega)
   have gm:=grow_prs l g.2
   have bm:=jt7 l g.2
   generalize prsOf g.2 l=m at gm bm hF ⊢
   have q5:=gm.lo (by dsimp only at q4 ⊢;omega)
   have Fm:jt5 m.2:=hF
   have Fg:=gm.fine Fm
   have Fa:jt5 a.2:=gg.fine Fg
   have kh:∀ (υ:W),υ.tk=σ.tk->∀ s,υ.has s↔σ.has s:=fun υ e s=>by unfold W.has;rw[e]
   have ta:=gh.tk
   have tg:g.2.tk=σ.tk:=gg.tk.trans ta
   have tm:=gm.tk.trans tg
   have ba:=bh Fa
   generalize pheadOf τ kind a.1.name a.1.chan a.1.targets a.1.exprs a.1.rep=a' at ba ⊢
   rw[ba.eq,ba.names]
   have lg:=h.pushed (n:=0) ba.lik ta (c:=σ.count) (Int.le_refl _) ba.len ba.num (Int.le_refl _) fun x hx t ht=>(by rw[ba.tags x hx]at ht;cases ht)
   have bg:=bg _ lg hgu (fun t ht=>(kh _ ta _).2 (htg t (.inr (.inr (.inl ht))))) Fg
   generalize gusOf {a'.2 with env:=pushE τ.env (a.1.own.map (·.fresh)) a.1.own} g.1=g' at bg ⊢
   have bm:=bm _ bg.lik hpl (fun t ht=>(kh _ tg _).2 (htg t (.inr (.inr (.inr ht))))) Fm
   generalize prsOf g'.2 m.1=m' at bm ⊢
   refine⟨?_,?_⟩
   ·dsimp only
    rw[bg.eq,bm.eq]
   ·dsimp only at q4 ⊢
    exact h.back bm.lik tm (by omega)
theorem jt7:∀ (l:List Pr) (σ τ:W),Lik σ τ->okPrs l->(∀ t∈tagsPrs l,σ.has t)->jt5 (prsOf σ l).2->Back (prsOf σ l) (prsOf τ (prsOf σ l).1)
 |[],_,_,h,_,_,_=>by simp only[prsOf];exact⟨rfl,h⟩
 |e::l,σ,τ,h,hok,htg,hF=>by
  simp only[okPrs]at hok
  simp only[tagsPrs,List.mem_append]at htg
  simp only[prsOf]at hF ⊢
  have g1:=grow_pr e σ
  have h1:=mw1 e σ τ h hok.1 (fun t ht=>htg t (.inl ht)) ((grow_prs l _).fine hF)
  have h2:=jt7 l _ _ h1.lik hok.2 (fun t ht=>(g1.hs t).2 (htg t (.inr ht))) hF
  exact⟨by rw[h1.eq,h2.eq],h2.lik⟩
theorem qt5:∀ (p:Gu) (σ τ:W),Lik σ τ->okGu p->(∀ t∈tagsGu p,σ.has t)->jt5 (guOf σ p).2->Back (guOf σ p) (guOf τ (guOf σ p).1)
 |.mk kind name cond chan targets values time body,σ,τ,h,hok,htg,hF=>by
  simp only[okGu]at hok
  simp only[tagsGu,List.mem_cons]at htg
  simp only[guOf]at hF ⊢
  have g1:=grow_ghead σ cond chan targets values time
  have h1:=h.ghead cond chan targets values time ((grow_prs body _).fine hF)
  have h2:=jt7 body _ _ h1.lik hok (fun t ht=>(g1.hs t).2 (htg t (.inr ht))) hF
  exact⟨by rw[h1.eq,h2.eq],h2.lik⟩
theorem kq1:∀ (l:List Gu) (σ τ:W),Lik σ τ->okGus l->(∀ t∈tagsGus l,σ.has t)->jt5 (gusOf σ l).2->Back (gusOf σ l) (gusOf τ (gusOf σ l).1)
 |[],_,_,h,_,_,_=>by simp only[gusOf];exact⟨rfl,h⟩
 |e::l,σ,τ,h,hok,htg,hF=>by
  simp only[okGus]at hok
  simp only[tagsGus,List.mem_append]at htg
  simp only[gusOf]at hF ⊢
  have g1:=mb5 e σ
  have h1:=qt5 e σ τ h hok.1 (fun t ht=>htg t (.inl ht)) ((grow_gus l _).fine hF)
  have h2:=kq1 l _ _ h1.lik hok.2 (fun t ht=>(g1.hs t).2 (htg t (.inr ht))) hF
  exact⟨by rw[h1.eq,h2.eq],h2.lik⟩
end
end Sc
end
section
def qs23_0:List Nat:=[0,1,4,5,7,10,14,15,16,17]
attribute [local irreducible] TR TC
theorem kq2 (gl:List (Nat × List D))(k:Sc.Kind)(l:List Gu)(σ:Sc.W)(hl:l.length<=1000000000)
 (h1:∀ (j:Nat) (hj:j<l.length),FnE prog gl 67 [.ptr 900 0,.d (dGu l[j])] (HW k (y4 Sc.guOf σ (l.take j)).2)
   (fun v H1=>v=.d (dGu (Sc.guOf (y4 Sc.guOf σ (l.take j)).2 l[j]).1)/\H1=HW k (Sc.guOf (y4 Sc.guOf σ (l.take j)).2 l[j]).2)):
 FnE prog gl 66 [.d (.list 23 (l.map dGu)),.clo (.func 67) [.ptr 900 0] []] (HW k σ)
  (fun v H1=>v=.d (.list 23 ((y4 Sc.guOf σ l).1.map dGu))/\H1=HW k (y4 Sc.guOf σ l).2):=by
 simp only[jg4]at h1 ⊢
 cases k
 all_goals dsimp only[HW,ja2,l9]at h1 ⊢
 case free=>
  (refine j3 func66 ntmps66 results66 fun w M E b0=>?_)
  (repeat' first|refine tr_at 13 ?_;(refine jc3 13 ?_)|refine yyp ?_;try refine s_bu ?_ ?_<;>intro hb|refine yy ?_|refine yy2 ?_ ?_<;>intro hcmp|refine at_nil ?_;refine z_nil qs23_0 ?_|refine tc_seq fun K hK=>?_|apply_assumption -exfalso -symm)
  ·have h0:l=[]:=List.eq_nil_of_length_eq_zero (by omega)
   subst h0
   (refine j0 (j7 ⟨?_,rfl⟩))
   rfl
  refine jg1 (fun x:Nat × Nat=>⟨[(16,.d (.int .i64 x.1)),(15,.d (.int .i64 l.length)),(14,.d (.list 23 (l.map dG))),(5,.own 13 x.2),(1,.clo (.func 67) [.ptr 900 0] [])],(13,.row 101 23 true ((y4 Sc.guOf σ (l.take x.1)).1.map dG) x.2)::HW .free (y4 Sc.guOf σ (l.take x.1)).2,gl⟩)
   (fun x=>x.1<=l.length) (fun x=>l.length - x.1) (0,0) (Nat.zero_le _) v7 fun⟨j,kv⟩ hj=>?_
  dsimp only[HW,ja2,l9]at hj ⊢
  have hlen:=p9 Sc.guOf (l.take j) σ
  simp only[List.length_take]at hlen
  rcases Nat.lt_or_ge j l.length with hj2|hj2
  ·have hone:=h1 j hj2
   (repeat' first|refine tr_at 7 ?_;(refine j1 7 ?_)|refine tr_at 23 ?_;refine y_callE (hc:=hone) ?_|refine tr_at 24 ?_;(refine z_lit 24 ?_)|refine yyp ?_;try refine s_bu ?_ ?_<;>intro hb|refine yy ?_|(refine at_append ?_;first|(refine z_append (fun kv=>?_))|(refine z_append_suf (fun sx sp kv hsx hsp hsl=>?_)))|refine at_nil ?_;refine z_nil qs23_0 ?_|refine tc_seq fun K hK=>?_|apply_assumption -exfalso -symm)
   refine⟨(j+1,kv),by dsimp only;omega,by dsimp only;omega,?_⟩
   dsimp only
   rw[n3 Sc.guOf l σ j hj2]
   simp only[List.map_append,List.map_cons,List.map_nil]
   exact v7
  (repeat' first|refine yyp ?_;try refine s_bu ?_ ?_<;>intro hb|refine yy ?_|refine at_nil ?_;refine z_nil qs23_0 ?_|refine tc_seq fun K hK=>?_|apply_assumption -exfalso -symm)
  have hjl:j=l.length:=by omega
  subst hjl
  rw[List.take_length]
  (refine j0 (j7 ⟨?_,rfl⟩))
  rfl
 case check ns=>
  (refine j3 func66 ntmps66 results66 fun w M E b0=>?_)
  (repeat' first|refine tr_at 13 ?_;(refine jc3 13 ?_)|refine yyp ?_;try refine s_bu ?_ ?_<;>intro hb|refine yy ?_|refine yy2 ?_ ?_<;>intro hcmp|refine at_nil ?_;refine z_nil qs23_0 ?_|refine tc_seq fun K hK=>?_|apply_assumption -exfalso -symm)
  ·have h0:l=[]:=List.eq_nil_of_length_eq_zero (by omega)
   subst h0
   (refine j0 (j7 ⟨?_,rfl⟩))
   rfl
  refine jg1 (fun x:Nat × Nat=>⟨[(16,.d (.int .i64 x.1)),(15,.d (.int .i64 l.length)),(14,.d (.list 23 (l.map dG))),(5,.own 13 x.2),(1,.clo (.func 67) [.ptr 900 0] [])],(13,.row 101 23 true ((y4 Sc.guOf σ (l.take x.1)).1.map dG) x.2)::HW (.check ns) (y4 Sc.guOf σ (l.take x.1)).2,gl⟩)
   (fun x=>x.1<=l.length) (fun x=>l.length - x.1) (0,0) (Nat.zero_le _) v7 fun⟨j,kv⟩ hj=>?_
  dsimp only[HW,ja2,l9]at hj ⊢
  have hlen:=p9 Sc.guOf (l.take j) σ
  simp only[List.length_take]at hlen
  rcases Nat.lt_or_ge j l.length with hj2|hj2
  ·have hone:=h1 j hj2
   (repeat' first|refine tr_at 7 ?_;(refine j1 7 ?_)|refine tr_at 23 ?_;refine y_callE (hc:=hone) ?_|refine tr_at 24 ?_;(refine z_lit 24 ?_)|refine yyp ?_;try refine s_bu ?_ ?_<;>intro hb|refine yy ?_|(refine at_append ?_;first|(refine z_append (fun kv=>?_))|(refine z_append_suf (fun sx sp kv hsx hsp hsl=>?_)))|refine at_nil ?_;refine z_nil qs23_0 ?_|refine tc_seq fun K hK=>?_|apply_assumption -exfalso -symm)
   refine⟨(j+1,kv),by dsimp only;omega,by dsimp only;omega,?_⟩
   dsimp only
   rw[n3 Sc.guOf l σ j hj2]
   simp only[List.map_append,List.map_cons,List.map_nil]
   exact v7
  (repeat' first|refine yyp ?_;try refine s_bu ?_ ?_<;>intro hb|refine yy ?_|refine at_nil ?_;refine z_nil qs23_0 ?_|refine tc_seq fun K hK=>?_|apply_assumption -exfalso -symm)
  have hjl:j=l.length:=by omega
  subst hjl
  rw[List.take_length]
  (refine j0 (j7 ⟨?_,rfl⟩))
  rfl
 case none=>
  (refine j3 func66 ntmps66 results66 fun w M E b0=>?_)
  (repeat' first|refine tr_at 13 ?_;(refine jc3 13 ?_)|refine yyp ?_;try refine s_bu ?_ ?_<;>intro hb|refine yy ?_|refine yy2 ?_ ?_<;>intro hcmp|refine at_nil ?_;refine z_nil qs23_0 ?_|refine tc_seq fun K hK=>?_|apply_assumption -exfalso -symm)
  ·have h0:l=[]:=List.eq_nil_of_length_eq_zero (by omega)
   subst h0
   (refine j0 (j7 ⟨?_,rfl⟩))
   rfl
  refine jg1 (fun x:Nat × Nat=>⟨[(16,.d (.int .i64 x.1)),(15,.d (.int .i64 l.length)),(14,.d (.list 23 (l.map dG))),(5,.own 13 x.2),(1,.clo (.func 67) [.ptr 900 0] [])],(13,.row 101 23 true ((y4 Sc.guOf σ (l.take x.1)).1.map dG) x.2)::HW .none (y4 Sc.guOf σ (l.take x.1)).2,gl⟩)
   (fun x=>x.1<=l.length) (fun x=>l.length - x.1) (0,0) (Nat.zero_le _) v7 fun⟨j,kv⟩ hj=>?_
  dsimp only[HW,ja2,l9]at hj ⊢
  have hlen:=p9 Sc.guOf (l.take j) σ
  simp only[List.length_take]at hlen
  rcases Nat.lt_or_ge j l.length with hj2|hj2
  ·have hone:=h1 j hj2
   (repeat' first|refine tr_at 7 ?_;(refine j1 7 ?_)|refine tr_at 23 ?_;refine y_callE (hc:=hone) ?_|refine tr_at 24 ?_;(refine z_lit 24 ?_)|refine yyp ?_;try refine s_bu ?_ ?_<;>intro hb|refine yy ?_|(refine at_append ?_;first|(refine z_append (fun kv=>?_))|(refine z_append_suf (fun sx sp kv hsx hsp hsl=>?_)))|refine at_nil ?_;refine z_nil qs23_0 ?_|refine tc_seq fun K hK=>?_|apply_assumption -exfalso -symm)
   refine⟨(j+1,kv),by dsimp only;omega,by dsimp only;omega,?_⟩
   dsimp only
   rw[n3 Sc.guOf l σ j hj2]
   simp only[List.map_append,List.map_cons,List.map_nil]
   exact v7
  (repeat' first|refine yyp ?_;try refine s_bu ?_ ?_<;>intro hb|refine yy ?_|refine at_nil ?_;refine z_nil qs23_0 ?_|refine tc_seq fun K hK=>?_|apply_assumption -exfalso -symm)
  have hjl:j=l.length:=by omega
  subst hjl
  rw[List.take_length]
  (refine j0 (j7 ⟨?_,rfl⟩))
  rfl
theorem kf1 (gl:List (Nat × List D))(k:Sc.Kind)(l:List Pr)(σ:Sc.W)(hl:l.length<=1000000000)
 (h1:∀ (j:Nat) (hj:j<l.length),FnE prog gl 33 [.ptr 900 0,.d (dPr l[j])] (HW k (y4 Sc.prOf σ (l.take j)).2)
   (fun v H1=>v=.d (dPr (Sc.prOf (y4 Sc.prOf σ (l.take j)).2 l[j]).1)/\H1=HW k (Sc.prOf (y4 Sc.prOf σ (l.take j)).2 l[j]).2)):
 FnE prog gl 68 [.d (.list 42 (l.map dPr)),.clo (.func 33) [.ptr 900 0] []] (HW k σ)
  (fun v H1=>v=.d (.list 42 ((y4 Sc.prOf σ l).1.map dPr))/\H1=HW k (y4 Sc.prOf σ l).2):=by
 simp only[x5]at h1 ⊢
 cases k
 all_goals dsimp only[HW,ja2,l9]at h1 ⊢
 case free=>
  (refine j3 func68 ntmps68 results68 fun w M E b0=>?_)
  (repeat' first|refine tr_at 13 ?_;(refine jc3 13 ?_)|refine yyp ?_;try refine s_bu ?_ ?_<;>intro hb|refine yy ?_|refine yy2 ?_ ?_<;>intro hcmp|refine at_nil ?_;refine z_nil qs23_0 ?_|refine tc_seq fun K hK=>?_|apply_assumption -exfalso -symm)
  ·have h0:l=[]:=List.eq_nil_of_length_eq_zero (by omega)
   subst h0
   (refine j0 (j7 ⟨?_,rfl⟩))
   rfl
  refine jg1 (fun x:Nat × Nat=>⟨[(16,.d (.int .i64 x.1)),(15,.d (.int .i64 l.length)),(14,.d (.list 42 (l.map dP))),(5,.own 13 x.2),(1,.clo (.func 33) [.ptr 900 0] [])],(13,.row 45 42 true ((y4 Sc.prOf σ (l.take x.1)).1.map dP) x.2)::HW .free (y4 Sc.prOf σ (l.take x.1)).2,gl⟩)
   (fun x=>x.1<=l.length) (fun x=>l.length - x.1) (0,0) (Nat.zero_le _) v7 fun⟨j,kv⟩ hj=>?_
  dsimp only[HW,ja2,l9]at hj ⊢
  have hlen:=p9 Sc.prOf (l.take j) σ
  simp only[List.length_take]at hlen
  rcases Nat.lt_or_ge j l.length with hj2|hj2
  ·have hone:=h1 j hj2
   (repeat' first|refine tr_at 7 ?_;(refine j1 7 ?_)|refine tr_at 23 ?_;refine y_callE (hc:=hone) ?_|refine tr_at 24 ?_;(refine z_lit 24 ?_)|refine yyp ?_;try refine s_bu ?_ ?_<;>intro hb|refine yy ?_|(refine at_append ?_;first|(refine z_append (fun kv=>?_))|(refine z_append_suf (fun sx sp kv hsx hsp hsl=>?_)))|refine at_nil ?_;refine z_nil qs23_0 ?_|refine tc_seq fun K hK=>?_|apply_assumption -exfalso -symm)
   refine⟨(j+1,kv),by dsimp only;omega,by dsimp only;omega,?_⟩
   dsimp only
   rw[n3 Sc.prOf l σ j hj2]
   simp only[List.map_append,List.map_cons,List.map_nil]
   exact v7
  (repeat' first|refine yyp ?_;try refine s_bu ?_ ?_<;>intro hb|refine yy ?_|refine at_nil ?_;refine z_nil qs23_0 ?_|refine tc_seq fun K hK=>?_|apply_assumption -exfalso -symm)
  have hjl:j=l.length:=by omega
  subst hjl
  rw[List.take_length]
  (refine j0 (j7 ⟨?_,rfl⟩))
  rfl
 case check ns=>
  (refine j3 func68 ntmps68 results68 fun w M E b0=>?_)
  (repeat' first|refine tr_at 13 ?_;(refine jc3 13 ?_)|refine yyp ?_;try refine s_bu ?_ ?_<;>intro hb|refine yy ?_|refine yy2 ?_ ?_<;>intro hcmp|refine at_nil ?_;refine z_nil qs23_0 ?_|refine tc_seq fun K hK=>?_|apply_assumption -exfalso -symm)
  ·have h0:l=[]:=List.eq_nil_of_length_eq_zero (by omega)
   subst h0
   (refine j0 (j7 ⟨?_,rfl⟩))
   rfl
  refine jg1 (fun x:Nat × Nat=>⟨[(16,.d (.int .i64 x.1)),(15,.d (.int .i64 l.length)),(14,.d (.list 42 (l.map dP))),(5,.own 13 x.2),(1,.clo (.func 33) [.ptr 900 0] [])],(13,.row 45 42 true ((y4 Sc.prOf σ (l.take x.1)).1.map dP) x.2)::HW (.check ns) (y4 Sc.prOf σ (l.take x.1)).2,gl⟩)
   (fun x=>x.1<=l.length) (fun x=>l.length - x.1) (0,0) (Nat.zero_le _) v7 fun⟨j,kv⟩ hj=>?_
  dsimp only[HW,ja2,l9]at hj ⊢
  have hlen:=p9 Sc.prOf (l.take j) σ
  simp only[List.length_take]at hlen
  rcases Nat.lt_or_ge j l.length with hj2|hj2
  ·have hone:=h1 j hj2
   (repeat' first|refine tr_at 7 ?_;(refine j1 7 ?_)|refine tr_at 23 ?_;refine y_callE (hc:=hone) ?_|refine tr_at 24 ?_;(refine z_lit 24 ?_)|refine yyp ?_;try refine s_bu ?_ ?_<;>intro hb|refine yy ?_|(refine at_append ?_;first|(refine z_append (fun kv=>?_))|(refine z_append_suf (fun sx sp kv hsx hsp hsl=>?_)))|refine at_nil ?_;refine z_nil qs23_0 ?_|refine tc_seq fun K hK=>?_|apply_assumption -exfalso -symm)
   refine⟨(j+1,kv),by dsimp only;omega,by dsimp only;omega,?_⟩
   dsimp only
   rw[n3 Sc.prOf l σ j hj2]
   simp only[List.map_append,List.map_cons,List.map_nil]
   exact v7
  (repeat' first|refine yyp ?_;try refine s_bu ?_ ?_<;>intro hb|refine yy ?_|refine at_nil ?_;refine z_nil qs23_0 ?_|refine tc_seq fun K hK=>?_|apply_assumption -exfalso -symm)
  have hjl:j=l.length:=by omega
  subst hjl
  rw[List.take_length]
  (refine j0 (j7 ⟨?_,rfl⟩))
  rfl
 case none=>
  (refine j3 func68 ntmps68 results68 fun w M E b0=>?_)
  (repeat' first|refine tr_at 13 ?_;(refine jc3 13 ?_)|refine yyp ?_;try refine s_bu ?_ ?_<;>intro hb|refine yy ?_|refine yy2 ?_ ?_<;>intro hcmp|refine at_nil ?_;refine z_nil qs23_0 ?_|refine tc_seq fun K hK=>?_|apply_assumption -exfalso -symm)
  ·have h0:l=[]:=List.eq_nil_of_length_eq_zero (by omega)
   subst h0
   (refine j0 (j7 ⟨?_,rfl⟩))
   rfl
  refine jg1 (fun x:Nat × Nat=>⟨[(16,.d (.int .i64 x.1)),(15,.d (.int .i64 l.length)),(14,.d (.list 42 (l.map dP))),(5,.own 13 x.2),(1,.clo (.func 33) [.ptr 900 0] [])],(13,.row 45 42 true ((y4 Sc.prOf σ (l.take x.1)).1.map dP) x.2)::HW .none (y4 Sc.prOf σ (l.take x.1)).2,gl⟩)
   (fun x=>x.1<=l.length) (fun x=>l.length - x.1) (0,0) (Nat.zero_le _) v7 fun⟨j,kv⟩ hj=>?_
  dsimp only[HW,ja2,l9]at hj ⊢
  have hlen:=p9 Sc.prOf (l.take j) σ
  simp only[List.length_take]at hlen
  rcases Nat.lt_or_ge j l.length with hj2|hj2
  ·have hone:=h1 j hj2
   (repeat' first|refine tr_at 7 ?_;(refine j1 7 ?_)|refine tr_at 23 ?_;refine y_callE (hc:=hone) ?_|refine tr_at 24 ?_;(refine z_lit 24 ?_)|refine yyp ?_;try refine s_bu ?_ ?_<;>intro hb|refine yy ?_|(refine at_append ?_;first|(refine z_append (fun kv=>?_))|(refine z_append_suf (fun sx sp kv hsx hsp hsl=>?_)))|refine at_nil ?_;refine z_nil qs23_0 ?_|refine tc_seq fun K hK=>?_|apply_assumption -exfalso -symm)
   refine⟨(j+1,kv),by dsimp only;omega,by dsimp only;omega,?_⟩
   dsimp only
   rw[n3 Sc.prOf l σ j hj2]
   simp only[List.map_append,List.map_cons,List.map_nil]
   exact v7
  (repeat' first|refine yyp ?_;try refine s_bu ?_ ?_<;>intro hb|refine yy ?_|refine at_nil ?_;refine z_nil qs23_0 ?_|refine tc_seq fun K hK=>?_|apply_assumption -exfalso -symm)
  have hjl:j=l.length:=by omega
  subst hjl
  rw[List.take_length]
  (refine j0 (j7 ⟨?_,rfl⟩))
  rfl
end
section
def qs24_0:List Nat:=[0,1,4,5,7,10,14,15,16,17]
variable {mm:Int}
def jy9 (tag first:Bool)(σ:Sc.W)(e:Ex):Ex × Sc.W:=if tag=true/\first=true then (e,σ) else exprOf σ e
theorem kq3 (tag:Bool)(l:List Ex)(σ:Sc.W)(j:Nat)(hj:j<l.length):
 Sc.outOf tag σ (l.take (j+1))=((Sc.outOf tag σ (l.take j)).1++[(jy9 tag (!(tag && decide (0<j))) (Sc.outOf tag σ (l.take j)).2 l[j]).1],(jy9 tag (!(tag && decide (0<j))) (Sc.outOf tag σ (l.take j)).2 l[j]).2):=by
 cases l with
 |nil=>simp at hj
 |cons e l=>
  cases tag with
  |false=>
   have e2:∀ (υ:Sc.W) (x:List Ex),Sc.outOf false υ x=y4 exprOf υ x:=fun _ x=>by cases x<;>rfl
   rw[e2,e2,n3 exprOf (e::l) σ j hj]
   unfold jy9
   simp
  |true=>
   cases j with
   |zero=>simp[Sc.outOf,jy9,y4]
   |succ j=>
    have hj':j<l.length:=by simpa using hj
    have:=n3 exprOf l σ j hj'
    simp only[List.take_succ_cons,Sc.outOf,if_true,this,List.getElem_cons_succ,jy9]
    simp
theorem mc3 (tag:Bool)(l:List Ex)(σ:Sc.W):(Sc.outOf tag σ l).1.length=l.length:=by
 cases tag with
 |false=>
  rw[show Sc.outOf false σ l=y4 exprOf σ l by cases l<;>rfl]
  exact p9 _ _ _
 |true=>
  cases l with
  |nil=>rfl
  |cons e l=>simp[Sc.outOf,p9]
attribute [local irreducible] TR TC
theorem mc4 (gl:List (Nat × List D))(k:Sc.Kind)(σ:Sc.W)(tag first:Bool)(e:Ex)
 (he:FnE prog gl 58 [.ptr 900 0,.d (dEx e)] (HW k σ) (fun v H1=>v=.d (dEx (exprOf σ e).1)/\H1=HW k (exprOf σ e).2)):
 FnE prog gl 60 [.d (dEx e),.ptr 1005 0,.ptr 1006 0,.ptr 1002 0] ((1005,.box [.d (.bool tag)])::(1006,.box [.d (.bool first)])::(1002,.box [.ptr 900 0])::HW k σ)
  (fun v H1=>v=.d (dEx (jy9 tag first σ e).1)/\H1=(1005,.box [.d (.bool tag)])::(1006,.box [.d (.bool (first && !tag))])::(1002,.box [.ptr 900 0])::HW k (jy9 tag first σ e).2):=by
 unfold jy9
 simp only[r9]at he ⊢
 generalize exprOf σ e=r at he ⊢
 cases tag<;>cases first
 all_goals simp only[Bool.false_eq_true,false_and,and_false,and_self,if_true,if_false,Bool.not_true,Bool.not_false,Bool.and_true,Bool.and_false,Bool.true_and,Bool.false_and]
 all_goals cases k
 all_goals dsimp only[HW,ja2,l9]at he ⊢
 all_goals (refine j3 func60 ntmps60 results60 fun w M E b0=>?_)
 all_goals (repeat' first|refine tr_at 4 ?_;(refine k7 4 ?_)|refine tr_at 5 ?_;(refine j1 5 ?_)|refine tr_at 13 ?_;refine y_callE (hc:=he) ?_|refine yyp ?_;try refine s_bu ?_ ?_<;>intro hb|refine yy ?_|refine at_nil ?_;refine z_nil [0,1,2,3,4,5,6,9,28] ?_|refine tc_seq fun K hK=>?_|apply_assumption -exfalso -symm)
 all_goals (refine j0 (j7 ⟨?_,rfl⟩))
 all_goals rfl
theorem jb8 (gl:List (Nat × List D))(k:Sc.Kind)(tag:Bool)(l:List Ex)(σ:Sc.W)(hl:l.length<=1000000000)
 (h1:∀ (j:Nat) (hj:j<l.length),FnE prog gl 58 [.ptr 900 0,.d (dEx l[j])] (HW k (Sc.outOf tag σ (l.take j)).2)
   (fun v H1=>v=.d (dEx (exprOf (Sc.outOf tag σ (l.take j)).2 l[j]).1)/\H1=HW k (exprOf (Sc.outOf tag σ (l.take j)).2 l[j]).2)):
 FnE prog gl 59 [.d (.list 6 (l.map dEx)),.clo (.func 60) [] [.ptr 1005 0,.ptr 1006 0,.ptr 1002 0]] ((1005,.box [.d (.bool tag)])::(1006,.box [.d (.bool true)])::(1002,.box [.ptr 900 0])::HW k σ)
  (fun v H1=>v=.d (.list 6 ((Sc.outOf tag σ l).1.map dEx))/\H1=(1005,.box [.d (.bool tag)])::(1006,.box [.d (.bool (!(tag && decide (0<l.length))))])::(1002,.box [.ptr 900 0])::HW k (Sc.outOf tag σ l).2):=by
 have h2:=fun j hj=>mc4 gl k (Sc.outOf tag σ (l.take j)).2 tag (!(tag && decide (0<j))) (l[j]'hj) (h1 j hj)
 clear h1
 have hft:∀ j,(!(tag && decide (0<j)) && !tag)=!(tag && decide (0<j+1)):=fun j=>by cases tag<;>simp
 simp only[r9,hft]at h2 ⊢
 cases k
 all_goals dsimp only[HW,ja2,l9]at h2 ⊢
 case free=>
  (refine j3 func59 ntmps59 results59 fun w M E b0=>?_)
  (repeat' first|refine tr_at 13 ?_;(refine jc3 13 ?_)|refine yyp ?_;try refine s_bu ?_ ?_<;>intro hb|refine yy ?_|refine yy2 ?_ ?_<;>intro hcmp|refine at_nil ?_;refine z_nil qs24_0 ?_|refine tc_seq fun K hK=>?_|apply_assumption -exfalso -symm)
  ·have h0:l=[]:=List.eq_nil_of_length_eq_zero (by omega)
   subst h0
   simp only[List.length_nil,Nat.lt_irrefl,decide_false,Bool.and_false,Bool.not_false]
   (refine j0 (j7 ⟨?_,rfl⟩))
   rfl
  refine jg1 (fun x:Nat × Nat=>⟨[(16,.d (.int .i64 x.1)),(15,.d (.int .i64 l.length)),(14,.d (.list 6 (l.map dE))),(5,.own 13 x.2),(1,.clo (.func 60) [] [.ptr 1005 0,.ptr 1006 0,.ptr 1002 0])],(13,.row 28 6 true ((Sc.outOf tag σ (l.take x.1)).1.map dE) x.2)::(1005,.box [.d (.bool tag)])::(1006,.box [.d (.bool (!(tag && decide (0<x.1))))])::(1002,.box [.ptr 900 0])::HW .free (Sc.outOf tag σ (l.take x.1)).2,gl⟩)
   (fun x=>x.1<=l.length) (fun x=>l.length - x.1) (0,0) (Nat.zero_le _) (by simp only[List.take_zero,Sc.outOf,Nat.lt_irrefl,decide_false,Bool.and_false,Bool.not_false];exact v7) fun⟨j,kv⟩ hj=>?_
  dsimp only[HW,ja2,l9]at hj ⊢
  have hlen:=mc3 tag (l.take j) σ
  simp only[List.length_take]at hlen
  rcases Nat.lt_or_ge j l.length with hj2|hj2
  ·have hone:=h2 j hj2
   (repeat' first|refine tr_at 7 ?_;(refine j1 7 ?_)|refine tr_at 23 ?_;refine y_callE (hc:=hone) ?_|refine tr_at 24 ?_;(refine z_lit 24 ?_)|refine yyp ?_;try refine s_bu ?_ ?_<;>intro hb|refine yy ?_|(refine at_append ?_;first|(refine z_append (fun kv=>?_))|(refine z_append_suf (fun sx sp kv hsx hsp hsl=>?_)))|refine at_nil ?_;refine z_nil qs24_0 ?_|refine tc_seq fun K hK=>?_|apply_assumption -exfalso -symm)
   refine⟨(j+1,kv),by dsimp only;omega,by dsimp only;omega,?_⟩
   dsimp only
   rw[kq3 tag l σ j hj2]
   simp only[List.map_append,List.map_cons,List.map_nil]
   exact v7
  (repeat' first|refine yyp ?_;try refine s_bu ?_ ?_<;>intro hb|refine yy ?_|refine at_nil ?_;refine z_nil qs24_0 ?_|refine tc_seq fun K hK=>?_|apply_assumption -exfalso -symm)
  have hjl:j=l.length:=by omega
  subst hjl
  rw[List.take_length]
  (refine j0 (j7 ⟨?_,rfl⟩))
  rfl
 case check ns=>
  (refine j3 func59 ntmps59 results59 fun w M E b0=>?_)
  (repeat' first|refine tr_at 13 ?_;(refine jc3 13 ?_)|refine yyp ?_;try refine s_bu ?_ ?_<;>intro hb|refine yy ?_|refine yy2 ?_ ?_<;>intro hcmp|refine at_nil ?_;refine z_nil qs24_0 ?_|refine tc_seq fun K hK=>?_|apply_assumption -exfalso -symm)
  ·have h0:l=[]:=List.eq_nil_of_length_eq_zero (by omega)
   subst h0
   simp only[List.length_nil,Nat.lt_irrefl,decide_false,Bool.and_false,Bool.not_false]
   (refine j0 (j7 ⟨?_,rfl⟩))
   rfl
  refine jg1 (fun x:Nat × Nat=>⟨[(16,.d (.int .i64 x.1)),(15,.d (.int .i64 l.length)),(14,.d (.list 6 (l.map dE))),(5,.own 13 x.2),(1,.clo (.func 60) [] [.ptr 1005 0,.ptr 1006 0,.ptr 1002 0])],(13,.row 28 6 true ((Sc.outOf tag σ (l.take x.1)).1.map dE) x.2)::(1005,.box [.d (.bool tag)])::(1006,.box [.d (.bool (!(tag && decide (0<x.1))))])::(1002,.box [.ptr 900 0])::HW (.check ns) (Sc.outOf tag σ (l.take x.1)).2,gl⟩)
   (fun x=>x.1<=l.length) (fun x=>l.length - x.1) (0,0) (Nat.zero_le _) (by simp only[List.take_zero,Sc.outOf,Nat.lt_irrefl,decide_false,Bool.and_false,Bool.not_false];exact v7) fun⟨j,kv⟩ hj=>?_
  dsimp only[HW,ja2,l9]at hj ⊢
  have hlen:=mc3 tag (l.take j) σ
  simp only[List.length_take]at hlen
  rcases Nat.lt_or_ge j l.length with hj2|hj2
  ·have hone:=h2 j hj2
   (repeat' first|refine tr_at 7 ?_;(refine j1 7 ?_)|refine tr_at 23 ?_;refine y_callE (hc:=hone) ?_|refine tr_at 24 ?_;(refine z_lit 24 ?_)|refine yyp ?_;try refine s_bu ?_ ?_<;>intro hb|refine yy ?_|(refine at_append ?_;first|(refine z_append (fun kv=>?_))|(refine z_append_suf (fun sx sp kv hsx hsp hsl=>?_)))|refine at_nil ?_;refine z_nil qs24_0 ?_|refine tc_seq fun K hK=>?_|apply_assumption -exfalso -symm)
   refine⟨(j+1,kv),by dsimp only;omega,by dsimp only;omega,?_⟩
   dsimp only
   rw[kq3 tag l σ j hj2]
   simp only[List.map_append,List.map_cons,List.map_nil]
   exact v7
  (repeat' first|refine yyp ?_;try refine s_bu ?_ ?_<;>intro hb|refine yy ?_|refine at_nil ?_;refine z_nil qs24_0 ?_|refine tc_seq fun K hK=>?_|apply_assumption -exfalso -symm)
  have hjl:j=l.length:=by omega
  subst hjl
  rw[List.take_length]
  (refine j0 (j7 ⟨?_,rfl⟩))
  rfl
 case none=>
  (refine j3 func59 ntmps59 results59 fun w M E b0=>?_)
  (repeat' first|refine tr_at 13 ?_;(refine jc3 13 ?_)|refine yyp ?_;try refine s_bu ?_ ?_<;>intro hb|refine yy ?_|refine yy2 ?_ ?_<;>intro hcmp|refine at_nil ?_;refine z_nil qs24_0 ?_|refine tc_seq fun K hK=>?_|apply_assumption -exfalso -symm)
  ·have h0:l=[]:=List.eq_nil_of_length_eq_zero (by omega)
   subst h0
   simp only[List.length_nil,Nat.lt_irrefl,decide_false,Bool.and_false,Bool.not_false]
   (refine j0 (j7 ⟨?_,rfl⟩))
   rfl
  refine jg1 (fun x:Nat × Nat=>⟨[(16,.d (.int .i64 x.1)),(15,.d (.int .i64 l.length)),(14,.d (.list 6 (l.map dE))),(5,.own 13 x.2),(1,.clo (.func 60) [] [.ptr 1005 0,.ptr 1006 0,.ptr 1002 0])],(13,.row 28 6 true ((Sc.outOf tag σ (l.take x.1)).1.map dE) x.2)::(1005,.box [.d (.bool tag)])::(1006,.box [.d (.bool (!(tag && decide (0<x.1))))])::(1002,.box [.ptr 900 0])::HW .none (Sc.outOf tag σ (l.take x.1)).2,gl⟩)
   (fun x=>x.1<=l.length) (fun x=>l.length - x.1) (0,0) (Nat.zero_le _) (by simp only[List.take_zero,Sc.outOf,Nat.lt_irrefl,decide_false,Bool.and_false,Bool.not_false];exact v7) fun⟨j,kv⟩ hj=>?_
  dsimp only[HW,ja2,l9]at hj ⊢
  have hlen:=mc3 tag (l.take j) σ
  simp only[List.length_take]at hlen
  rcases Nat.lt_or_ge j l.length with hj2|hj2
  ·have hone:=h2 j hj2
   (repeat' first|refine tr_at 7 ?_;(refine j1 7 ?_)|refine tr_at 23 ?_;refine y_callE (hc:=hone) ?_|refine tr_at 24 ?_;(refine z_lit 24 ?_)|refine yyp ?_;try refine s_bu ?_ ?_<;>intro hb|refine yy ?_|(refine at_append ?_;first|(refine z_append (fun kv=>?_))|(refine z_append_suf (fun sx sp kv hsx hsp hsl=>?_)))|refine at_nil ?_;refine z_nil qs24_0 ?_|refine tc_seq fun K hK=>?_|apply_assumption -exfalso -symm)
   refine⟨(j+1,kv),by dsimp only;omega,by dsimp only;omega,?_⟩
   dsimp only
   rw[kq3 tag l σ j hj2]
   simp only[List.map_append,List.map_cons,List.map_nil]
   exact v7
  (repeat' first|refine yyp ?_;try refine s_bu ?_ ?_<;>intro hb|refine yy ?_|refine at_nil ?_;refine z_nil qs24_0 ?_|refine tc_seq fun K hK=>?_|apply_assumption -exfalso -symm)
  have hjl:j=l.length:=by omega
  subst hjl
  rw[List.take_length]
  (refine j0 (j7 ⟨?_,rfl⟩))
  rfl
end
end Go.Proofs.YtdopmfifmgkmoaaGreatDoor
