/- Parts: S7, S8, S9, S10, S11, S15. -/
import Derived.Test.YtdopmfifmgkmoaaGreatDoorP30
import Derived.Test.YtdopmfifmgkmoaaGreatDoorP19
import Derived.Lib.SlicesCompact
set_option linter.all false
set_option maxRecDepth 100000
set_option maxHeartbeats 16000000
namespace Go.Proofs.YtdopmfifmgkmoaaGreatDoor
open Go.RowKit Go.Proofs.Tryz
section
namespace Sc
def dec (n:Nat):List UInt8:=if h:n<10 then [UInt8.ofNat (48+n)] else dec (n / 10)++[UInt8.ofNat (48+n % 10)]
def newName (n:Nat):ByteArray:=⟨(110::dec n).toArray⟩
def W.has (σ:W)(s:ByteArray):Prop:=s∈σ.tk.map (·.1)
open Classical in
noncomputable def skip (σ:W):Nat->Nat->Nat
 |0,_=>0
 |f+1,n=>if σ.has (newName n) then skip σ f (n+1)+1 else 0
noncomputable def freshOf (σ:W):ByteArray × W:=
 let n:=σ.count.toNat+1+skip σ (σ.tk.length+1) (σ.count.toNat+1)
 (newName n,{σ with count:=n})
def carriedOf (env:ByteArray->List Ent)(t:Ty):List ByteArray:=
 if t.kind=4/\t.proto≠ByteArray.empty then (match (env t.proto).getLast? with
  |some x=>if x.proto then x.tags else []
  |none=>[]) else []
def typedOf (σ:W)(t:Ty):Ty × W:=if t.proto=ByteArray.empty then (t,σ) else ({t with proto:=(nameOf σ t.proto).1},(nameOf σ t.proto).2)
def formalOf (σ:W)(f:Fo):Fo × W:=({f with type:=(typedOf σ f.type).1},(typedOf σ f.type).2)
noncomputable def twiceOf (σ:W)(l:List ByteArray):W:={σ with ev:=σ.ev++(((List.range l.length).filter fun i=>(l.take i).any (isB (l.getD i ByteArray.empty))).map fun i=>(l.getD i ByteArray.empty,true))}
noncomputable def declOf (σ:W):List (Bool × List ByteArray)->List Ent × W
 |[]=>([],σ)
 |x::l=>(⟨(freshOf σ).1,x.1,x.2⟩::(declOf (freshOf σ).2 l).1,(declOf (freshOf σ).2 l).2)
def pushE (env:ByteArray->List Ent):List ByteArray->List Ent->ByteArray->List Ent
 |s::ns,x::xs=>pushE (fun t=>if t=s then env t++[x] else env t) ns xs
 |_,_=>env
def named:List Fo->List ByteArray->List Fo
 |f::l,s::ns=>{f with name:=s}::named l ns
 |_,_=>[]
def protoTags (s:Sp):List ByteArray:=if s.proto.cases then s.proto.l.map (·.tag) else []
def ownTags (env:ByteArray->List Ent)(s:Sp):Bool × List ByteArray:=if s.kind=4 then (true,protoTags s) else (false,carriedOf env s.type)
structure Head where
 names:List ByteArray
 type:Ty
 formals:List Fo
 e:Ex
 own:List Ent
 inner:List Ent
noncomputable def headOf (σ:W)(s:Sp):Head × W:=
 let o:=declOf (twiceOf σ s.names) (s.names.map fun _=>ownTags σ.env s)
 let i:=declOf (twiceOf o.2 (s.formals.map (·.name))) (s.formals.map fun f=>(false,carriedOf σ.env f.type))
 let t:=typedOf i.2 s.type
 let f:=y4 formalOf t.2 s.formals
 let e:=exprOf f.2 s.e
 (⟨o.1.map (·.fresh),t.1,named f.1 (i.1.map (·.fresh)),e.1,o.1,i.1⟩,e.2)
noncomputable def taggedB (env:ByteArray->List Ent)(kind:Int)(chan:Ex)(exprs:List Ex):Bool:=
 if kind=5 then (match exprs with
  |e::_=>decide (e.kind=4) && (match (env chan.s).getLast? with
   |some x=>!x.proto && x.tags.any (isB e.s)
   |none=>false)
  |[]=>false) else false
def outOf (tag:Bool)(σ:W):List Ex->List Ex × W
 |[]=>([],σ)
 |e::l=>if tag then (e::(y4 exprOf σ l).1,(y4 exprOf σ l).2) else y4 exprOf σ (e::l)
noncomputable def repOf (σ:W)(r:Rp):(Rp × List Ent) × W:=
 if r.name=ByteArray.empty then ((r,[]),σ)
 else
  let f:=freshOf σ
  let b:=exprOf f.2 r.base
  let c:=exprOf b.2 r.count
  ((⟨f.1,b.1,c.1⟩,[⟨f.1,false,[]⟩]),c.2)
structure GHead where
 cond:Ex
 chan:Ex
 targets:List Ex
 values:List Ex
 time:Ex
def gheadOf (σ:W)(cond chan:Ex)(targets values:List Ex)(time:Ex):GHead × W:=
 let a:=exprOf σ cond
 let b:=exprOf a.2 chan
 let c:=y4 exprOf b.2 targets
 let d:=y4 exprOf c.2 values
 let e:=exprOf d.2 time
 (⟨a.1,b.1,c.1,d.1,e.1⟩,e.2)
structure PHead where
 name:ByteArray
 chan:Ex
 targets:List Ex
 exprs:List Ex
 rep:Rp
 own:List Ent
noncomputable def pheadOf (σ:W)(kind:Int)(name:ByteArray)(chan:Ex)(targets exprs:List Ex)(rep:Rp):PHead × W:=
 let a:=if kind=17 then nameOf σ name else (name,σ)
 let c:=exprOf a.2 chan
 let t:=y4 exprOf c.2 targets
 let x:=outOf (taggedB σ.env kind chan exprs) t.2 exprs
 let r:=repOf x.2 rep
 (⟨a.1,c.1,t.1,x.1,r.1.1,r.1.2⟩,r.2)
mutual
noncomputable def prOf (σ:W):Pr->Pr × W
 |.mk kind name chan targets exprs rep guards l procs (.mk sk st sn se spp sf sb)=>
  let h:=pheadOf σ kind name chan targets exprs rep
  if kind=18 then
   let s:=headOf h.2 (.mk sk st sn se spp sf [])
   let b:=prsOf {s.2 with env:=pushE σ.env (sf.map (·.name)) s.1.inner} sb
   let g:=gusOf {b.2 with env:=pushE σ.env sn s.1.own} guards
   let m:=prsOf g.2 l
   (.mk kind h.1.name h.1.chan h.1.targets h.1.exprs h.1.rep g.1 m.1 procs (.mk sk s.1.type s.1.names s.1.e spp s.1.formals b.1),{m.2 with env:=σ.env})
  else
   let g:=gusOf {h.2 with env:=pushE σ.env (if rep.name=ByteArray.empty then [] else [rep.name]) h.1.own} guards
   let m:=prsOf g.2 l
   (.mk kind h.1.name h.1.chan h.1.targets h.1.exprs h.1.rep g.1 m.1 procs (.mk sk st sn se spp sf sb),{m.2 with env:=σ.env})
noncomputable def prsOf (σ:W):List Pr->List Pr × W
 |[]=>([],σ)
 |p::l=>((prOf σ p).1::(prsOf (prOf σ p).2 l).1,(prsOf (prOf σ p).2 l).2)
noncomputable def guOf (σ:W):Gu->Gu × W
 |.mk kind name cond chan targets values time body=>
  let h:=gheadOf σ cond chan targets values time
  let b:=prsOf h.2 body
  (.mk kind name h.1.cond h.1.chan h.1.targets h.1.values h.1.time b.1,b.2)
noncomputable def gusOf (σ:W):List Gu->List Gu × W
 |[]=>([],σ)
 |g::l=>((guOf σ g).1::(gusOf (guOf σ g).2 l).1,(gusOf (guOf σ g).2 l).2)
end
theorem prsOf_map:∀ (l:List Pr) (σ:W),prsOf σ l=y4 prOf σ l
 |[],σ=>by simp[prsOf,y4]
 |e::l,σ=>by simp only[prsOf,y4,prsOf_map l]
theorem gusOf_map:∀ (l:List Gu) (σ:W),gusOf σ l=y4 guOf σ l
 |[],σ=>by simp[gusOf,y4]
 |e::l,σ=>by simp only[gusOf,y4,gusOf_map l]
end Sc
end
section
namespace Sc
def mv1 (l:List UInt8):Nat:=l.foldl (fun a c=>10 * a+(c.toNat - 48)) 0
theorem mv2:∀ (m n:Nat),n<=m->mv1 (dec n)=n:=by
 intro m
 induction m with
 |zero=>
  intro n h
  obtain rfl:n=0:=by omega
  rw[dec]
  rfl
 |succ m ih=>
  intro n h
  rw[dec]
  split
  ·rename_i h10
   have:(UInt8.ofNat (48+n)).toNat=48+n:=by rw[UInt8.toNat_ofNat'];omega
   simp only[mv1,List.foldl_cons,List.foldl_nil,this]
   omega
  ·rename_i h10
   have:=ih (n / 10) (by omega)
   have h2:(UInt8.ofNat (48+n % 10)).toNat=48+n % 10:=by rw[UInt8.toNat_ofNat'];omega
   unfold mv1 at this ⊢
   rw[List.foldl_append,this]
   simp only[List.foldl_cons,List.foldl_nil,h2]
   omega
theorem qt2 {m n:Nat}(h:dec m=dec n):m=n:=by
 rw[<-mv2 m m (Nat.le_refl _),h,mv2 n n (Nat.le_refl _)]
theorem jl1 {m n:Nat}(h:newName m=newName n):m=n:=by
 have h2:=congrArg (fun b=>b.data.toList) h
 simp only[newName]at h2
 exact qt2 (List.cons.inj h2).2
theorem kw6 {α:Type}[DecidableEq α]:∀ (l m:List α),l.Nodup->(∀ x∈l,x∈m)->l.length<=m.length
 |[],_,_,_=>Nat.zero_le _
 |x::l,m,hn,hs=>by
  rw[List.nodup_cons]at hn
  have h:=kw6 l (m.erase x) hn.2 fun y hy=>by
   have hne:y≠x:=fun e=>hn.1 (e ▸ hy)
   exact(List.mem_erase_of_ne hne).2 (hs y (List.mem_cons_of_mem _ hy))
  have hx:=hs x List.mem_cons_self
  have h2:=List.length_erase_of_mem hx
  have h3:=List.length_pos_of_mem hx
  simp only[List.length_cons]
  omega
theorem skip_has (σ:W):∀ f n i,i<skip σ f n->σ.has (newName (n+i))
 |0,n,i,h=>by simp[skip]at h
 |f+1,n,i,h=>by
  simp only[skip]at h
  split at h
  ·rename_i hh
   cases i with
   |zero=>exact hh
   |succ i=>
    have:=skip_has σ f (n+1) i (by omega)
    rwa [show n+1+i=n+(i+1) by omega]at this
  ·omega
theorem mf2 (σ:W):∀ f n,skip σ f n<f->¬σ.has (newName (n+skip σ f n))
 |0,n,h=>by simp[skip]at h
 |f+1,n,h=>by
  simp only[skip]at h ⊢
  split
  ·rename_i hh
   rw[if_pos hh]at h
   have:=mf2 σ f (n+1) (by omega)
   rwa [show n+1+skip σ f (n+1)=n+(skip σ f (n+1)+1) by omega]at this
  ·rename_i hh
   exact hh
theorem mb2 (n:Nat):∀ k,((List.range k).map fun i=>newName (n+i)).Nodup:=fun k=>by
 have:=List.nodup_range (n:=k)
 rw[List.nodup_iff_pairwise_ne]at this ⊢
 refine List.pairwise_map.2 (this.imp fun h e=>h ?_)
 have:=jl1 e
 omega
theorem skip_tk (σ:W)(n:Nat):skip σ (σ.tk.length+1) n<=σ.tk.length:=by
 have h:=kw6 ((List.range (skip σ (σ.tk.length+1) n)).map fun i=>newName (n+i)) (σ.tk.map (·.1)) (mb2 _ _) fun x hx=>by
  obtain⟨i,hi,rfl⟩:=List.mem_map.1 hx
  exact skip_has σ _ n i (List.mem_range.1 hi)
 simpa using h
theorem skip_free (σ:W)(n:Nat):¬σ.has (newName (n+skip σ (σ.tk.length+1) n)):=mf2 σ _ n (by have:=skip_tk σ n;omega)
end Sc
end
section
namespace Sc
def Ent.pt (x:Ent):Bool × List ByteArray:=(x.proto,x.tags)
def EntsR (E:Prop)(l m:List Ent):Prop:=l.map Ent.pt=m.map Ent.pt/\(E->l=m)
def EnvR (E:Prop)(f g:ByteArray->List Ent):Prop:=∀ s,EntsR E (f s) (g s)
structure Eqv (E:Prop)(σ τ:W):Prop where
 env:EnvR E σ.env τ.env
 count:E->σ.count=τ.count
 ev:σ.ev=τ.ev
 has:E->∀ s,σ.has s↔τ.has s
def kl1 (E:Prop){α:Type}(a b:α × W):Prop:=(E->a.1=b.1)/\Eqv E a.2 b.2
theorem EntsR.refl (E:Prop)(l:List Ent):EntsR E l l:=⟨rfl,fun _=>rfl⟩
theorem Eqv.setEnv {E:Prop}{σ τ:W}(h:Eqv E σ τ){e e':ByteArray->List Ent}(he:EnvR E e e'):Eqv E {σ with env:=e} {τ with env:=e'}:=⟨he,h.count,h.ev,h.has⟩
theorem Eqv.setEv {E:Prop}{σ τ:W}(h:Eqv E σ τ){e e':List (ByteArray × Bool)}(he:e=e'):Eqv E {σ with ev:=e} {τ with ev:=e'}:=⟨h.env,h.count,he,h.has⟩
theorem EnvR.last {E:Prop}{f g:ByteArray->List Ent}(h:EnvR E f g)(s:ByteArray):(f s).getLast?.map Ent.pt=(g s).getLast?.map Ent.pt:=by rw[<-List.getLast?_map,<-List.getLast?_map,(h s).1]
theorem EntsR.append {E:Prop}{l m l' m':List Ent}(h:EntsR E l m)(h':EntsR E l' m'):EntsR E (l++l') (m++m'):=⟨by rw[List.map_append,List.map_append,h.1,h'.1],fun e=>by rw[h.2 e,h'.2 e]⟩
theorem EnvR.push {E:Prop}:∀ (ns:List ByteArray) {xs ys:List Ent} {f g:ByteArray->List Ent},EnvR E f g->EntsR E xs ys->EnvR E (pushE f ns xs) (pushE g ns ys)
 |[],[],[],_,_,h,_=>h
 |[],[],_::_,_,_,h,_=>h
 |[],_::_,[],_,_,h,_=>h
 |[],_::_,_::_,_,_,h,_=>h
 |_::_,[],[],_,_,h,_=>h
 |_::_,[],_::_,_,_,_,h'=>by have:=h'.1;simp at this
 |_::_,_::_,[],_,_,_,h'=>by have:=h'.1;simp at this
 |s::ns,x::xs,y::ys,f,g,h,h'=>by
  have h1:=h'.1
  simp only[List.map_cons,List.cons.injEq]at h1
  simp only[pushE]
  refine EnvR.push ns (fun t=>?_) ⟨h1.2,fun e=>(List.cons.inj (h'.2 e)).2⟩
  split
  ·exact(h t).append ⟨by simp only[List.map_cons,List.map_nil,h1.1],fun e=>by rw[(List.cons.inj (h'.2 e)).1]⟩
  ·exact h t
theorem EnvR.carried {E:Prop}{f g:ByteArray->List Ent}(h:EnvR E f g)(t:Ty):carriedOf f t=carriedOf g t:=by
 unfold carriedOf
 have:=h.last t.proto
 split
 ·cases h1:(f t.proto).getLast? with
  |none=>
   cases h2:(g t.proto).getLast? with
   |none=>rfl
   |some y=>rw[h1,h2]at this;cases this
  |some x=>
   cases h2:(g t.proto).getLast? with
   |none=>rw[h1,h2]at this;cases this
   |some y=>
    rw[h1,h2]at this
    simp only[Option.map_some,Option.some.injEq,Ent.pt,Prod.mk.injEq]at this
    simp only[this.1,this.2]
 ·rfl
theorem EnvR.own {E:Prop}{f g:ByteArray->List Ent}(h:EnvR E f g)(s:Sp):ownTags f s=ownTags g s:=by
 unfold ownTags
 rw[h.carried]
theorem EnvR.tagged {E:Prop}{f g:ByteArray->List Ent}(h:EnvR E f g)(kind:Int)(chan:Ex)(exprs:List Ex):taggedB f kind chan exprs=taggedB g kind chan exprs:=by
 unfold taggedB
 have:=h.last chan.s
 split
 ·cases exprs with
  |nil=>rfl
  |cons e l=>
   dsimp only
   cases h1:(f chan.s).getLast? with
   |none=>
    cases h2:(g chan.s).getLast? with
    |none=>rfl
    |some y=>rw[h1,h2]at this;cases this
   |some x=>
    cases h2:(g chan.s).getLast? with
    |none=>rw[h1,h2]at this;cases this
    |some y=>
     rw[h1,h2]at this
     simp only[Option.map_some,Option.some.injEq,Ent.pt,Prod.mk.injEq]at this
     simp only[this.1,this.2]
 ·rfl
theorem Eqv.name {E:Prop}{σ τ:W}(h:Eqv E σ τ)(s:ByteArray):kl1 E (nameOf σ s) (nameOf τ s):=by
 unfold nameOf
 have:=h.env.last s
 have he:=(h.env s).2
 cases h1:(σ.env s).getLast? with
 |none=>
  cases h2:(τ.env s).getLast? with
  |none=>exact⟨fun _=>rfl,h.setEv (by rw[h.ev])⟩
  |some y=>rw[h1,h2]at this;cases this
 |some x=>
  cases h2:(τ.env s).getLast? with
  |none=>rw[h1,h2]at this;cases this
  |some y=>
   refine⟨fun e=>?_,h⟩
   rw[he e,h2]at h1
   cases h1
   rfl
theorem mb3 {E:Prop}{α:Type}{f:W->α->α × W}:∀ (l:List α) (σ τ:W),(∀ x∈l,∀ σ τ,Eqv E σ τ->kl1 E (f σ x) (f τ x))->Eqv E σ τ->kl1 E (y4 f σ l) (y4 f τ l)
 |[],_,_,_,h=>⟨fun _=>rfl,h⟩
 |x::l,σ,τ,hf,h=>by
  have h1:=hf x List.mem_cons_self σ τ h
  have h2:=mb3 l _ _ (fun y hy=>hf y (List.mem_cons_of_mem _ hy)) h1.2
  simp only[y4]
  exact⟨fun e=>by rw[h1.1 e,h2.1 e],h2.2⟩
mutual
theorem jg7 {E:Prop}:∀ (e:Ex) (σ τ:W),Eqv E σ τ->kl1 E (exprOf σ e) (exprOf τ e)
 |.mk kind op ty n s l,σ,τ,h=>by
  have hr:kl1 E (if exNamed kind then nameOf σ s else (s,σ)) (if exNamed kind then nameOf τ s else (s,τ)):=by
   split
   ·exact h.name s
   ·exact⟨fun _=>rfl,h⟩
  simp only[exprOf]
  have hq:=kw7 l _ _ hr.2
  exact⟨fun e=>by rw[hr.1 e,hq.1 e],hq.2⟩
theorem kw7 {E:Prop}:∀ (l:List Ex) (σ τ:W),Eqv E σ τ->kl1 E (z6 σ l) (z6 τ l)
 |[],_,_,h=>by simp only[z6];exact⟨fun _=>rfl,h⟩
 |e::l,σ,τ,h=>by
  have h1:=jg7 e σ τ h
  have h2:=kw7 l _ _ h1.2
  simp only[z6]
  exact⟨fun e=>by rw[h1.1 e,h2.1 e],h2.2⟩
end
theorem jk0 {E:Prop}(l:List Ex){σ τ:W}(h:Eqv E σ τ):kl1 E (y4 exprOf σ l) (y4 exprOf τ l):=mb3 l σ τ (fun x _=>jg7 x) h
theorem kp7 {σ τ:W}(h:∀ s,σ.has s↔τ.has s)(n:Nat):skip σ (σ.tk.length+1) n=skip τ (τ.tk.length+1) n:=by
 rcases Nat.lt_trichotomy (skip σ (σ.tk.length+1) n) (skip τ (τ.tk.length+1) n) with h1|h1|h1
 ·exact absurd ((h _).2 (skip_has τ _ n _ h1)) (skip_free σ n)
 ·exact h1
 ·exact absurd ((h _).1 (skip_has σ _ n _ h1)) (skip_free τ n)
theorem Eqv.fresh {E:Prop}{σ τ:W}(h:Eqv E σ τ):kl1 E (freshOf σ) (freshOf τ):=by
 unfold freshOf
 dsimp only
 exact⟨fun e=>by rw[h.count e,kp7 (h.has e)],h.env,fun e=>by dsimp only;rw[h.count e,kp7 (h.has e)],h.ev,h.has⟩
theorem Eqv.typed {E:Prop}{σ τ:W}(h:Eqv E σ τ)(t:Ty):kl1 E (typedOf σ t) (typedOf τ t):=by
 unfold typedOf
 split
 ·exact⟨fun _=>rfl,h⟩
 ·have:=h.name t.proto
  exact⟨fun e=>by rw[this.1 e],this.2⟩
theorem Eqv.formal {E:Prop}{σ τ:W}(h:Eqv E σ τ)(f:Fo):kl1 E (formalOf σ f) (formalOf τ f):=by
 have:=h.typed f.type
 exact⟨fun e=>by simp only[formalOf,this.1 e],this.2⟩
theorem Eqv.twice {E:Prop}{σ τ:W}(h:Eqv E σ τ)(l:List ByteArray):Eqv E (twiceOf σ l) (twiceOf τ l):=h.setEv (by rw[h.ev])
theorem kp8 {E:Prop}:∀ (l:List (Bool × List ByteArray)) (σ τ:W),Eqv E σ τ->EntsR E (declOf σ l).1 (declOf τ l).1/\Eqv E (declOf σ l).2 (declOf τ l).2
 |[],_,_,h=>⟨EntsR.refl _ _,h⟩
 |x::l,σ,τ,h=>by
  have h1:=h.fresh
  have h2:=kp8 l _ _ h1.2
  simp only[declOf]
  exact⟨⟨by simp only[List.map_cons,Ent.pt,h2.1.1],fun e=>by rw[h1.1 e,h2.1.2 e]⟩,h2.2⟩
theorem Eqv.head {E:Prop}{σ τ:W}(h:Eqv E σ τ)(s:Sp):kl1 E (headOf σ s) (headOf τ s)/\EntsR E (headOf σ s).1.own (headOf τ s).1.own/\EntsR E (headOf σ s).1.inner (headOf τ s).1.inner:=by
 have ho:=kp8 (s.names.map fun _=>ownTags τ.env s) _ _ (h.twice s.names)
 have hcr:(s.formals.map fun f=>(false,carriedOf σ.env f.type))=s.formals.map fun f=>(false,carriedOf τ.env f.type):=List.map_congr_left fun f _=>by rw[h.env.carried]
 unfold headOf
 rw[h.env.own,hcr]
 dsimp only
 generalize declOf (twiceOf σ s.names) (s.names.map fun _=>ownTags τ.env s)=o at ho ⊢
 generalize declOf (twiceOf τ s.names) (s.names.map fun _=>ownTags τ.env s)=o' at ho ⊢
 have hi:=kp8 (s.formals.map fun f=>(false,carriedOf τ.env f.type)) _ _ (ho.2.twice (s.formals.map (·.name)))
 generalize declOf (twiceOf o.2 (s.formals.map (·.name))) (s.formals.map fun f=>(false,carriedOf τ.env f.type))=i at hi ⊢
 generalize declOf (twiceOf o'.2 (s.formals.map (·.name))) (s.formals.map fun f=>(false,carriedOf τ.env f.type))=i' at hi ⊢
 have ht:=hi.2.typed s.type
 generalize typedOf i.2 s.type=t at ht ⊢
 generalize typedOf i'.2 s.type=t' at ht ⊢
 have hf:=mb3 s.formals _ _ (fun f _ σ τ h=>h.formal f) ht.2
 generalize y4 formalOf t.2 s.formals=f at hf ⊢
 generalize y4 formalOf t'.2 s.formals=f' at hf ⊢
 have he:=jg7 s.e _ _ hf.2
 exact⟨⟨fun e=>by rw[ho.1.2 e,hi.1.2 e,ht.1 e,hf.1 e,he.1 e],he.2⟩,ho.1,hi.1⟩
theorem jw6 (σ:W)(l:List Ex):outOf false σ l=y4 exprOf σ l:=by cases l<;>rfl
theorem Eqv.out {E:Prop}{σ τ:W}(h:Eqv E σ τ)(tag:Bool)(l:List Ex):kl1 E (outOf tag σ l) (outOf tag τ l):=by
 cases tag with
 |false=>rw[jw6,jw6];exact jk0 l h
 |true=>
  cases l with
  |nil=>exact⟨fun _=>rfl,h⟩
  |cons x l=>
   have:=jk0 l h
   simp only[outOf,if_true]
   exact⟨fun e=>by rw[this.1 e],this.2⟩
theorem Eqv.rep {E:Prop}{σ τ:W}(h:Eqv E σ τ)(r:Rp):kl1 E (repOf σ r) (repOf τ r)/\EntsR E (repOf σ r).1.2 (repOf τ r).1.2:=by
 unfold repOf
 split
 ·exact⟨⟨fun _=>rfl,h⟩,EntsR.refl _ _⟩
 ·have hf:=h.fresh
  have hb:=jg7 r.base _ _ hf.2
  have hc:=jg7 r.count _ _ hb.2
  dsimp only
  exact⟨⟨fun e=>by rw[hf.1 e,hb.1 e,hc.1 e],hc.2⟩,rfl,fun e=>by rw[hf.1 e]⟩
theorem Eqv.ghead {E:Prop}{σ τ:W}(h:Eqv E σ τ)(cond chan:Ex)(targets values:List Ex)(time:Ex):kl1 E (gheadOf σ cond chan targets values time) (gheadOf τ cond chan targets values time):=by
 have ha:=jg7 cond _ _ h
 have hb:=jg7 chan _ _ ha.2
 have hc:=jk0 targets hb.2
 have hd:=jk0 values hc.2
 have he:=jg7 time _ _ hd.2
 unfold gheadOf
 dsimp only
 exact⟨fun e=>by rw[ha.1 e,hb.1 e,hc.1 e,hd.1 e,he.1 e],he.2⟩
theorem Eqv.phead {E:Prop}{σ τ:W}(h:Eqv E σ τ)(kind:Int)(name:ByteArray)(chan:Ex)(targets exprs:List Ex)(rep:Rp):kl1 E (pheadOf σ kind name chan targets exprs rep) (pheadOf τ kind name chan targets exprs rep)/\EntsR E (pheadOf σ kind name chan targets exprs rep).1.own (pheadOf τ kind name chan targets exprs rep).1.own:=by
 have ha:kl1 E (if kind=17 then nameOf σ name else (name,σ)) (if kind=17 then nameOf τ name else (name,τ)):=by
  split
  ·exact h.name name
  ·exact⟨fun _=>rfl,h⟩
 have hc:=jg7 chan _ _ ha.2
 have ht:=jk0 targets hc.2
 have hx:=ht.2.out (taggedB τ.env kind chan exprs) exprs
 have hr:=hx.2.rep rep
 unfold pheadOf
 rw[h.env.tagged]
 dsimp only
 exact⟨⟨fun e=>by rw[ha.1 e,hc.1 e,ht.1 e,hx.1 e,hr.1.1 e],hr.1.2⟩,hr.2⟩
mutual
theorem qo4 {E:Prop}:∀ (p:Pr) (σ τ:W),Eqv E σ τ->kl1 E (prOf σ p) (prOf τ p)
 |.mk kind name chan targets exprs rep guards l procs (.mk sk st sn se spp sf sb),σ,τ,h=>by
  have hh:=h.phead kind name chan targets exprs rep
  simp only[prOf]
  generalize pheadOf σ kind name chan targets exprs rep=a at hh ⊢
  generalize pheadOf τ kind name chan targets exprs rep=a' at hh ⊢
  split
  ·have hs:=hh.1.2.head (.mk sk st sn se spp sf [])
   generalize headOf a.2 (.mk sk st sn se spp sf [])=s at hs ⊢
   generalize headOf a'.2 (.mk sk st sn se spp sf [])=s' at hs ⊢
   have hb:=ke3 sb _ _ (hs.1.2.setEnv (h.env.push (sf.map (·.name)) hs.2.2))
   generalize prsOf {s.2 with env:=pushE σ.env (sf.map (·.name)) s.1.inner} sb=b at hb ⊢
   generalize prsOf {s'.2 with env:=pushE τ.env (sf.map (·.name)) s'.1.inner} sb=b' at hb ⊢
   have hg:=mb4 guards _ _ (hb.2.setEnv (h.env.push sn hs.2.1))
   generalize gusOf {b.2 with env:=pushE σ.env sn s.1.own} guards=g at hg ⊢
   generalize gusOf {b'.2 with env:=pushE τ.env sn s'.1.own} guards=g' at hg ⊢
   have hm:=ke3 l _ _ hg.2
   exact⟨fun e=>by rw[hh.1.1 e,hs.1.1 e,hb.1 e,hg.1 e,hm.1 e],hm.2.setEnv h.env⟩
  ·have hg:=mb4 guards _ _ (hh.1.2.setEnv (h.env.push (if rep.name=ByteArray.empty then [] else [rep.name]) hh.2))
   generalize gusOf {a.2 with env:=pushE σ.env (if rep.name=ByteArray.empty then [] else [rep.name]) a.1.own} guards=g at hg ⊢
   generalize gusOf {a'.2 with env:=pushE τ.env (if rep.name=ByteArray.empty then [] else [rep.name]) a'.1.own} guards=g' at hg ⊢
   have hm:=ke3 l _ _ hg.2
   exact⟨fun e=>by rw[hh.1.1 e,hg.1 e,hm.1 e],hm.2.setEnv h.env⟩
theorem ke3 {E:Prop}:∀ (l:List Pr) (σ τ:W),Eqv E σ τ->kl1 E (prsOf σ l) (prsOf τ l)
 |[],_,_,h=>by simp only[prsOf];exact⟨fun _=>rfl,h⟩
 |e::l,σ,τ,h=>by
  have h1:=qo4 e σ τ h
  have h2:=ke3 l _ _ h1.2
  simp only[prsOf]
  exact⟨fun e=>by rw[h1.1 e,h2.1 e],h2.2⟩
theorem rb7 {E:Prop}:∀ (p:Gu) (σ τ:W),Eqv E σ τ->kl1 E (guOf σ p) (guOf τ p)
 |.mk kind name cond chan targets values time body,σ,τ,h=>by
  have hh:=h.ghead cond chan targets values time
  have hb:=ke3 body _ _ hh.2
  simp only[guOf]
  exact⟨fun e=>by rw[hh.1 e,hb.1 e],hb.2⟩
theorem mb4 {E:Prop}:∀ (l:List Gu) (σ τ:W),Eqv E σ τ->kl1 E (gusOf σ l) (gusOf τ l)
 |[],_,_,h=>by simp only[gusOf];exact⟨fun _=>rfl,h⟩
 |e::l,σ,τ,h=>by
  have h1:=rb7 e σ τ h
  have h2:=mb4 l _ _ h1.2
  simp only[gusOf]
  exact⟨fun e=>by rw[h1.1 e,h2.1 e],h2.2⟩
end
end Sc
end
section
namespace Sc
structure Grow (σ τ:W)(n:Nat):Prop where
 env:τ.env=σ.env
 tk:τ.tk=σ.tk
 ev:τ.ev.length<=σ.ev.length+n
 pre:σ.ev<+:τ.ev
 lo:0<=σ.count->σ.count<=τ.count
 hi:0<=σ.count->τ.count<=σ.count+n * (σ.tk.length+1)
theorem Grow.refl (σ:W)(n:Nat):Grow σ σ n:=⟨rfl,rfl,by omega,List.prefix_rfl,fun _=>Int.le_refl _,fun _=>by
 have:(0:Int)<=n * (σ.tk.length+1):=Int.mul_nonneg (by omega) (by omega)
 omega⟩
theorem Grow.trans {σ τ υ:W}{n m:Nat}(h:Grow σ τ n)(h2:Grow τ υ m):Grow σ υ (n+m):=by
 refine⟨h2.env.trans h.env,h2.tk.trans h.tk,?_,h.pre.trans h2.pre,fun h0=>?_,fun h0=>?_⟩
 ·have:=h.ev;have:=h2.ev;omega
 ·have:=h.lo h0;have:=h2.lo (by omega);omega
 ·have h3:=h.lo h0
  have h4:=h.hi h0
  have h5:=h2.hi (by omega)
  rw[h.tk]at h5
  have:((n+m:Nat):Int) * (σ.tk.length+1)=n * (σ.tk.length+1)+m * (σ.tk.length+1):=by rw[Int.natCast_add,Int.add_mul]
  omega
theorem Grow.mono {σ τ:W}{n m:Nat}(h:Grow σ τ n)(hm:n<=m):Grow σ τ m:=by
 have:=h.trans (Grow.refl τ (m - n))
 rwa [show n+(m - n)=m by omega]at this
theorem grow_name (σ:W)(s:ByteArray):Grow σ (nameOf σ s).2 1:=by
 unfold nameOf
 split
 ·exact Grow.refl _ _
 ·refine⟨rfl,rfl,by simp[step],List.prefix_append _ _,fun _=>Int.le_refl _,fun _=>?_⟩
  dsimp only[step]
  omega
theorem grow_map {α:Type}{f:W->α->α × W}(N:α->Nat)(hf:∀ x σ,Grow σ (f σ x).2 (N x)):∀ (l:List α) (σ:W),Grow σ (y4 f σ l).2 (l.map N).sum
 |[],σ=>Grow.refl _ _
 |x::l,σ=>by
  simp only[y4,List.map_cons,List.sum_cons]
  exact(hf x σ).trans (grow_map N hf l _)
mutual
theorem grow_expr:∀ (e:Ex) (σ:W),Grow σ (exprOf σ e).2 (exN e)
 |.mk kind op ty n s l,σ=>by
  have hr:Grow σ (if exNamed kind then nameOf σ s else (s,σ)).2 1:=by
   split
   ·exact grow_name σ s
   ·exact Grow.refl _ _
  simp only[exprOf,exN]
  rw[Nat.add_comm]
  exact hr.trans (jg9 l _)
theorem jg9:∀ (l:List Ex) (σ:W),Grow σ (z6 σ l).2 (exsN l)
 |[],σ=>by simp only[z6];exact Grow.refl _ _
 |e::l,σ=>by
  simp only[z6,exsN]
  exact(grow_expr e σ).trans (jg9 l _)
end
theorem grow_exprs2 (l:List Ex)(σ:W):Grow σ (y4 exprOf σ l).2 (exsN l):=by rw[<-ja3];exact jg9 l σ
theorem grow_fresh (σ:W):Grow σ (freshOf σ).2 1:=by
 have:=skip_tk σ (σ.count.toNat+1)
 refine⟨rfl,rfl,Nat.le_succ _,List.prefix_rfl,fun h=>?_,fun h=>?_⟩
 ·unfold freshOf
  dsimp only
  omega
 ·unfold freshOf
  dsimp only
  omega
theorem grow_typed (σ:W)(t:Ty):Grow σ (typedOf σ t).2 1:=by
 unfold typedOf
 split
 ·exact Grow.refl _ _
 ·exact grow_name σ _
theorem grow_formal (σ:W)(f:Fo):Grow σ (formalOf σ f).2 1:=grow_typed σ _
theorem grow_twice (σ:W)(l:List ByteArray):Grow σ (twiceOf σ l) l.length:=by
 refine⟨rfl,rfl,?_,List.prefix_append _ _,fun _=>Int.le_refl _,(Grow.refl σ l.length).hi⟩
 simp only[twiceOf,List.length_append,List.length_map]
 have:=List.length_filter_le (fun i=>(l.take i).any (isB (l.getD i ByteArray.empty))) (List.range l.length)
 rw[List.length_range]at this
 omega
theorem grow_decl:∀ (l:List (Bool × List ByteArray)) (σ:W),Grow σ (declOf σ l).2 l.length
 |[],σ=>Grow.refl _ _
 |x::l,σ=>by
  simp only[declOf,List.length_cons]
  rw[Nat.add_comm]
  exact(grow_fresh σ).trans (grow_decl l _)
theorem decl_len:∀ (l:List (Bool × List ByteArray)) (σ:W),(declOf σ l).1.length=l.length
 |[],σ=>rfl
 |x::l,σ=>by simp only[declOf,List.length_cons,decl_len l]
def headN (s:Sp):Nat:=2 * s.names.length+3 * s.formals.length+exN s.e+1
theorem grow_head (σ:W)(s:Sp):Grow σ (headOf σ s).2 (headN s):=by
 unfold headOf
 dsimp only
 have h1:=grow_twice σ s.names
 have h2:=grow_decl (s.names.map fun _=>ownTags σ.env s) (twiceOf σ s.names)
 generalize declOf (twiceOf σ s.names) (s.names.map fun _=>ownTags σ.env s)=o at h2 ⊢
 have h3:=grow_twice o.2 (s.formals.map (·.name))
 have h4:=grow_decl (s.formals.map fun f=>(false,carriedOf σ.env f.type)) (twiceOf o.2 (s.formals.map (·.name)))
 generalize declOf (twiceOf o.2 (s.formals.map (·.name))) (s.formals.map fun f=>(false,carriedOf σ.env f.type))=i at h4 ⊢
 have h5:=grow_typed i.2 s.type
 generalize typedOf i.2 s.type=t at h5 ⊢
 have h6:=grow_map (fun _=>1) (fun f σ=>grow_formal σ f) s.formals t.2
 generalize y4 formalOf t.2 s.formals=f at h6 ⊢
 have h7:=grow_expr s.e f.2
 have h8:(s.formals.map fun _=>1).sum=s.formals.length:=by
  generalize s.formals=l
  induction l with
  |nil=>rfl
  |cons x l ih=>simp only[List.map_cons,List.sum_cons,ih,List.length_cons];omega
 simp only[List.length_map]at h2 h3 h4
 refine((((((h1.trans h2).trans h3).trans h4).trans h5).trans h6).trans h7).mono ?_
 unfold headN
 omega
theorem grow_out (tag:Bool)(σ:W)(l:List Ex):Grow σ (outOf tag σ l).2 (exsN l):=by
 cases tag with
 |false=>rw[jw6];exact grow_exprs2 l σ
 |true=>
  cases l with
  |nil=>exact Grow.refl _ _
  |cons e l=>
   simp only[outOf,if_true]
   exact(grow_exprs2 l σ).mono (by simp only[exsN];omega)
def repN (r:Rp):Nat:=1+exN r.base+exN r.count
theorem mf3 (σ:W)(r:Rp):Grow σ (repOf σ r).2 (repN r):=by
 unfold repOf repN
 split
 ·exact Grow.refl _ _
 ·exact((grow_fresh σ).trans (grow_expr r.base _)).trans (grow_expr r.count _)
def gheadN (cond chan:Ex)(targets values:List Ex)(time:Ex):Nat:=exN cond+exN chan+exsN targets+exsN values+exN time
theorem grow_ghead (σ:W)(cond chan:Ex)(targets values:List Ex)(time:Ex):Grow σ (gheadOf σ cond chan targets values time).2 (gheadN cond chan targets values time):=
 ((((grow_expr cond σ).trans (grow_expr chan _)).trans (grow_exprs2 targets _)).trans (grow_exprs2 values _)).trans (grow_expr time _)
def pheadN (chan:Ex)(targets exprs:List Ex)(rep:Rp):Nat:=1+exN chan+exsN targets+exsN exprs+repN rep
theorem grow_phead (σ:W)(kind:Int)(name:ByteArray)(chan:Ex)(targets exprs:List Ex)(rep:Rp):Grow σ (pheadOf σ kind name chan targets exprs rep).2 (pheadN chan targets exprs rep):=by
 have ha:Grow σ (if kind=17 then nameOf σ name else (name,σ)).2 1:=by
  split
  ·exact grow_name σ name
  ·exact Grow.refl _ _
 exact(((ha.trans (grow_expr chan _)).trans (grow_exprs2 targets _)).trans (grow_out _ _ exprs)).trans (mf3 _ rep)
mutual
def prN:Pr->Nat
 |.mk _ _ chan targets exprs rep guards l _ (.mk _ _ sn se _ sf sb)=>pheadN chan targets exprs rep+(2 * sn.length+3 * sf.length+exN se+1)+prsN sb+gusN guards+prsN l
def prsN:List Pr->Nat
 |[]=>0
 |p::l=>prN p+prsN l
def guN:Gu->Nat
 |.mk _ _ cond chan targets values time body=>gheadN cond chan targets values time+prsN body
def gusN:List Gu->Nat
 |[]=>0
 |p::l=>guN p+gusN l
end
theorem Grow.setEnv {σ τ:W}{n:Nat}(e e':ByteArray->List Ent)(h:Grow {σ with env:=e} τ n):Grow σ {τ with env:=σ.env} n:=⟨rfl,h.tk,h.ev,h.pre,h.lo,h.hi⟩
mutual
theorem grow_pr:∀ (p:Pr) (σ:W),Grow σ (prOf σ p).2 (prN p)
 |.mk kind name chan targets exprs rep guards l procs (.mk sk st sn se spp sf sb),σ=>by
  have hh:=grow_phead σ kind name chan targets exprs rep
  simp only[prOf,prN]
  generalize pheadOf σ kind name chan targets exprs rep=a at hh ⊢
  split
  ·have hs:=grow_head a.2 (.mk sk st sn se spp sf [])
   generalize headOf a.2 (.mk sk st sn se spp sf [])=s at hs ⊢
   have hb:=grow_prs sb {s.2 with env:=pushE σ.env (sf.map (·.name)) s.1.inner}
   generalize prsOf {s.2 with env:=pushE σ.env (sf.map (·.name)) s.1.inner} sb=b at hb ⊢
   have hg:=grow_gus guards {b.2 with env:=pushE σ.env sn s.1.own}
   generalize gusOf {b.2 with env:=pushE σ.env sn s.1.own} guards=g at hg ⊢
   have hm:=grow_prs l g.2
   generalize prsOf g.2 l=m at hm ⊢
   have h1:=hb.setEnv _ (fun _=>[])
   have h2:=hg.setEnv _ (fun _=>[])
   have h3:Grow b.2 {m.2 with env:=b.2.env} (prsN l+gusN guards):=⟨rfl,hm.tk.trans hg.tk,by have:=hm.ev;have:=hg.ev;dsimp only at *;omega,hg.pre.trans hm.pre,fun h0=>by have:=hm.lo (by have:=hg.lo h0;dsimp only at *;omega);have:=hg.lo h0;dsimp only at *;omega,fun h0=>by
    have:=(h2.trans (m:=prsN l) (υ:={m.2 with env:=b.2.env}) ⟨rfl,hm.tk,hm.ev,hm.pre,hm.lo,hm.hi⟩).hi h0
    rw[Nat.add_comm]
    exact this⟩
   have h4:=((hh.trans hs).trans h1).trans (υ:={m.2 with env:=s.2.env}) (m:=prsN l+gusN guards) ⟨rfl,h3.tk,h3.ev,h3.pre,h3.lo,h3.hi⟩
   exact(show Grow σ {m.2 with env:=σ.env} _ from ⟨rfl,h4.tk,h4.ev,h4.pre,h4.lo,h4.hi⟩:Grow σ {m.2 with env:=σ.env} _).mono (by unfold headN;dsimp only[Sp.names,Sp.formals,Sp.e];omega)
  ·have hg:=grow_gus guards {a.2 with env:=pushE σ.env (if rep.name=ByteArray.empty then [] else [rep.name]) a.1.own}
   generalize gusOf {a.2 with env:=pushE σ.env (if rep.name=ByteArray.empty then [] else [rep.name]) a.1.own} guards=g at hg ⊢
   have hm:=grow_prs l g.2
   generalize prsOf g.2 l=m at hm ⊢
   have h2:=hg.setEnv _ (fun _=>[])
   have h3:=(hh.trans h2).trans (υ:={m.2 with env:=a.2.env}) (m:=prsN l) ⟨rfl,hm.tk,hm.ev,hm.pre,hm.lo,hm.hi⟩
   exact(show Grow σ {m.2 with env:=σ.env} _ from ⟨rfl,h3.tk,h3.ev,h3.pre,h3.lo,h3.hi⟩:Grow σ {m.2 with env:=σ.env} _).mono (by omega)
theorem grow_prs:∀ (l:List Pr) (σ:W),Grow σ (prsOf σ l).2 (prsN l)
 |[],σ=>by simp only[prsOf];exact Grow.refl _ _
 |e::l,σ=>by
  simp only[prsOf,prsN]
  exact(grow_pr e σ).trans (grow_prs l _)
theorem mb5:∀ (p:Gu) (σ:W),Grow σ (guOf σ p).2 (guN p)
 |.mk kind name cond chan targets values time body,σ=>by
  simp only[guOf,guN]
  exact(grow_ghead σ cond chan targets values time).trans (grow_prs body _)
theorem grow_gus:∀ (l:List Gu) (σ:W),Grow σ (gusOf σ l).2 (gusN l)
 |[],σ=>by simp only[gusOf];exact Grow.refl _ _
 |e::l,σ=>by
  simp only[gusOf,gusN]
  exact(mb5 e σ).trans (grow_gus l _)
end
end Sc
end
section
namespace Sc
theorem mf4:∀ l:List UInt8,Op.bytesLess l l=false
 |[]=>rfl
 |a::l=>by
  have h:¬a<a:=by simp
  simp[Op.bytesLess,h,mf4 l]
theorem ka5:∀ {a b c:List UInt8},Op.bytesLess a b=true->Op.bytesLess b c=true->Op.bytesLess a c=true
 |_,[],_,h,_=>by simp[Op.bytesLess]at h
 |_,_::_,[],_,h=>by simp[Op.bytesLess]at h
 |[],_::_,_::_,_,_=>rfl
 |x::a,y::b,z::c,h1,h2=>by
  simp only[Op.bytesLess,Bool.or_eq_true,Bool.and_eq_true,decide_eq_true_eq,beq_iff_eq]at h1 h2 ⊢
  rcases h1 with h1|⟨rfl,h1⟩
  ·rcases h2 with h2|⟨rfl,h2⟩
   ·exact .inl (UInt8.lt_trans h1 h2)
   ·exact .inl h1
  ·rcases h2 with h2|⟨rfl,h2⟩
   ·exact .inl h2
   ·exact .inr ⟨rfl,ka5 h1 h2⟩
theorem kl2:∀ a b:List UInt8,Op.bytesLess a b=true\/a=b\/Op.bytesLess b a=true
 |[],[]=>.inr (.inl rfl)
 |[],_::_=>.inl rfl
 |_::_,[]=>.inr (.inr rfl)
 |x::a,y::b=>by
  simp only[Op.bytesLess,Bool.or_eq_true,Bool.and_eq_true,decide_eq_true_eq,beq_iff_eq]
  by_cases h:x<y
  ·exact .inl (.inl h)
  ·by_cases h2:y<x
   ·exact .inr (.inr (.inl h2))
   ·have e:x=y:=UInt8.toNat_inj.1 (by rw[UInt8.lt_iff_toNat_lt]at h h2;omega)
    subst e
    rcases kl2 a b with h3|h3|h3
    ·exact .inl (.inr ⟨rfl,h3⟩)
    ·exact .inr (.inl (by rw[h3]))
    ·exact .inr (.inr (.inr ⟨rfl,h3⟩))
theorem mv3 {a b:List UInt8}(h:Op.bytesLess a b=true):Op.bytesLess b a=false:=by
 cases h2:Op.bytesLess b a with
 |false=>rfl
 |true=>have:=ka5 h h2;rw[mf4]at this;cases this
theorem rb8:∀ a b:List UInt8,a<b↔Op.bytesLess a b=true
 |[],[]=>by simp[Op.bytesLess]
 |[],_::_=>by simp[Op.bytesLess]
 |_::_,[]=>by simp[Op.bytesLess]
 |x::a,y::b=>by
  simp only[Op.bytesLess,Bool.or_eq_true,Bool.and_eq_true,decide_eq_true_eq,beq_iff_eq]
  rw[List.cons_lt_cons_iff,rb8 a b]
theorem qi3 (a b:List UInt8):a<=b↔Op.bytesLess b a=false:=by
 rw[<-List.not_lt,rb8]
 simp
def bL (s t:ByteArray):Bool:=Op.bytesLess s.data.toList t.data.toList
theorem kw8 (s:ByteArray):bL s s=false:=mf4 _
theorem mf5 {a b c:ByteArray}(h:bL a b=true)(h2:bL b c=true):bL a c=true:=ka5 h h2
theorem qt3 {s t:ByteArray}(h:s.data.toList=t.data.toList):s=t:=by
 cases s with|mk a=>cases t with|mk b=>cases a with|mk a=>cases b with|mk b=>exact congrArg (fun l=>ByteArray.mk (Array.mk l)) h
theorem rb9 (a b:ByteArray):bL a b=true\/a=b\/bL b a=true:=by
 rcases kl2 a.data.toList b.data.toList with h|h|h
 ·exact .inl h
 ·exact .inr (.inl (qt3 h))
 ·exact .inr (.inr h)
def SortU (l:List ByteArray):Prop:=l.Pairwise fun a b=>bL a b=true
def ky9:List ByteArray->ByteArray->List ByteArray
 |[],s=>[s]
 |x::l,s=>if bL x s then x::ky9 l s else if x=s then x::l else s::x::l
theorem mf6 {l:List ByteArray}{s x:ByteArray}:x∈ky9 l s↔x∈l\/x=s:=by
 induction l with
 |nil=>simp[ky9]
 |cons y l ih=>
  simp only[ky9]
  split
  ·simp only[List.mem_cons,ih,or_assoc]
  ·split
   ·rename_i h;subst h;simp only[List.mem_cons];constructor
    ·exact .inl
    ·rintro(h|rfl)
     ·exact h
     ·exact .inl rfl
   ·simp only[List.mem_cons]
    constructor
    ·rintro(h|h)
     ·exact .inr h
     ·exact .inl h
    ·rintro(h|h)
     ·exact .inr h
     ·exact .inl h
theorem mb6 {l:List ByteArray}(h:SortU l)(s:ByteArray):SortU (ky9 l s):=by
 unfold SortU at *
 induction l with
 |nil=>simp[ky9]
 |cons y l ih=>
  rw[List.pairwise_cons]at h
  simp only[ky9]
  split
  ·rename_i hy
   refine List.pairwise_cons.2 ⟨fun x hx=>?_,ih h.2⟩
   rcases mf6.1 hx with hx|rfl
   ·exact h.1 x hx
   ·exact hy
  ·split
   ·exact List.pairwise_cons.2 h
   ·rename_i h1 h2
    have h3:bL s y=true:=by
     rcases rb9 y s with h4|h4|h4
     ·exact absurd h4 h1
     ·exact absurd h4 h2
     ·exact h4
    refine List.pairwise_cons.2 ⟨fun x hx=>?_,List.pairwise_cons.2 h⟩
    rcases List.mem_cons.1 hx with rfl|hx
    ·exact h3
    ·exact mf5 h3 (h.1 x hx)
def once (l:List ByteArray):List ByteArray:=l.foldl ky9 []
theorem mf7 {x:ByteArray}:∀ (l m:List ByteArray),x∈l.foldl ky9 m↔x∈m\/x∈l
 |[],m=>by simp
 |y::l,m=>by rw[List.foldl_cons,mf7 l,mf6,List.mem_cons,or_assoc]
theorem ke4:∀ (l m:List ByteArray),SortU m->SortU (l.foldl ky9 m)
 |[],_,h=>h
 |y::l,m,h=>ke4 l _ (mb6 h y)
theorem mf8 {x:ByteArray}{l:List ByteArray}:x∈once l↔x∈l:=by simp[once,mf7]
theorem once_sorted (l:List ByteArray):SortU (once l):=ke4 l [] List.Pairwise.nil
theorem mf9:∀ {l m:List ByteArray},SortU l->SortU m->(∀ x,x∈l↔x∈m)->l=m
 |[],[],_,_,_=>rfl
 |[],y::m,_,_,h=>by have:=(h y).2 List.mem_cons_self;cases this
 |y::l,[],_,_,h=>by have:=(h y).1 List.mem_cons_self;cases this
 |x::l,y::m,h1,h2,h=>by
  unfold SortU at h1 h2
  rw[List.pairwise_cons]at h1 h2
  have e:x=y:=by
   rcases List.mem_cons.1 ((h x).1 List.mem_cons_self) with e|hx
   ·exact e
   ·rcases List.mem_cons.1 ((h y).2 List.mem_cons_self) with e|hy
    ·exact e.symm
    ·have h3:=h2.1 x hx
     have h4:=h1.1 y hy
     have:=mf5 h3 h4
     rw[kw8]at this
     cases this
  subst e
  rw[mf9 (l:=l) (m:=m) h1.2 h2.2 fun z=>?_]
  have hz:=h z
  simp only[List.mem_cons]at hz
  constructor
  ·intro hm
   rcases hz.1 (.inr hm) with rfl|h5
   ·have:=h1.1 z hm;rw[kw8]at this;cases this
   ·exact h5
  ·intro hm
   rcases hz.2 (.inr hm) with rfl|h5
   ·have:=h2.1 z hm;rw[kw8]at this;cases this
   ·exact h5
theorem kw9 (d:Array (List UInt8))(hs:∀ i j,i<j->j<d.size->Op.bytesLess d[j]! d[i]! =false):∀ m,m<=d.size->
 (Lib.compactUpTo d m).Pairwise (fun a b=>Op.bytesLess a b=true)/\(∀ x,x∈Lib.compactUpTo d m↔∃ j,j<m/\d[j]! =x):=by
 intro m
 induction m with
 |zero=>intro _;simp[Lib.compactUpTo]
 |succ m ih=>
  intro hm
  obtain⟨h1,h2⟩:=ih (by omega)
  rw[Lib.compactUpTo_succ]
  have hlt:∀ x,(∃ j,j<m+1/\d[j]! =x)↔(∃ j,j<m/\d[j]! =x)\/d[m]! =x:=fun x=>by
   constructor
   ·rintro⟨j,hj,e⟩
    rcases Nat.lt_or_ge j m with h|h
    ·exact .inl ⟨j,h,e⟩
    ·obtain rfl:j=m:=by omega
     exact .inr e
   ·rintro(⟨j,hj,e⟩|e)
    ·exact⟨j,by omega,e⟩
    ·exact⟨m,by omega,e⟩
  by_cases hk:Lib.keeps d m=true
  ·rw[if_pos hk]
   refine⟨List.pairwise_append.2 ⟨h1,List.pairwise_singleton _ _,fun a ha b hb=>?_⟩,fun x=>?_⟩
   ·obtain rfl:=List.mem_singleton.1 hb
    obtain⟨j,hj,rfl⟩:=(h2 a).1 ha
    have h3:=hs j m hj (by omega)
    rcases kl2 d[j]! d[m]! with h4|h4|h4
    ·exact h4
    ·exfalso
     simp only[Lib.keeps,decide_eq_true_eq]at hk
     rcases hk with hk|hk
     ·omega
     ·apply hk
      rcases kl2 d[m - 1]! d[m]! with h5|h5|h5
      ·rcases Nat.lt_or_ge j (m - 1) with h6|h6
       ·have h7:=hs j (m - 1) h6 (by omega)
        rw[h4,h5]at h7
        cases h7
       ·obtain rfl:j=m - 1:=by omega
        exact h4.symm
      ·exact h5.symm
      ·have h7:=hs (m - 1) m (by omega) (by omega)
       rw[h7]at h5
       cases h5
    ·rw[h3]at h4;cases h4
   ·rw[List.mem_append,h2,hlt,List.mem_singleton]
    constructor
    ·rintro(h|h)
     ·exact .inl h
     ·exact .inr h.symm
    ·rintro(h|h)
     ·exact .inl h
     ·exact .inr h.symm
  ·rw[if_neg hk,List.append_nil]
   refine⟨h1,fun x=>?_⟩
   rw[h2,hlt]
   constructor
   ·exact .inl
   ·rintro(h|rfl)
    ·exact h
    ·simp only[Lib.keeps,decide_eq_true_eq,not_or,Classical.not_not]at hk
     exact⟨m - 1,by omega,hk.2.symm⟩
def toB (l:List UInt8):ByteArray:=⟨l.toArray⟩
def sortL (l:List ByteArray):List (List UInt8):=(l.map fun s=>s.data.toList).mergeSort fun x y=>decide (x<=y)
theorem mk7 (l:List ByteArray):(sortL l).Pairwise fun a b=>Op.bytesLess b a=false:=by
 have h:=List.pairwise_mergeSort (le:=fun x y:List UInt8=>decide (x<=y)) (fun a b c h1 h2=>by
  rw[decide_eq_true_eq,qi3]at *
  rcases kl2 c a with h3|h3|h3
  ·exfalso
   rcases kl2 b c with h4|h4|h4
   ·have:=ka5 h4 h3;rw[h1]at this;cases this
   ·subst h4;rw[h3]at h1;cases h1
   ·rw[h4]at h2;cases h2
  ·subst h3;exact mf4 _
  ·exact mv3 h3) (fun a b=>by
  rw[Bool.or_eq_true,decide_eq_true_eq,decide_eq_true_eq,qi3,qi3]
  cases h:Op.bytesLess b a with
  |false=>exact .inl rfl
  |true=>exact .inr (mv3 h)) (l.map fun s=>s.data.toList)
 exact h.imp fun h=>by rwa [decide_eq_true_eq,qi3]at h
theorem compact_once (l:List ByteArray):(Lib.compact (sortL l)).map toB=once l:=by
 have hp:=mk7 l
 rw[List.pairwise_iff_getElem]at hp
 have hg:∀ j,j<(sortL l).length->(sortL l).toArray[j]! =(sortL l)[j]!:=fun j hj=>by simp[hj]
 obtain⟨h1,h2⟩:=kw9 (sortL l).toArray (fun i j hij hj=>by
  have hj':j<(sortL l).length:=by simpa using hj
  have hi':i<(sortL l).length:=by omega
  have:=hp i j hi' hj' hij
  simpa [hi',hj']using this) (sortL l).length (by simp)
 refine mf9 (List.pairwise_map.2 h1) (once_sorted l) fun x=>?_
 rw[mf8,List.mem_map]
 have hmem:∀ y,y∈sortL l↔y∈l.map fun s=>s.data.toList:=fun y=>List.mem_mergeSort
 constructor
 ·rintro⟨y,hy,rfl⟩
  obtain⟨j,hj,rfl⟩:=(h2 y).1 hy
  have:(sortL l).toArray[j]!∈sortL l:=by simp[hj]
  obtain⟨s,hs,e⟩:=List.mem_map.1 ((hmem _).1 this)
  rw[<-e]
  exact hs
 ·intro hx
  have:=(hmem _).2 (List.mem_map.2 ⟨x,hx,rfl⟩)
  obtain⟨j,hj,e⟩:=List.mem_iff_getElem.1 this
  exact⟨_,(h2 _).2 ⟨j,hj,by simpa [hj]using e⟩,rfl⟩
end Sc
end
section
namespace Sc
mutual
def declPr:Pr->List ByteArray
 |.mk _ _ _ _ _ rep guards l _ (.mk _ _ sn _ _ sf sb)=>(if rep.name=ByteArray.empty then [] else [rep.name])++(sn++(sf.map (·.name)++(declPrs sb++(declGus guards++declPrs l))))
def declPrs:List Pr->List ByteArray
 |[]=>[]
 |p::l=>declPr p++declPrs l
def declGu:Gu->List ByteArray
 |.mk _ _ _ _ _ _ _ body=>declPrs body
def declGus:List Gu->List ByteArray
 |[]=>[]
 |g::l=>declGu g++declGus l
end
end Sc
end
end Go.Proofs.YtdopmfifmgkmoaaGreatDoor
