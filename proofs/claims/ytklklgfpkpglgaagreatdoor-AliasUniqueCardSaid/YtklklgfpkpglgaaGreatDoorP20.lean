/- Parts: S7, S8, S9, S10, S11, S15. -/
import Derived.Test.YtklklgfpkpglgaaGreatDoorP36
import Derived.Lib.SlicesCompact
set_option linter.all false
set_option maxRecDepth 100000
set_option maxHeartbeats 16000000
namespace Go.Proofs.YtklklgfpkpglgaaGreatDoor
open Go.RowKit Go.Proofs.Tryz
section
namespace Sc
def dec (n:Nat):List UInt8:=if h:n<10 then [UInt8.ofNat (48+n)] else dec (n / 10)++[UInt8.ofNat (48+n % 10)]
def newName (n:Nat):ByteArray:=⟨(110::dec n).toArray⟩
def W.has (σ:W)(s:ByteArray):Prop:=s∈σ.tk.map (·.1)
open Classical in
noncomputable def skip (σ:W):Nat->Nat->Nat
 |0,_=>0
 |f+1,n=>if σ.has (newName n) then skip σ f (n+1)+1 else 0
noncomputable def Cu (σ:W):ByteArray × W:=
 let n:=σ.count.toNat+1+skip σ (σ.tk.length+1) (σ.count.toNat+1)
 (newName n,{σ with count:=n})
def Ct (env:ByteArray->List Ent)(t:Ty):List ByteArray:=
 if t.kind=4/\t.proto≠ByteArray.empty then (match (env t.proto).getLast? with
  |some x=>if x.proto then x.tags else []
  |none=>[]) else []
def Dm (σ:W)(t:Ty):Ty × W:=if t.proto=ByteArray.empty then (t,σ) else ({t with proto:=(nameOf σ t.proto).1},(nameOf σ t.proto).2)
def Cw (σ:W)(f:Fo):Fo × W:=({f with type:=(Dm σ f.type).1},(Dm σ f.type).2)
noncomputable def Cr (σ:W)(l:List ByteArray):W:={σ with ev:=σ.ev++(((List.range l.length).filter fun i=>(l.take i).any (isB (l.getD i ByteArray.empty))).map fun i=>(l.getD i ByteArray.empty,true))}
noncomputable def Cs (σ:W):List (Bool × List ByteArray)->List Ent × W
 |[]=>([],σ)
 |x::l=>(⟨(Cu σ).1,x.1,x.2⟩::(Cs (Cu σ).2 l).1,(Cs (Cu σ).2 l).2)
def Cm (env:ByteArray->List Ent):List ByteArray->List Ent->ByteArray->List Ent
 |s::ns,x::xs=>Cm (fun t=>if t=s then env t++[x] else env t) ns xs
 |_,_=>env
def named:List Fo->List ByteArray->List Fo
 |f::l,s::ns=>{f with name:=s}::named l ns
 |_,_=>[]
def Ni (s:Sp):List ByteArray:=if s.proto.cases then s.proto.l.map (·.tag) else []
def Dv (env:ByteArray->List Ent)(s:Sp):Bool × List ByteArray:=if s.kind=4 then (true,Ni s) else (false,Ct env s.type)
structure Head where
 names:List ByteArray
 type:Ty
 formals:List Fo
 e:Ex
 own:List Ent
 inner:List Ent
noncomputable def Gl (σ:W)(s:Sp):Head × W:=
 let o:=Cs (Cr σ s.names) (s.names.map fun _=>Dv σ.env s)
 let i:=Cs (Cr o.2 (s.formals.map (·.name))) (s.formals.map fun f=>(false,Ct σ.env f.type))
 let t:=Dm i.2 s.type
 let f:=v7 Cw t.2 s.formals
 let e:=Cj f.2 s.e
 (⟨o.1.map (·.fresh),t.1,named f.1 (i.1.map (·.fresh)),e.1,o.1,i.1⟩,e.2)
noncomputable def Db (env:ByteArray->List Ent)(kind:Int)(chan:Ex)(exprs:List Ex):Bool:=
 if kind=5 then (match exprs with
  |e::_=>decide (e.kind=4) && (match (env chan.s).getLast? with
   |some x=>!x.proto && x.tags.any (isB e.s)
   |none=>false)
  |[]=>false) else false
def Du (tag:Bool)(σ:W):List Ex->List Ex × W
 |[]=>([],σ)
 |e::l=>if tag then (e::(v7 Cj σ l).1,(v7 Cj σ l).2) else v7 Cj σ (e::l)
noncomputable def Jc (σ:W)(r:Rp):(Rp × List Ent) × W:=
 if r.name=ByteArray.empty then ((r,[]),σ)
 else
  let f:=Cu σ
  let b:=Cj f.2 r.base
  let c:=Cj b.2 r.count
  ((⟨f.1,b.1,c.1⟩,[⟨f.1,false,[]⟩]),c.2)
structure GHead where
 cond:Ex
 chan:Ex
 targets:List Ex
 values:List Ex
 time:Ex
def Hl (σ:W)(cond chan:Ex)(targets values:List Ex)(time:Ex):GHead × W:=
 let a:=Cj σ cond
 let b:=Cj a.2 chan
 let c:=v7 Cj b.2 targets
 let d:=v7 Cj c.2 values
 let e:=Cj d.2 time
 (⟨a.1,b.1,c.1,d.1,e.1⟩,e.2)
structure PHead where
 name:ByteArray
 chan:Ex
 targets:List Ex
 exprs:List Ex
 rep:Rp
 own:List Ent
noncomputable def Fz (σ:W)(kind:Int)(name:ByteArray)(chan:Ex)(targets exprs:List Ex)(rep:Rp):PHead × W:=
 let a:=if kind=17 then nameOf σ name else (name,σ)
 let c:=Cj a.2 chan
 let t:=v7 Cj c.2 targets
 let x:=Du (Db σ.env kind chan exprs) t.2 exprs
 let r:=Jc x.2 rep
 (⟨a.1,c.1,t.1,x.1,r.1.1,r.1.2⟩,r.2)
mutual
noncomputable def Fx (σ:W):Pr->Pr × W
 |.mk kind name chan targets exprs rep guards l procs (.mk sk st sn se spp sf sb)=>
  let h:=Fz σ kind name chan targets exprs rep
  if kind=18 then
   let s:=Gl h.2 (.mk sk st sn se spp sf [])
   let b:=Ga {s.2 with env:=Cm σ.env (sf.map (·.name)) s.1.inner} sb
   let g:=Gm {b.2 with env:=Cm σ.env sn s.1.own} guards
   let m:=Ga g.2 l
   (.mk kind h.1.name h.1.chan h.1.targets h.1.exprs h.1.rep g.1 m.1 procs (.mk sk s.1.type s.1.names s.1.e spp s.1.formals b.1),{m.2 with env:=σ.env})
  else
   let g:=Gm {h.2 with env:=Cm σ.env (if rep.name=ByteArray.empty then [] else [rep.name]) h.1.own} guards
   let m:=Ga g.2 l
   (.mk kind h.1.name h.1.chan h.1.targets h.1.exprs h.1.rep g.1 m.1 procs (.mk sk st sn se spp sf sb),{m.2 with env:=σ.env})
noncomputable def Ga (σ:W):List Pr->List Pr × W
 |[]=>([],σ)
 |p::l=>((Fx σ p).1::(Ga (Fx σ p).2 l).1,(Ga (Fx σ p).2 l).2)
noncomputable def Iu (σ:W):Gu->Gu × W
 |.mk kind name cond chan targets values time body=>
  let h:=Hl σ cond chan targets values time
  let b:=Ga h.2 body
  (.mk kind name h.1.cond h.1.chan h.1.targets h.1.values h.1.time b.1,b.2)
noncomputable def Gm (σ:W):List Gu->List Gu × W
 |[]=>([],σ)
 |g::l=>((Iu σ g).1::(Gm (Iu σ g).2 l).1,(Gm (Iu σ g).2 l).2)
end
theorem Mh:∀ (l:List Pr) (σ:W),Ga σ l=v7 Fx σ l
 |[],σ=>by simp[Ga,v7]
 |e::l,σ=>by simp only[Ga,v7,Mh l]
theorem Oh:∀ (l:List Gu) (σ:W),Gm σ l=v7 Iu σ l
 |[],σ=>by simp[Gm,v7]
 |e::l,σ=>by simp only[Gm,v7,Oh l]
end Sc
end
section
namespace Sc
def qf6 (l:List UInt8):Nat:=l.foldl (fun a c=>10 * a+(c.toNat - 48)) 0
theorem qf7:∀ (m n:Nat),n<=m->qf6 (dec n)=n:=by
 intro m
 induction m with
 |zero=>
  intro n h;obtain rfl:n=0:=by omega
  rw[dec];rfl
 |succ m ih=>
  intro n h;rw[dec];split
  ·rename_i h10;have:(UInt8.ofNat (48+n)).toNat=48+n:=by rw[UInt8.toNat_ofNat'];omega
   simp only[qf6,List.foldl_cons,List.foldl_nil,this];omega
  ·rename_i h10;have:=ih (n / 10) (by omega);have h2:(UInt8.ofNat (48+n % 10)).toNat=48+n % 10:=by rw[UInt8.toNat_ofNat'];omega
   unfold qf6 at this ⊢;rw[List.foldl_append,this];simp only[List.foldl_cons,List.foldl_nil,h2];omega
theorem rl0 {m n:Nat}(h:dec m=dec n):m=n:=by
 rw[<-qf7 m m (Au _),h,qf7 n n (Au _)]
theorem Mq {m n:Nat}(h:newName m=newName n):m=n:=by
 have h2:=congrArg (fun b=>b.data.toList) h;simp only[newName]at h2;exact rl0 (List.cons.inj h2).2
theorem md4 {α:Type}[DecidableEq α]:∀ (l m:List α),l.Nodup->(∀ x∈l,x∈m)->l.length<=m.length
 |[],_,_,_=>Ai _
 |x::l,m,hn,hs=>by
  rw[List.nodup_cons]at hn;have h:=md4 l (m.erase x) hn.2 fun y hy=>by
   have hne:y≠x:=fun e=>hn.1 (e ▸ hy);exact(List.mem_erase_of_ne hne).2 (hs y (Bb _ hy))
  have hx:=hs x Az;have h2:=List.length_erase_of_mem hx;have h3:=List.length_pos_of_mem hx;simp only[An];omega
theorem Qe (σ:W):∀ f n i,i<skip σ f n->σ.has (newName (n+i))
 |0,n,i,h=>by simp[skip]at h
 |f+1,n,i,h=>by
  simp only[skip]at h;split at h
  ·rename_i hh;cases i with
   |zero=>exact hh
   |succ i=>
    have:=Qe σ f (n+1) i (by omega)
    rwa [show n+1+i=n+(i+1) by omega]at this
  ·omega
theorem mq8 (σ:W):∀ f n,skip σ f n<f->¬σ.has (newName (n+skip σ f n))
 |0,n,h=>by simp[skip]at h
 |f+1,n,h=>by
  simp only[skip]at h ⊢;split
  ·rename_i hh;rw[Ad hh]at h;have:=mq8 σ f (n+1) (by omega)
   rwa [show n+1+skip σ f (n+1)=n+(skip σ f (n+1)+1) by omega]at this
  ·rename_i hh;exact hh
theorem ml5 (n:Nat):∀ k,((List.range k).map fun i=>newName (n+i)).Nodup:=fun k=>by
 have:=List.nodup_range (n:=k);rw[List.nodup_iff_pairwise_ne]at this ⊢;refine List.pairwise_map.2 (this.imp fun h e=>h ?_);have:=Mq e;omega
theorem Ue (σ:W)(n:Nat):skip σ (σ.tk.length+1) n<=σ.tk.length:=by
 have h:=md4 ((List.range (skip σ (σ.tk.length+1) n)).map fun i=>newName (n+i)) (σ.tk.map (·.1)) (ml5 _ _) fun x hx=>by
  obtain⟨i,hi,rfl⟩:=Bl.1 hx;exact Qe σ _ n i (Ew.1 hi)
 simpa using h
theorem Qi (σ:W)(n:Nat):¬σ.has (newName (n+skip σ (σ.tk.length+1) n)):=mq8 σ _ n (by have:=Ue σ n;omega)
end Sc
end
section
namespace Sc
def Ent.pt (x:Ent):Bool × List ByteArray:=(x.proto,x.tags)
def Nc (E:Prop)(l m:List Ent):Prop:=l.map Ent.pt=m.map Ent.pt/\(E->l=m)
def Qv (E:Prop)(f g:ByteArray->List Ent):Prop:=∀ s,Nc E (f s) (g s)
structure Eqv (E:Prop)(σ τ:W):Prop where
 env:Qv E σ.env τ.env
 count:E->σ.count=τ.count
 ev:σ.ev=τ.ev
 has:E->∀ s,σ.has s↔τ.has s
def kq5 (E:Prop){α:Type}(a b:α × W):Prop:=(E->a.1=b.1)/\Eqv E a.2 b.2
theorem Nc.refl (E:Prop)(l:List Ent):Nc E l l:=⟨rfl,fun _=>rfl⟩
theorem Eqv.setEnv {E:Prop}{σ τ:W}(h:Eqv E σ τ){e e':ByteArray->List Ent}(he:Qv E e e'):Eqv E {σ with env:=e} {τ with env:=e'}:=⟨he,h.count,h.ev,h.has⟩
theorem Eqv.setEv {E:Prop}{σ τ:W}(h:Eqv E σ τ){e e':List (ByteArray × Bool)}(he:e=e'):Eqv E {σ with ev:=e} {τ with ev:=e'}:=⟨h.env,h.count,he,h.has⟩
theorem Qv.last {E:Prop}{f g:ByteArray->List Ent}(h:Qv E f g)(s:ByteArray):(f s).getLast?.map Ent.pt=(g s).getLast?.map Ent.pt:=by rw[<-List.getLast?_map,<-List.getLast?_map,(h s).1]
theorem Nc.append {E:Prop}{l m l' m':List Ent}(h:Nc E l m)(h':Nc E l' m'):Nc E (l++l') (m++m'):=⟨by rw[As,As,h.1,h'.1],fun e=>by rw[h.2 e,h'.2 e]⟩
theorem Qv.push {E:Prop}:∀ (ns:List ByteArray) {xs ys:List Ent} {f g:ByteArray->List Ent},Qv E f g->Nc E xs ys->Qv E (Cm f ns xs) (Cm g ns ys)
 |[],[],[],_,_,h,_=>h
 |[],[],_::_,_,_,h,_=>h
 |[],_::_,[],_,_,h,_=>h
 |[],_::_,_::_,_,_,h,_=>h
 |_::_,[],[],_,_,h,_=>h
 |_::_,[],_::_,_,_,_,h'=>by have:=h'.1;simp at this
 |_::_,_::_,[],_,_,_,h'=>by have:=h'.1;simp at this
 |s::ns,x::xs,y::ys,f,g,h,h'=>by
  have h1:=h'.1;simp only[Aq,List.cons.injEq]at h1;simp only[Cm];refine Qv.push ns (fun t=>?_) ⟨h1.2,fun e=>(List.cons.inj (h'.2 e)).2⟩;split
  ·exact(h t).append ⟨by simp only[Aq,Ax,h1.1],fun e=>by rw[(List.cons.inj (h'.2 e)).1]⟩
  ·exact h t
theorem Qv.carried {E:Prop}{f g:ByteArray->List Ent}(h:Qv E f g)(t:Ty):Ct f t=Ct g t:=by
 unfold Ct;have:=h.last t.proto;split
 ·cases h1:(f t.proto).getLast? with
  |none=>
   cases h2:(g t.proto).getLast? with
   |none=>rfl
   |some y=>rw[h1,h2]at this;cases this
  |some x=>
   cases h2:(g t.proto).getLast? with
   |none=>rw[h1,h2]at this;cases this
   |some y=>
    rw[h1,h2]at this;simp only[Ey,Bf,Ent.pt,Prod.mk.injEq]at this;simp only[this.1,this.2]
 ·rfl
theorem Qv.own {E:Prop}{f g:ByteArray->List Ent}(h:Qv E f g)(s:Sp):Dv f s=Dv g s:=by
 unfold Dv;rw[h.carried]
theorem Qv.tagged {E:Prop}{f g:ByteArray->List Ent}(h:Qv E f g)(kind:Int)(chan:Ex)(exprs:List Ex):Db f kind chan exprs=Db g kind chan exprs:=by
 unfold Db;have:=h.last chan.s;split
 ·cases exprs with
  |nil=>rfl
  |cons e l=>
   dsimp only;cases h1:(f chan.s).getLast? with
   |none=>
    cases h2:(g chan.s).getLast? with
    |none=>rfl
    |some y=>rw[h1,h2]at this;cases this
   |some x=>
    cases h2:(g chan.s).getLast? with
    |none=>rw[h1,h2]at this;cases this
    |some y=>
     rw[h1,h2]at this;simp only[Ey,Bf,Ent.pt,Prod.mk.injEq]at this;simp only[this.1,this.2]
 ·rfl
theorem Eqv.name {E:Prop}{σ τ:W}(h:Eqv E σ τ)(s:ByteArray):kq5 E (nameOf σ s) (nameOf τ s):=by
 unfold nameOf;have:=h.env.last s;have he:=(h.env s).2;cases h1:(σ.env s).getLast? with
 |none=>
  cases h2:(τ.env s).getLast? with
  |none=>exact⟨fun _=>rfl,h.setEv (by rw[h.ev])⟩
  |some y=>rw[h1,h2]at this;cases this
 |some x=>
  cases h2:(τ.env s).getLast? with
  |none=>rw[h1,h2]at this;cases this
  |some y=>
   refine⟨fun e=>?_,h⟩;rw[he e,h2]at h1;cases h1;rfl
theorem ml6 {E:Prop}{α:Type}{f:W->α->α × W}:∀ (l:List α) (σ τ:W),(∀ x∈l,∀ σ τ,Eqv E σ τ->kq5 E (f σ x) (f τ x))->Eqv E σ τ->kq5 E (v7 f σ l) (v7 f τ l)
 |[],_,_,_,h=>⟨fun _=>rfl,h⟩
 |x::l,σ,τ,hf,h=>by
  have h1:=hf x Az σ τ h;have h2:=ml6 l _ _ (fun y hy=>hf y (Bb _ hy)) h1.2;simp only[v7];exact⟨fun e=>by rw[h1.1 e,h2.1 e],h2.2⟩
mutual
theorem jj0 {E:Prop}:∀ (e:Ex) (σ τ:W),Eqv E σ τ->kq5 E (Cj σ e) (Cj τ e)
 |.mk kind op ty n s l,σ,τ,h=>by
  have hr:kq5 E (if Dl kind then nameOf σ s else (s,σ)) (if Dl kind then nameOf τ s else (s,τ)):=by
   split
   ·exact h.name s
   ·exact⟨fun _=>rfl,h⟩
  simp only[Cj];have hq:=md5 l _ _ hr.2;exact⟨fun e=>by rw[hr.1 e,hq.1 e],hq.2⟩
theorem md5 {E:Prop}:∀ (l:List Ex) (σ τ:W),Eqv E σ τ->kq5 E (x6 σ l) (x6 τ l)
 |[],_,_,h=>by simp only[x6];exact⟨fun _=>rfl,h⟩
 |e::l,σ,τ,h=>by
  have h1:=jj0 e σ τ h;have h2:=md5 l _ _ h1.2;simp only[x6];exact⟨fun e=>by rw[h1.1 e,h2.1 e],h2.2⟩
end
theorem jm9 {E:Prop}(l:List Ex){σ τ:W}(h:Eqv E σ τ):kq5 E (v7 Cj σ l) (v7 Cj τ l):=ml6 l σ τ (fun x _=>jj0 x) h
theorem kv4 {σ τ:W}(h:∀ s,σ.has s↔τ.has s)(n:Nat):skip σ (σ.tk.length+1) n=skip τ (τ.tk.length+1) n:=by
 rcases Nat.lt_trichotomy (skip σ (σ.tk.length+1) n) (skip τ (τ.tk.length+1) n) with h1|h1|h1
 ·exact absurd ((h _).2 (Qe τ _ n _ h1)) (Qi σ n)
 ·exact h1
 ·exact absurd ((h _).1 (Qe σ _ n _ h1)) (Qi τ n)
theorem Eqv.fresh {E:Prop}{σ τ:W}(h:Eqv E σ τ):kq5 E (Cu σ) (Cu τ):=by
 unfold Cu;dsimp only;exact⟨fun e=>by rw[h.count e,kv4 (h.has e)],h.env,fun e=>by dsimp only;rw[h.count e,kv4 (h.has e)],h.ev,h.has⟩
theorem Eqv.typed {E:Prop}{σ τ:W}(h:Eqv E σ τ)(t:Ty):kq5 E (Dm σ t) (Dm τ t):=by
 unfold Dm;split
 ·exact⟨fun _=>rfl,h⟩
 ·have:=h.name t.proto;exact⟨fun e=>by rw[this.1 e],this.2⟩
theorem Eqv.formal {E:Prop}{σ τ:W}(h:Eqv E σ τ)(f:Fo):kq5 E (Cw σ f) (Cw τ f):=by
 have:=h.typed f.type;exact⟨fun e=>by simp only[Cw,this.1 e],this.2⟩
theorem Eqv.twice {E:Prop}{σ τ:W}(h:Eqv E σ τ)(l:List ByteArray):Eqv E (Cr σ l) (Cr τ l):=h.setEv (by rw[h.ev])
theorem kv5 {E:Prop}:∀ (l:List (Bool × List ByteArray)) (σ τ:W),Eqv E σ τ->Nc E (Cs σ l).1 (Cs τ l).1/\Eqv E (Cs σ l).2 (Cs τ l).2
 |[],_,_,h=>⟨Nc.refl _ _,h⟩
 |x::l,σ,τ,h=>by
  have h1:=h.fresh;have h2:=kv5 l _ _ h1.2;simp only[Cs];exact⟨⟨by simp only[Aq,Ent.pt,h2.1.1],fun e=>by rw[h1.1 e,h2.1.2 e]⟩,h2.2⟩
theorem Eqv.head {E:Prop}{σ τ:W}(h:Eqv E σ τ)(s:Sp):kq5 E (Gl σ s) (Gl τ s)/\Nc E (Gl σ s).1.own (Gl τ s).1.own/\Nc E (Gl σ s).1.inner (Gl τ s).1.inner:=by
 have ho:=kv5 (s.names.map fun _=>Dv τ.env s) _ _ (h.twice s.names);have hcr:(s.formals.map fun f=>(false,Ct σ.env f.type))=s.formals.map fun f=>(false,Ct τ.env f.type):=List.map_congr_left fun f _=>by rw[h.env.carried]
 unfold Gl;rw[h.env.own,hcr];dsimp only;generalize Cs (Cr σ s.names) (s.names.map fun _=>Dv τ.env s)=o at ho ⊢;generalize Cs (Cr τ s.names) (s.names.map fun _=>Dv τ.env s)=o' at ho ⊢;have hi:=kv5 (s.formals.map fun f=>(false,Ct τ.env f.type)) _ _ (ho.2.twice (s.formals.map (·.name)));generalize Cs (Cr o.2 (s.formals.map (·.name))) (s.formals.map fun f=>(false,Ct τ.env f.type))=i at hi ⊢;generalize Cs (Cr o'.2 (s.formals.map (·.name))) (s.formals.map fun f=>(false,Ct τ.env f.type))=i' at hi ⊢;have ht:=hi.2.typed s.type;generalize Dm i.2 s.type=t at ht ⊢;generalize Dm i'.2 s.type=t' at ht ⊢;have hf:=ml6 s.formals _ _ (fun f _ σ τ h=>h.formal f) ht.2;generalize v7 Cw t.2 s.formals=f at hf ⊢;generalize v7 Cw t'.2 s.formals=f' at hf ⊢;have he:=jj0 s.e _ _ hf.2;exact⟨⟨fun e=>by rw[ho.1.2 e,hi.1.2 e,ht.1 e,hf.1 e,he.1 e],he.2⟩,ho.1,hi.1⟩
theorem kb6 (σ:W)(l:List Ex):Du false σ l=v7 Cj σ l:=by cases l<;>rfl
theorem Eqv.out {E:Prop}{σ τ:W}(h:Eqv E σ τ)(tag:Bool)(l:List Ex):kq5 E (Du tag σ l) (Du tag τ l):=by
 cases tag with
 |false=>rw[kb6,kb6];exact jm9 l h
 |true=>
  cases l with
  |nil=>exact⟨fun _=>rfl,h⟩
  |cons x l=>
   have:=jm9 l h;simp only[Du,if_true];exact⟨fun e=>by rw[this.1 e],this.2⟩
theorem Eqv.rep {E:Prop}{σ τ:W}(h:Eqv E σ τ)(r:Rp):kq5 E (Jc σ r) (Jc τ r)/\Nc E (Jc σ r).1.2 (Jc τ r).1.2:=by
 unfold Jc;split
 ·exact⟨⟨fun _=>rfl,h⟩,Nc.refl _ _⟩
 ·have hf:=h.fresh;have hb:=jj0 r.base _ _ hf.2;have hc:=jj0 r.count _ _ hb.2;dsimp only;exact⟨⟨fun e=>by rw[hf.1 e,hb.1 e,hc.1 e],hc.2⟩,rfl,fun e=>by rw[hf.1 e]⟩
theorem Eqv.ghead {E:Prop}{σ τ:W}(h:Eqv E σ τ)(cond chan:Ex)(targets values:List Ex)(time:Ex):kq5 E (Hl σ cond chan targets values time) (Hl τ cond chan targets values time):=by
 have ha:=jj0 cond _ _ h;have hb:=jj0 chan _ _ ha.2;have hc:=jm9 targets hb.2;have hd:=jm9 values hc.2;have he:=jj0 time _ _ hd.2;unfold Hl;dsimp only;exact⟨fun e=>by rw[ha.1 e,hb.1 e,hc.1 e,hd.1 e,he.1 e],he.2⟩
theorem Eqv.phead {E:Prop}{σ τ:W}(h:Eqv E σ τ)(kind:Int)(name:ByteArray)(chan:Ex)(targets exprs:List Ex)(rep:Rp):kq5 E (Fz σ kind name chan targets exprs rep) (Fz τ kind name chan targets exprs rep)/\Nc E (Fz σ kind name chan targets exprs rep).1.own (Fz τ kind name chan targets exprs rep).1.own:=by
 have ha:kq5 E (if kind=17 then nameOf σ name else (name,σ)) (if kind=17 then nameOf τ name else (name,τ)):=by
  split
  ·exact h.name name
  ·exact⟨fun _=>rfl,h⟩
 have hc:=jj0 chan _ _ ha.2;have ht:=jm9 targets hc.2;have hx:=ht.2.out (Db τ.env kind chan exprs) exprs;have hr:=hx.2.rep rep;unfold Fz;rw[h.env.tagged];dsimp only;exact⟨⟨fun e=>by rw[ha.1 e,hc.1 e,ht.1 e,hx.1 e,hr.1.1 e],hr.1.2⟩,hr.2⟩
mutual
theorem rf7 {E:Prop}:∀ (p:Pr) (σ τ:W),Eqv E σ τ->kq5 E (Fx σ p) (Fx τ p)
 |.mk kind name chan targets exprs rep guards l procs (.mk sk st sn se spp sf sb),σ,τ,h=>by
  have hh:=h.phead kind name chan targets exprs rep;simp only[Fx];generalize Fz σ kind name chan targets exprs rep=a at hh ⊢;generalize Fz τ kind name chan targets exprs rep=a' at hh ⊢;split
  ·have hs:=hh.1.2.head (.mk sk st sn se spp sf []);generalize Gl a.2 (.mk sk st sn se spp sf [])=s at hs ⊢;generalize Gl a'.2 (.mk sk st sn se spp sf [])=s' at hs ⊢;have hb:=kj3 sb _ _ (hs.1.2.setEnv (h.env.push (sf.map (·.name)) hs.2.2));generalize Ga {s.2 with env:=Cm σ.env (sf.map (·.name)) s.1.inner} sb=b at hb ⊢;generalize Ga {s'.2 with env:=Cm τ.env (sf.map (·.name)) s'.1.inner} sb=b' at hb ⊢;have hg:=ml7 guards _ _ (hb.2.setEnv (h.env.push sn hs.2.1));generalize Gm {b.2 with env:=Cm σ.env sn s.1.own} guards=g at hg ⊢;generalize Gm {b'.2 with env:=Cm τ.env sn s'.1.own} guards=g' at hg ⊢;have hm:=kj3 l _ _ hg.2;exact⟨fun e=>by rw[hh.1.1 e,hs.1.1 e,hb.1 e,hg.1 e,hm.1 e],hm.2.setEnv h.env⟩
  ·have hg:=ml7 guards _ _ (hh.1.2.setEnv (h.env.push (if rep.name=ByteArray.empty then [] else [rep.name]) hh.2));generalize Gm {a.2 with env:=Cm σ.env (if rep.name=ByteArray.empty then [] else [rep.name]) a.1.own} guards=g at hg ⊢;generalize Gm {a'.2 with env:=Cm τ.env (if rep.name=ByteArray.empty then [] else [rep.name]) a'.1.own} guards=g' at hg ⊢;have hm:=kj3 l _ _ hg.2;exact⟨fun e=>by rw[hh.1.1 e,hg.1 e,hm.1 e],hm.2.setEnv h.env⟩
theorem kj3 {E:Prop}:∀ (l:List Pr) (σ τ:W),Eqv E σ τ->kq5 E (Ga σ l) (Ga τ l)
 |[],_,_,h=>by simp only[Ga];exact⟨fun _=>rfl,h⟩
 |e::l,σ,τ,h=>by
  have h1:=rf7 e σ τ h;have h2:=kj3 l _ _ h1.2;simp only[Ga];exact⟨fun e=>by rw[h1.1 e,h2.1 e],h2.2⟩
theorem rv3 {E:Prop}:∀ (p:Gu) (σ τ:W),Eqv E σ τ->kq5 E (Iu σ p) (Iu τ p)
 |.mk kind name cond chan targets values time body,σ,τ,h=>by
  have hh:=h.ghead cond chan targets values time;have hb:=kj3 body _ _ hh.2;simp only[Iu];exact⟨fun e=>by rw[hh.1 e,hb.1 e],hb.2⟩
theorem ml7 {E:Prop}:∀ (l:List Gu) (σ τ:W),Eqv E σ τ->kq5 E (Gm σ l) (Gm τ l)
 |[],_,_,h=>by simp only[Gm];exact⟨fun _=>rfl,h⟩
 |e::l,σ,τ,h=>by
  have h1:=rv3 e σ τ h;have h2:=ml7 l _ _ h1.2;simp only[Gm];exact⟨fun e=>by rw[h1.1 e,h2.1 e],h2.2⟩
end
end Sc
end
section
namespace Sc
structure Grow (σ τ:W)(n:Nat):Prop where
 env:τ.env=σ.env
 tk:τ.tk=σ.tk
 ev:τ.ev.length<=σ.ev.length+n
 pre:σ.ev<+:τ.ev
 lo:0<=σ.count->σ.count<=τ.count
 hi:0<=σ.count->τ.count<=σ.count+n * (σ.tk.length+1)
theorem Grow.refl (σ:W)(n:Nat):Grow σ σ n:=⟨rfl,rfl,by omega,List.prefix_rfl,fun _=>Ed _,fun _=>by
 have:(0:Int)<=n * (σ.tk.length+1):=Int.mul_nonneg (by omega) (by omega);omega⟩
theorem Grow.trans {σ τ υ:W}{n m:Nat}(h:Grow σ τ n)(h2:Grow τ υ m):Grow σ υ (n+m):=by
 refine⟨h2.env.trans h.env,h2.tk.trans h.tk,?_,h.pre.trans h2.pre,fun h0=>?_,fun h0=>?_⟩
 ·have:=h.ev;have:=h2.ev;omega
 ·have:=h.lo h0;have:=h2.lo (by omega);omega
 ·have h3:=h.lo h0;have h4:=h.hi h0;have h5:=h2.hi (by omega);rw[h.tk]at h5;have:((n+m:Nat):Int) * (σ.tk.length+1)=n * (σ.tk.length+1)+m * (σ.tk.length+1):=by rw[Int.natCast_add,Int.add_mul]
  omega
theorem Grow.mono {σ τ:W}{n m:Nat}(h:Grow σ τ n)(hm:n<=m):Grow σ τ m:=by
 have:=h.trans (Grow.refl τ (m - n))
 rwa [show n+(m - n)=m by omega]at this
theorem Ia (σ:W)(s:ByteArray):Grow σ (nameOf σ s).2 1:=by
 unfold nameOf;split
 ·exact Grow.refl _ _
 ·refine⟨rfl,rfl,by simp[step],List.prefix_append _ _,fun _=>Ed _,fun _=>?_⟩;dsimp only[step];omega
theorem Ns {α:Type}{f:W->α->α × W}(N:α->Nat)(hf:∀ x σ,Grow σ (f σ x).2 (N x)):∀ (l:List α) (σ:W),Grow σ (v7 f σ l).2 (l.map N).sum
 |[],σ=>Grow.refl _ _
 |x::l,σ=>by
  simp only[v7,Aq,List.sum_cons];exact(hf x σ).trans (Ns N hf l _)
mutual
theorem Cy:∀ (e:Ex) (σ:W),Grow σ (Cj σ e).2 (exN e)
 |.mk kind op ty n s l,σ=>by
  have hr:Grow σ (if Dl kind then nameOf σ s else (s,σ)).2 1:=by
   split
   ·exact Ia σ s
   ·exact Grow.refl _ _
  simp only[Cj,exN];rw[Nat.add_comm];exact hr.trans (Lb l _)
theorem Lb:∀ (l:List Ex) (σ:W),Grow σ (x6 σ l).2 (Gj l)
 |[],σ=>by simp only[x6];exact Grow.refl _ _
 |e::l,σ=>by
  simp only[x6,Gj];exact(Cy e σ).trans (Lb l _)
end
theorem Dz (l:List Ex)(σ:W):Grow σ (v7 Cj σ l).2 (Gj l):=by rw[<-ja3];exact Lb l σ
theorem Ji (σ:W):Grow σ (Cu σ).2 1:=by
 have:=Ue σ (σ.count.toNat+1);refine⟨rfl,rfl,Nat.le_succ _,List.prefix_rfl,fun h=>?_,fun h=>?_⟩
 ·unfold Cu;dsimp only;omega
 ·unfold Cu;dsimp only;omega
theorem Kj (σ:W)(t:Ty):Grow σ (Dm σ t).2 1:=by
 unfold Dm;split
 ·exact Grow.refl _ _
 ·exact Ia σ _
theorem Jr (σ:W)(f:Fo):Grow σ (Cw σ f).2 1:=Kj σ _
theorem Jw (σ:W)(l:List ByteArray):Grow σ (Cr σ l) l.length:=by
 refine⟨rfl,rfl,?_,List.prefix_append _ _,fun _=>Ed _,(Grow.refl σ l.length).hi⟩;simp only[Cr,Ag,Ab];have:=List.length_filter_le (fun i=>(l.take i).any (isB (l.getD i ByteArray.empty))) (List.range l.length);rw[List.length_range]at this;omega
theorem Ip:∀ (l:List (Bool × List ByteArray)) (σ:W),Grow σ (Cs σ l).2 l.length
 |[],σ=>Grow.refl _ _
 |x::l,σ=>by
  simp only[Cs,An];rw[Nat.add_comm];exact(Ji σ).trans (Ip l _)
theorem Lj:∀ (l:List (Bool × List ByteArray)) (σ:W),(Cs σ l).1.length=l.length
 |[],σ=>rfl
 |x::l,σ=>by simp only[Cs,An,Lj l]
def Pk (s:Sp):Nat:=2 * s.names.length+3 * s.formals.length+exN s.e+1
theorem Nh (σ:W)(s:Sp):Grow σ (Gl σ s).2 (Pk s):=by
 unfold Gl;dsimp only;have h1:=Jw σ s.names;have h2:=Ip (s.names.map fun _=>Dv σ.env s) (Cr σ s.names);generalize Cs (Cr σ s.names) (s.names.map fun _=>Dv σ.env s)=o at h2 ⊢;have h3:=Jw o.2 (s.formals.map (·.name));have h4:=Ip (s.formals.map fun f=>(false,Ct σ.env f.type)) (Cr o.2 (s.formals.map (·.name)));generalize Cs (Cr o.2 (s.formals.map (·.name))) (s.formals.map fun f=>(false,Ct σ.env f.type))=i at h4 ⊢;have h5:=Kj i.2 s.type;generalize Dm i.2 s.type=t at h5 ⊢;have h6:=Ns (fun _=>1) (fun f σ=>Jr σ f) s.formals t.2;generalize v7 Cw t.2 s.formals=f at h6 ⊢;have h7:=Cy s.e f.2;have h8:(s.formals.map fun _=>1).sum=s.formals.length:=by
  generalize s.formals=l
  induction l with
  |nil=>rfl
  |cons x l ih=>simp only[Aq,List.sum_cons,ih,An];omega
 simp only[Ab]at h2 h3 h4;refine((((((h1.trans h2).trans h3).trans h4).trans h5).trans h6).trans h7).mono ?_;unfold Pk;omega
theorem Ib (tag:Bool)(σ:W)(l:List Ex):Grow σ (Du tag σ l).2 (Gj l):=by
 cases tag with
 |false=>rw[kb6];exact Dz l σ
 |true=>
  cases l with
  |nil=>exact Grow.refl _ _
  |cons e l=>
   simp only[Du,if_true];exact(Dz l σ).mono (by simp only[Gj];omega)
def Mr (r:Rp):Nat:=1+exN r.base+exN r.count
theorem mq9 (σ:W)(r:Rp):Grow σ (Jc σ r).2 (Mr r):=by
 unfold Jc Mr;split
 ·exact Grow.refl _ _
 ·exact((Ji σ).trans (Cy r.base _)).trans (Cy r.count _)
def Py (cond chan:Ex)(targets values:List Ex)(time:Ex):Nat:=exN cond+exN chan+Gj targets+Gj values+exN time
theorem Nr (σ:W)(cond chan:Ex)(targets values:List Ex)(time:Ex):Grow σ (Hl σ cond chan targets values time).2 (Py cond chan targets values time):=
 ((((Cy cond σ).trans (Cy chan _)).trans (Dz targets _)).trans (Dz values _)).trans (Cy time _)
def Ho (chan:Ex)(targets exprs:List Ex)(rep:Rp):Nat:=1+exN chan+Gj targets+Gj exprs+Mr rep
theorem Nt (σ:W)(kind:Int)(name:ByteArray)(chan:Ex)(targets exprs:List Ex)(rep:Rp):Grow σ (Fz σ kind name chan targets exprs rep).2 (Ho chan targets exprs rep):=by
 have ha:Grow σ (if kind=17 then nameOf σ name else (name,σ)).2 1:=by
  split
  ·exact Ia σ name
  ·exact Grow.refl _ _
 exact(((ha.trans (Cy chan _)).trans (Dz targets _)).trans (Ib _ _ exprs)).trans (mq9 _ rep)
mutual
def prN:Pr->Nat
 |.mk _ _ chan targets exprs rep guards l _ (.mk _ _ sn se _ sf sb)=>Ho chan targets exprs rep+(2 * sn.length+3 * sf.length+exN se+1)+Kl sb+Mf guards+Kl l
def Kl:List Pr->Nat
 |[]=>0
 |p::l=>prN p+Kl l
def guN:Gu->Nat
 |.mk _ _ cond chan targets values time body=>Py cond chan targets values time+Kl body
def Mf:List Gu->Nat
 |[]=>0
 |p::l=>guN p+Mf l
end
theorem Grow.setEnv {σ τ:W}{n:Nat}(e e':ByteArray->List Ent)(h:Grow {σ with env:=e} τ n):Grow σ {τ with env:=σ.env} n:=⟨rfl,h.tk,h.ev,h.pre,h.lo,h.hi⟩
mutual
theorem Ll:∀ (p:Pr) (σ:W),Grow σ (Fx σ p).2 (prN p)
 |.mk kind name chan targets exprs rep guards l procs (.mk sk st sn se spp sf sb),σ=>by
  have hh:=Nt σ kind name chan targets exprs rep;simp only[Fx,prN];generalize Fz σ kind name chan targets exprs rep=a at hh ⊢;split
  ·have hs:=Nh a.2 (.mk sk st sn se spp sf []);generalize Gl a.2 (.mk sk st sn se spp sf [])=s at hs ⊢;have hb:=Gy sb {s.2 with env:=Cm σ.env (sf.map (·.name)) s.1.inner};generalize Ga {s.2 with env:=Cm σ.env (sf.map (·.name)) s.1.inner} sb=b at hb ⊢;have hg:=Ir guards {b.2 with env:=Cm σ.env sn s.1.own};generalize Gm {b.2 with env:=Cm σ.env sn s.1.own} guards=g at hg ⊢;have hm:=Gy l g.2;generalize Ga g.2 l=m at hm ⊢;have h1:=hb.setEnv _ (fun _=>[]);have h2:=hg.setEnv _ (fun _=>[]);have h3:Grow b.2 {m.2 with env:=b.2.env} (Kl l+Mf guards):=⟨rfl,hm.tk.trans hg.tk,by have:=hm.ev;have:=hg.ev;dsimp only at *;omega,hg.pre.trans hm.pre,fun h0=>by have:=hm.lo (by have:=hg.lo h0;dsimp only at *;omega);have:=hg.lo h0;dsimp only at *;omega,fun h0=>by
    have:=(h2.trans (m:=Kl l) (υ:={m.2 with env:=b.2.env}) ⟨rfl,hm.tk,hm.ev,hm.pre,hm.lo,hm.hi⟩).hi h0;rw[Nat.add_comm];exact this⟩
   have h4:=((hh.trans hs).trans h1).trans (υ:={m.2 with env:=s.2.env}) (m:=Kl l+Mf guards) ⟨rfl,h3.tk,h3.ev,h3.pre,h3.lo,h3.hi⟩;exact(show Grow σ {m.2 with env:=σ.env} _ from ⟨rfl,h4.tk,h4.ev,h4.pre,h4.lo,h4.hi⟩:Grow σ {m.2 with env:=σ.env} _).mono (by unfold Pk;dsimp only[Sp.names,Sp.formals,Sp.e];omega)
  ·have hg:=Ir guards {a.2 with env:=Cm σ.env (if rep.name=ByteArray.empty then [] else [rep.name]) a.1.own};generalize Gm {a.2 with env:=Cm σ.env (if rep.name=ByteArray.empty then [] else [rep.name]) a.1.own} guards=g at hg ⊢;have hm:=Gy l g.2;generalize Ga g.2 l=m at hm ⊢;have h2:=hg.setEnv _ (fun _=>[]);have h3:=(hh.trans h2).trans (υ:={m.2 with env:=a.2.env}) (m:=Kl l) ⟨rfl,hm.tk,hm.ev,hm.pre,hm.lo,hm.hi⟩;exact(show Grow σ {m.2 with env:=σ.env} _ from ⟨rfl,h3.tk,h3.ev,h3.pre,h3.lo,h3.hi⟩:Grow σ {m.2 with env:=σ.env} _).mono (by omega)
theorem Gy:∀ (l:List Pr) (σ:W),Grow σ (Ga σ l).2 (Kl l)
 |[],σ=>by simp only[Ga];exact Grow.refl _ _
 |e::l,σ=>by
  simp only[Ga,Kl];exact(Ll e σ).trans (Gy l _)
theorem ml8:∀ (p:Gu) (σ:W),Grow σ (Iu σ p).2 (guN p)
 |.mk kind name cond chan targets values time body,σ=>by
  simp only[Iu,guN];exact(Nr σ cond chan targets values time).trans (Gy body _)
theorem Ir:∀ (l:List Gu) (σ:W),Grow σ (Gm σ l).2 (Mf l)
 |[],σ=>by simp only[Gm];exact Grow.refl _ _
 |e::l,σ=>by
  simp only[Gm,Mf];exact(ml8 e σ).trans (Ir l _)
end
end Sc
end
section
namespace Sc
theorem mr0:∀ l:List UInt8,Op.bytesLess l l=false
 |[]=>rfl
 |a::l=>by
  have h:¬a<a:=by simp
  simp[Op.bytesLess,h,mr0 l]
theorem kg1:∀ {a b c:List UInt8},Op.bytesLess a b=true->Op.bytesLess b c=true->Op.bytesLess a c=true
 |_,[],_,h,_=>by simp[Op.bytesLess]at h
 |_,_::_,[],_,h=>by simp[Op.bytesLess]at h
 |[],_::_,_::_,_,_=>rfl
 |x::a,y::b,z::c,h1,h2=>by
  simp only[Op.bytesLess,Bm,Aa,Ak,Bx]at h1 h2 ⊢;rcases h1 with h1|⟨rfl,h1⟩
  ·rcases h2 with h2|⟨rfl,h2⟩
   ·exact .inl (UInt8.lt_trans h1 h2)
   ·exact .inl h1
  ·rcases h2 with h2|⟨rfl,h2⟩
   ·exact .inl h2
   ·exact .inr ⟨rfl,kg1 h1 h2⟩
theorem kq6:∀ a b:List UInt8,Op.bytesLess a b=true\/a=b\/Op.bytesLess b a=true
 |[],[]=>.inr (.inl rfl)
 |[],_::_=>.inl rfl
 |_::_,[]=>.inr (.inr rfl)
 |x::a,y::b=>by
  simp only[Op.bytesLess,Bm,Aa,Ak,Bx];by_cases h:x<y
  ·exact .inl (.inl h)
  ·by_cases h2:y<x
   ·exact .inr (.inr (.inl h2))
   ·have e:x=y:=UInt8.toNat_inj.1 (by rw[UInt8.lt_iff_toNat_lt]at h h2;omega);subst e;rcases kq6 a b with h3|h3|h3
    ·exact .inl (.inr ⟨rfl,h3⟩)
    ·exact .inr (.inl (by rw[h3]))
    ·exact .inr (.inr (.inr ⟨rfl,h3⟩))
theorem qf8 {a b:List UInt8}(h:Op.bytesLess a b=true):Op.bytesLess b a=false:=by
 cases h2:Op.bytesLess b a with
 |false=>rfl
 |true=>have:=kg1 h h2;rw[mr0]at this;cases this
theorem rv4:∀ a b:List UInt8,a<b↔Op.bytesLess a b=true
 |[],[]=>by simp[Op.bytesLess]
 |[],_::_=>by simp[Op.bytesLess]
 |_::_,[]=>by simp[Op.bytesLess]
 |x::a,y::b=>by
  simp only[Op.bytesLess,Bm,Aa,Ak,Bx];rw[List.cons_lt_cons_iff,rv4 a b]
theorem qw1 (a b:List UInt8):a<=b↔Op.bytesLess b a=false:=by
 rw[<-List.not_lt,rv4];simp
def bL (s t:ByteArray):Bool:=Op.bytesLess s.data.toList t.data.toList
theorem Tj (s:ByteArray):bL s s=false:=mr0 _
theorem mr1 {a b c:ByteArray}(h:bL a b=true)(h2:bL b c=true):bL a c=true:=kg1 h h2
theorem rl1 {s t:ByteArray}(h:s.data.toList=t.data.toList):s=t:=by
 cases s with|mk a=>cases t with|mk b=>cases a with|mk a=>cases b with|mk b=>exact congrArg (fun l=>ByteArray.mk (Array.mk l)) h
theorem rv5 (a b:ByteArray):bL a b=true\/a=b\/bL b a=true:=by
 rcases kq6 a.data.toList b.data.toList with h|h|h
 ·exact .inl h
 ·exact .inr (.inl (rl1 h))
 ·exact .inr (.inr h)
def Ph (l:List ByteArray):Prop:=l.Pairwise fun a b=>bL a b=true
def md6:List ByteArray->ByteArray->List ByteArray
 |[],s=>[s]
 |x::l,s=>if bL x s then x::md6 l s else if x=s then x::l else s::x::l
theorem mr2 {l:List ByteArray}{s x:ByteArray}:x∈md6 l s↔x∈l\/x=s:=by
 induction l with
 |nil=>simp[md6]
 |cons y l ih=>
  simp only[md6];split
  ·simp only[Bc,ih,or_assoc]
  ·split
   ·rename_i h;subst h;simp only[Bc];constructor
    ·exact .inl
    ·rintro(h|rfl)
     ·exact h
     ·exact .inl rfl
   ·simp only[Bc];constructor
    ·rintro(h|h)
     ·exact .inr h
     ·exact .inl h
    ·rintro(h|h)
     ·exact .inr h
     ·exact .inl h
theorem ml9 {l:List ByteArray}(h:Ph l)(s:ByteArray):Ph (md6 l s):=by
 unfold Ph at *
 induction l with
 |nil=>simp[md6]
 |cons y l ih=>
  rw[List.pairwise_cons]at h;simp only[md6];split
  ·rename_i hy;refine List.pairwise_cons.2 ⟨fun x hx=>?_,ih h.2⟩;rcases mr2.1 hx with hx|rfl
   ·exact h.1 x hx
   ·exact hy
  ·split
   ·exact List.pairwise_cons.2 h
   ·rename_i h1 h2;have h3:bL s y=true:=by
     rcases rv5 y s with h4|h4|h4
     ·exact absurd h4 h1
     ·exact absurd h4 h2
     ·exact h4
    refine List.pairwise_cons.2 ⟨fun x hx=>?_,List.pairwise_cons.2 h⟩;rcases Bc.1 hx with rfl|hx
    ·exact h3
    ·exact mr1 h3 (h.1 x hx)
def once (l:List ByteArray):List ByteArray:=l.foldl md6 []
theorem mr3 {x:ByteArray}:∀ (l m:List ByteArray),x∈l.foldl md6 m↔x∈m\/x∈l
 |[],m=>by simp
 |y::l,m=>by rw[List.foldl_cons,mr3 l,mr2,Bc,or_assoc]
theorem kj4:∀ (l m:List ByteArray),Ph m->Ph (l.foldl md6 m)
 |[],_,h=>h
 |y::l,m,h=>kj4 l _ (ml9 h y)
theorem mr4 {x:ByteArray}{l:List ByteArray}:x∈once l↔x∈l:=by simp[once,mr3]
theorem ju8 (l:List ByteArray):Ph (once l):=kj4 l [] List.Pairwise.nil
theorem mr5:∀ {l m:List ByteArray},Ph l->Ph m->(∀ x,x∈l↔x∈m)->l=m
 |[],[],_,_,_=>rfl
 |[],y::m,_,_,h=>by have:=(h y).2 Az;cases this
 |y::l,[],_,_,h=>by have:=(h y).1 Az;cases this
 |x::l,y::m,h1,h2,h=>by
  unfold Ph at h1 h2;rw[List.pairwise_cons]at h1 h2;have e:x=y:=by
   rcases Bc.1 ((h x).1 Az) with e|hx
   ·exact e
   ·rcases Bc.1 ((h y).2 Az) with e|hy
    ·exact e.symm
    ·have h3:=h2.1 x hx;have h4:=h1.1 y hy;have:=mr1 h3 h4;rw[Tj]at this;cases this
  subst e;rw[mr5 (l:=l) (m:=m) h1.2 h2.2 fun z=>?_];have hz:=h z;simp only[Bc]at hz;constructor
  ·intro hm;rcases hz.1 (.inr hm) with rfl|h5
   ·have:=h1.1 z hm;rw[Tj]at this;cases this
   ·exact h5
  ·intro hm;rcases hz.2 (.inr hm) with rfl|h5
   ·have:=h2.1 z hm;rw[Tj]at this;cases this
   ·exact h5
theorem md7 (d:Array (List UInt8))(hs:∀ i j,i<j->j<d.size->Op.bytesLess d[j]! d[i]! =false):∀ m,m<=d.size->
 (Lib.compactUpTo d m).Pairwise (fun a b=>Op.bytesLess a b=true)/\(∀ x,x∈Lib.compactUpTo d m↔∃ j,j<m/\d[j]! =x):=by
 intro m
 induction m with
 |zero=>intro _;simp[Lib.compactUpTo]
 |succ m ih=>
  intro hm;obtain⟨h1,h2⟩:=ih (by omega);rw[Lib.compactUpTo_succ];have hlt:∀ x,(∃ j,j<m+1/\d[j]! =x)↔(∃ j,j<m/\d[j]! =x)\/d[m]! =x:=fun x=>by
   constructor
   ·rintro⟨j,hj,e⟩;rcases Ah j m with h|h
    ·exact .inl ⟨j,h,e⟩
    ·obtain rfl:j=m:=by omega
     exact .inr e
   ·rintro(⟨j,hj,e⟩|e)
    ·exact⟨j,by omega,e⟩
    ·exact⟨m,by omega,e⟩
  by_cases hk:Lib.keeps d m=true
  ·rw[Ad hk];refine⟨List.pairwise_append.2 ⟨h1,List.pairwise_singleton _ _,fun a ha b hb=>?_⟩,fun x=>?_⟩
   ·obtain rfl:=Bn.1 hb;obtain⟨j,hj,rfl⟩:=(h2 a).1 ha;have h3:=hs j m hj (by omega);rcases kq6 d[j]! d[m]! with h4|h4|h4
    ·exact h4
    ·exfalso;simp only[Lib.keeps,Ak]at hk;rcases hk with hk|hk
     ·omega
     ·apply hk;rcases kq6 d[m - 1]! d[m]! with h5|h5|h5
      ·rcases Ah j (m - 1) with h6|h6
       ·have h7:=hs j (m - 1) h6 (by omega);rw[h4,h5]at h7;cases h7
       ·obtain rfl:j=m - 1:=by omega
        exact h4.symm
      ·exact h5.symm
      ·have h7:=hs (m - 1) m (by omega) (by omega);rw[h7]at h5;cases h5
    ·rw[h3]at h4;cases h4
   ·rw[Ap,h2,hlt,Bn];constructor
    ·rintro(h|h)
     ·exact .inl h
     ·exact .inr h.symm
    ·rintro(h|h)
     ·exact .inl h
     ·exact .inr h.symm
  ·rw[Ae hk,Ea];refine⟨h1,fun x=>?_⟩;rw[h2,hlt];constructor
   ·exact .inl
   ·rintro(h|rfl)
    ·exact h
    ·simp only[Lib.keeps,Ak,not_or,Classical.not_not]at hk;exact⟨m - 1,by omega,hk.2.symm⟩
def toB (l:List UInt8):ByteArray:=⟨l.toArray⟩
def Jt (l:List ByteArray):List (List UInt8):=(l.map fun s=>s.data.toList).mergeSort fun x y=>decide (x<=y)
theorem mx5 (l:List ByteArray):(Jt l).Pairwise fun a b=>Op.bytesLess b a=false:=by
 have h:=List.pairwise_mergeSort (le:=fun x y:List UInt8=>decide (x<=y)) (fun a b c h1 h2=>by
  rw[Ak,qw1]at *;rcases kq6 c a with h3|h3|h3
  ·exfalso;rcases kq6 b c with h4|h4|h4
   ·have:=kg1 h4 h3;rw[h1]at this;cases this
   ·subst h4;rw[h3]at h1;cases h1
   ·rw[h4]at h2;cases h2
  ·subst h3;exact mr0 _
  ·exact qf8 h3) (fun a b=>by
  rw[Bm,Ak,Ak,qw1,qw1];cases h:Op.bytesLess b a with
  |false=>exact .inl rfl
  |true=>exact .inr (qf8 h)) (l.map fun s=>s.data.toList)
 exact h.imp fun h=>by rwa [Ak,qw1]at h
theorem Oq (l:List ByteArray):(Lib.compact (Jt l)).map toB=once l:=by
 have hp:=mx5 l;rw[Fh]at hp;have hg:∀ j,j<(Jt l).length->(Jt l).toArray[j]! =(Jt l)[j]!:=fun j hj=>by simp[hj]
 obtain⟨h1,h2⟩:=md7 (Jt l).toArray (fun i j hij hj=>by
  have hj':j<(Jt l).length:=by simpa using hj
  have hi':i<(Jt l).length:=by omega
  have:=hp i j hi' hj' hij;simpa [hi',hj']using this) (Jt l).length (by simp)
 refine mr5 (List.pairwise_map.2 h1) (ju8 l) fun x=>?_;rw[mr4,Bl];have hmem:∀ y,y∈Jt l↔y∈l.map fun s=>s.data.toList:=fun y=>List.mem_mergeSort;constructor
 ·rintro⟨y,hy,rfl⟩;obtain⟨j,hj,rfl⟩:=(h2 y).1 hy;have:(Jt l).toArray[j]!∈Jt l:=by simp[hj]
  obtain⟨s,hs,e⟩:=Bl.1 ((hmem _).1 this);rw[<-e];exact hs
 ·intro hx;have:=(hmem _).2 (Bl.2 ⟨x,hx,rfl⟩);obtain⟨j,hj,e⟩:=Er.1 this;exact⟨_,(h2 _).2 ⟨j,hj,by simpa [hj]using e⟩,rfl⟩
end Sc
end
section
namespace Sc
mutual
def jf6:Pr->List ByteArray
 |.mk _ _ _ _ _ rep guards l _ (.mk _ _ sn _ _ sf sb)=>(if rep.name=ByteArray.empty then [] else [rep.name])++(sn++(sf.map (·.name)++(jd1 sb++(jg3 guards++jd1 l))))
def jd1:List Pr->List ByteArray
 |[]=>[]
 |p::l=>jf6 p++jd1 l
def ke4:Gu->List ByteArray
 |.mk _ _ _ _ _ _ _ body=>jd1 body
def jg3:List Gu->List ByteArray
 |[]=>[]
 |g::l=>ke4 g++jg3 l
end
end Sc
end
end Go.Proofs.YtklklgfpkpglgaaGreatDoor
