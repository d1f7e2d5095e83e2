/- Parts: S7, S8, S9, S10, S11, S15. -/
import Derived.Test.YtdopmfifmgkmoaaGreatDoorP20
import Derived.Lib.SlicesCompact
set_option linter.all false
set_option maxRecDepth 100000
set_option maxHeartbeats 16000000
namespace Go.Proofs.YtdopmfifmgkmoaaGreatDoor
open Go.RowKit Go.Proofs.Tryz
section
namespace Sc
def dec (n:Nat):List UInt8:=if h:n<10 then [UInt8.ofNat (48+n)] else dec (n / 10)++[UInt8.ofNat (48+n % 10)]
def newName (n:Nat):ByteArray:=⟨(110::dec n).toArray⟩
def W.has (σ:W)(s:ByteArray):Prop:=s∈σ.tk.map (·.1)
open Classical in
noncomputable def skip (σ:W):Nat->Nat->Nat
 |0,_=>0
 |f+1,n=>if σ.has (newName n) then skip σ f (n+1)+1 else 0
noncomputable def Ct (σ:W):ByteArray × W:=
 let n:=σ.count.toNat+1+skip σ (σ.tk.length+1) (σ.count.toNat+1)
 (newName n,{σ with count:=n})
def Cz (env:ByteArray->List Ent)(t:Ty):List ByteArray:=
 if t.kind=4/\t.proto≠ByteArray.empty then (match (env t.proto).getLast? with
  |some x=>if x.proto then x.tags else []
  |none=>[]) else []
def Gn (σ:W)(t:Ty):Ty × W:=if t.proto=ByteArray.empty then (t,σ) else ({t with proto:=(nameOf σ t.proto).1},(nameOf σ t.proto).2)
def Cx (σ:W)(f:Fo):Fo × W:=({f with type:=(Gn σ f.type).1},(Gn σ f.type).2)
noncomputable def Cu (σ:W)(l:List ByteArray):W:={σ with ev:=σ.ev++(((List.range l.length).filter fun i=>(l.take i).any (isB (l.getD i ByteArray.empty))).map fun i=>(l.getD i ByteArray.empty,true))}
noncomputable def Co (σ:W):List (Bool × List ByteArray)->List Ent × W
 |[]=>([],σ)
 |x::l=>(⟨(Ct σ).1,x.1,x.2⟩::(Co (Ct σ).2 l).1,(Co (Ct σ).2 l).2)
def Cn (env:ByteArray->List Ent):List ByteArray->List Ent->ByteArray->List Ent
 |s::ns,x::xs=>Cn (fun t=>if t=s then env t++[x] else env t) ns xs
 |_,_=>env
def named:List Fo->List ByteArray->List Fo
 |f::l,s::ns=>{f with name:=s}::named l ns
 |_,_=>[]
def Ky (s:Sp):List ByteArray:=if s.proto.cases then s.proto.l.map (·.tag) else []
def Dy (env:ByteArray->List Ent)(s:Sp):Bool × List ByteArray:=if s.kind=4 then (true,Ky s) else (false,Cz env s.type)
structure Head where
 names:List ByteArray
 type:Ty
 formals:List Fo
 e:Ex
 own:List Ent
 inner:List Ent
noncomputable def Fu (σ:W)(s:Sp):Head × W:=
 let o:=Co (Cu σ s.names) (s.names.map fun _=>Dy σ.env s)
 let i:=Co (Cu o.2 (s.formals.map (·.name))) (s.formals.map fun f=>(false,Cz σ.env f.type))
 let t:=Gn i.2 s.type
 let f:=Cv Cx t.2 s.formals
 let e:=j2 f.2 s.e
 (⟨o.1.map (·.fresh),t.1,named f.1 (i.1.map (·.fresh)),e.1,o.1,i.1⟩,e.2)
noncomputable def Cy (env:ByteArray->List Ent)(kind:Int)(chan:Ex)(exprs:List Ex):Bool:=
 if kind=5 then (match exprs with
  |e::_=>decide (e.kind=4) && (match (env chan.s).getLast? with
   |some x=>!x.proto && x.tags.any (isB e.s)
   |none=>false)
  |[]=>false) else false
def Dn (tag:Bool)(σ:W):List Ex->List Ex × W
 |[]=>([],σ)
 |e::l=>if tag then (e::(Cv j2 σ l).1,(Cv j2 σ l).2) else Cv j2 σ (e::l)
noncomputable def Iw (σ:W)(r:Rp):(Rp × List Ent) × W:=
 if r.name=ByteArray.empty then ((r,[]),σ)
 else
  let f:=Ct σ
  let b:=j2 f.2 r.base
  let c:=j2 b.2 r.count
  ((⟨f.1,b.1,c.1⟩,[⟨f.1,false,[]⟩]),c.2)
structure GHead where
 cond:Ex
 chan:Ex
 targets:List Ex
 values:List Ex
 time:Ex
def Ie (σ:W)(cond chan:Ex)(targets values:List Ex)(time:Ex):GHead × W:=
 let a:=j2 σ cond
 let b:=j2 a.2 chan
 let c:=Cv j2 b.2 targets
 let d:=Cv j2 c.2 values
 let e:=j2 d.2 time
 (⟨a.1,b.1,c.1,d.1,e.1⟩,e.2)
structure PHead where
 name:ByteArray
 chan:Ex
 targets:List Ex
 exprs:List Ex
 rep:Rp
 own:List Ent
noncomputable def Hg (σ:W)(kind:Int)(name:ByteArray)(chan:Ex)(targets exprs:List Ex)(rep:Rp):PHead × W:=
 let a:=if kind=17 then nameOf σ name else (name,σ)
 let c:=j2 a.2 chan
 let t:=Cv j2 c.2 targets
 let x:=Dn (Cy σ.env kind chan exprs) t.2 exprs
 let r:=Iw x.2 rep
 (⟨a.1,c.1,t.1,x.1,r.1.1,r.1.2⟩,r.2)
mutual
noncomputable def Fv (σ:W):Pr->Pr × W
 |.mk kind name chan targets exprs rep guards l procs (.mk sk st sn se spp sf sb)=>
  let h:=Hg σ kind name chan targets exprs rep
  if kind=18 then
   let s:=Fu h.2 (.mk sk st sn se spp sf [])
   let b:=Gv {s.2 with env:=Cn σ.env (sf.map (·.name)) s.1.inner} sb
   let g:=Hw {b.2 with env:=Cn σ.env sn s.1.own} guards
   let m:=Gv g.2 l
   (.mk kind h.1.name h.1.chan h.1.targets h.1.exprs h.1.rep g.1 m.1 procs (.mk sk s.1.type s.1.names s.1.e spp s.1.formals b.1),{m.2 with env:=σ.env})
  else
   let g:=Hw {h.2 with env:=Cn σ.env (if rep.name=ByteArray.empty then [] else [rep.name]) h.1.own} guards
   let m:=Gv g.2 l
   (.mk kind h.1.name h.1.chan h.1.targets h.1.exprs h.1.rep g.1 m.1 procs (.mk sk st sn se spp sf sb),{m.2 with env:=σ.env})
noncomputable def Gv (σ:W):List Pr->List Pr × W
 |[]=>([],σ)
 |p::l=>((Fv σ p).1::(Gv (Fv σ p).2 l).1,(Gv (Fv σ p).2 l).2)
noncomputable def Jc (σ:W):Gu->Gu × W
 |.mk kind name cond chan targets values time body=>
  let h:=Ie σ cond chan targets values time
  let b:=Gv h.2 body
  (.mk kind name h.1.cond h.1.chan h.1.targets h.1.values h.1.time b.1,b.2)
noncomputable def Hw (σ:W):List Gu->List Gu × W
 |[]=>([],σ)
 |g::l=>((Jc σ g).1::(Hw (Jc σ g).2 l).1,(Hw (Jc σ g).2 l).2)
end
theorem Kw:∀ (l:List Pr) (σ:W),Gv σ l=Cv Fv σ l
 |[],σ=>by simp[Gv,Cv]
 |e::l,σ=>by simp only[Gv,Cv,Kw l]
theorem Me:∀ (l:List Gu) (σ:W),Hw σ l=Cv Jc σ l
 |[],σ=>by simp[Hw,Cv]
 |e::l,σ=>by simp only[Hw,Cv,Me l]
end Sc
end
section
namespace Sc
def qa7 (l:List UInt8):Nat:=l.foldl (fun a c=>10 * a+(c.toNat - 48)) 0
theorem qa8:∀ (m n:Nat),n<=m->qa7 (dec n)=n:=by
 intro m
 induction m with
 |zero=>
  intro n h;obtain rfl:n=0:=by omega
  rw[dec];rfl
 |succ m ih=>
  intro n h;rw[dec];split
  ·rename_i h10;have:(UInt8.ofNat (48+n)).toNat=48+n:=by rw[UInt8.toNat_ofNat'];omega
   simp only[qa7,List.foldl_cons,List.foldl_nil,this];omega
  ·rename_i h10;have:=ih (n / 10) (by omega);have h2:(UInt8.ofNat (48+n % 10)).toNat=48+n % 10:=by rw[UInt8.toNat_ofNat'];omega
   unfold qa7 at this ⊢;rw[List.foldl_append,this];simp only[List.foldl_cons,List.foldl_nil,h2];omega
theorem rb3 {m n:Nat}(h:dec m=dec n):m=n:=by
 rw[<-qa8 m m (As _),h,qa8 n n (As _)]
theorem mf1 {m n:Nat}(h:newName m=newName n):m=n:=by
 have h2:=congrArg (fun b=>b.data.toList) h;simp only[newName]at h2;exact rb3 (List.cons.inj h2).2
theorem ky9 {α:Type}[DecidableEq α]:∀ (l m:List α),l.Nodup->(∀ x∈l,x∈m)->l.length<=m.length
 |[],_,_,_=>Ak _
 |x::l,m,hn,hs=>by
  rw[List.nodup_cons]at hn;have h:=ky9 l (m.erase x) hn.2 fun y hy=>by
   have hne:y≠x:=fun e=>hn.1 (e ▸ hy);exact(List.mem_erase_of_ne hne).2 (hs y (Bk _ hy))
  have hx:=hs x Bi;have h2:=List.length_erase_of_mem hx;have h3:=List.length_pos_of_mem hx;simp only[Ai];omega
theorem Oz (σ:W):∀ f n i,i<skip σ f n->σ.has (newName (n+i))
 |0,n,i,h=>by simp[skip]at h
 |f+1,n,i,h=>by
  simp only[skip]at h;split at h
  ·rename_i hh;cases i with
   |zero=>exact hh
   |succ i=>
    have:=Oz σ f (n+1) i (by omega)
    rwa [show n+1+i=n+(i+1) by omega]at this
  ·omega
theorem mj9 (σ:W):∀ f n,skip σ f n<f->¬σ.has (newName (n+skip σ f n))
 |0,n,h=>by simp[skip]at h
 |f+1,n,h=>by
  simp only[skip]at h ⊢;split
  ·rename_i hh;rw[Ae hh]at h;have:=mj9 σ f (n+1) (by omega)
   rwa [show n+1+skip σ f (n+1)=n+(skip σ f (n+1)+1) by omega]at this
  ·rename_i hh;exact hh
theorem mf2 (n:Nat):∀ k,((List.range k).map fun i=>newName (n+i)).Nodup:=fun k=>by
 have:=List.nodup_range (n:=k);rw[List.nodup_iff_pairwise_ne]at this ⊢;refine List.pairwise_map.2 (this.imp fun h e=>h ?_);have:=mf1 e;omega
theorem Ta (σ:W)(n:Nat):skip σ (σ.tk.length+1) n<=σ.tk.length:=by
 have h:=ky9 ((List.range (skip σ (σ.tk.length+1) n)).map fun i=>newName (n+i)) (σ.tk.map (·.1)) (mf2 _ _) fun x hx=>by
  obtain⟨i,hi,rfl⟩:=Bs.1 hx;exact Oz σ _ n i (List.mem_range.1 hi)
 simpa using h
theorem Qy (σ:W)(n:Nat):¬σ.has (newName (n+skip σ (σ.tk.length+1) n)):=mj9 σ _ n (by have:=Ta σ n;omega)
end Sc
end
section
namespace Sc
def Ent.pt (x:Ent):Bool × List ByteArray:=(x.proto,x.tags)
def Nb (E:Prop)(l m:List Ent):Prop:=l.map Ent.pt=m.map Ent.pt/\(E->l=m)
def Rt (E:Prop)(f g:ByteArray->List Ent):Prop:=∀ s,Nb E (f s) (g s)
structure Eqv (E:Prop)(σ τ:W):Prop where
 env:Rt E σ.env τ.env
 count:E->σ.count=τ.count
 ev:σ.ev=τ.ev
 has:E->∀ s,σ.has s↔τ.has s
def kn2 (E:Prop){α:Type}(a b:α × W):Prop:=(E->a.1=b.1)/\Eqv E a.2 b.2
theorem Nb.refl (E:Prop)(l:List Ent):Nb E l l:=⟨rfl,fun _=>rfl⟩
theorem Eqv.setEnv {E:Prop}{σ τ:W}(h:Eqv E σ τ){e e':ByteArray->List Ent}(he:Rt E e e'):Eqv E {σ with env:=e} {τ with env:=e'}:=⟨he,h.count,h.ev,h.has⟩
theorem Eqv.Vk {E:Prop}{σ τ:W}(h:Eqv E σ τ){e e':List (ByteArray × Bool)}(he:e=e'):Eqv E {σ with ev:=e} {τ with ev:=e'}:=⟨h.env,h.count,he,h.has⟩
theorem Rt.last {E:Prop}{f g:ByteArray->List Ent}(h:Rt E f g)(s:ByteArray):(f s).getLast?.map Ent.pt=(g s).getLast?.map Ent.pt:=by rw[<-List.getLast?_map,<-List.getLast?_map,(h s).1]
theorem Nb.append {E:Prop}{l m l' m':List Ent}(h:Nb E l m)(h':Nb E l' m'):Nb E (l++l') (m++m'):=⟨by rw[Ap,Ap,h.1,h'.1],fun e=>by rw[h.2 e,h'.2 e]⟩
theorem Rt.push {E:Prop}:∀ (ns:List ByteArray) {xs ys:List Ent} {f g:ByteArray->List Ent},Rt E f g->Nb E xs ys->Rt E (Cn f ns xs) (Cn g ns ys)
 |[],[],[],_,_,h,_=>h
 |[],[],_::_,_,_,h,_=>h
 |[],_::_,[],_,_,h,_=>h
 |[],_::_,_::_,_,_,h,_=>h
 |_::_,[],[],_,_,h,_=>h
 |_::_,[],_::_,_,_,_,h'=>by have:=h'.1;simp at this
 |_::_,_::_,[],_,_,_,h'=>by have:=h'.1;simp at this
 |s::ns,x::xs,y::ys,f,g,h,h'=>by
  have h1:=h'.1;simp only[Am,List.cons.injEq]at h1;simp only[Cn];refine Rt.push ns (fun t=>?_) ⟨h1.2,fun e=>(List.cons.inj (h'.2 e)).2⟩;split
  ·exact(h t).append ⟨by simp only[Am,Aw,h1.1],fun e=>by rw[(List.cons.inj (h'.2 e)).1]⟩
  ·exact h t
theorem Rt.carried {E:Prop}{f g:ByteArray->List Ent}(h:Rt E f g)(t:Ty):Cz f t=Cz g t:=by
 unfold Cz;have:=h.last t.proto;split
 ·cases h1:(f t.proto).getLast? with
  |none=>
   cases h2:(g t.proto).getLast? with
   |none=>rfl
   |some y=>rw[h1,h2]at this;cases this
  |some x=>
   cases h2:(g t.proto).getLast? with
   |none=>rw[h1,h2]at this;cases this
   |some y=>
    rw[h1,h2]at this;simp only[Fl,Bm,Ent.pt,Bg]at this;simp only[this.1,this.2]
 ·rfl
theorem Rt.own {E:Prop}{f g:ByteArray->List Ent}(h:Rt E f g)(s:Sp):Dy f s=Dy g s:=by
 unfold Dy;rw[h.carried]
theorem Rt.tagged {E:Prop}{f g:ByteArray->List Ent}(h:Rt E f g)(kind:Int)(chan:Ex)(exprs:List Ex):Cy f kind chan exprs=Cy g kind chan exprs:=by
 unfold Cy;have:=h.last chan.s;split
 ·cases exprs with
  |nil=>rfl
  |cons e l=>
   dsimp only;cases h1:(f chan.s).getLast? with
   |none=>
    cases h2:(g chan.s).getLast? with
    |none=>rfl
    |some y=>rw[h1,h2]at this;cases this
   |some x=>
    cases h2:(g chan.s).getLast? with
    |none=>rw[h1,h2]at this;cases this
    |some y=>
     rw[h1,h2]at this;simp only[Fl,Bm,Ent.pt,Bg]at this;simp only[this.1,this.2]
 ·rfl
theorem Eqv.name {E:Prop}{σ τ:W}(h:Eqv E σ τ)(s:ByteArray):kn2 E (nameOf σ s) (nameOf τ s):=by
 unfold nameOf;have:=h.env.last s;have he:=(h.env s).2;cases h1:(σ.env s).getLast? with
 |none=>
  cases h2:(τ.env s).getLast? with
  |none=>exact⟨fun _=>rfl,h.Vk (by rw[h.ev])⟩
  |some y=>rw[h1,h2]at this;cases this
 |some x=>
  cases h2:(τ.env s).getLast? with
  |none=>rw[h1,h2]at this;cases this
  |some y=>
   refine⟨fun e=>?_,h⟩;rw[he e,h2]at h1;cases h1;rfl
theorem mf3 {E:Prop}{α:Type}{f:W->α->α × W}:∀ (l:List α) (σ τ:W),(∀ x∈l,∀ σ τ,Eqv E σ τ->kn2 E (f σ x) (f τ x))->Eqv E σ τ->kn2 E (Cv f σ l) (Cv f τ l)
 |[],_,_,_,h=>⟨fun _=>rfl,h⟩
 |x::l,σ,τ,hf,h=>by
  have h1:=hf x Bi σ τ h;have h2:=mf3 l _ _ (fun y hy=>hf y (Bk _ hy)) h1.2;simp only[Cv];exact⟨fun e=>by rw[h1.1 e,h2.1 e],h2.2⟩
mutual
theorem jh1 {E:Prop}:∀ (e:Ex) (σ τ:W),Eqv E σ τ->kn2 E (j2 σ e) (j2 τ e)
 |.mk kind op ty n s l,σ,τ,h=>by
  have hr:kn2 E (if Dt kind then nameOf σ s else (s,σ)) (if Dt kind then nameOf τ s else (s,τ)):=by
   split
   ·exact h.name s
   ·exact⟨fun _=>rfl,h⟩
  simp only[j2];have hq:=kz0 l _ _ hr.2;exact⟨fun e=>by rw[hr.1 e,hq.1 e],hq.2⟩
theorem kz0 {E:Prop}:∀ (l:List Ex) (σ τ:W),Eqv E σ τ->kn2 E (l3 σ l) (l3 τ l)
 |[],_,_,h=>by simp only[l3];exact⟨fun _=>rfl,h⟩
 |e::l,σ,τ,h=>by
  have h1:=jh1 e σ τ h;have h2:=kz0 l _ _ h1.2;simp only[l3];exact⟨fun e=>by rw[h1.1 e,h2.1 e],h2.2⟩
end
theorem jl1 {E:Prop}(l:List Ex){σ τ:W}(h:Eqv E σ τ):kn2 E (Cv j2 σ l) (Cv j2 τ l):=mf3 l σ τ (fun x _=>jh1 x) h
theorem kr4 {σ τ:W}(h:∀ s,σ.has s↔τ.has s)(n:Nat):skip σ (σ.tk.length+1) n=skip τ (τ.tk.length+1) n:=by
 rcases Nat.lt_trichotomy (skip σ (σ.tk.length+1) n) (skip τ (τ.tk.length+1) n) with h1|h1|h1
 ·exact absurd ((h _).2 (Oz τ _ n _ h1)) (Qy σ n)
 ·exact h1
 ·exact absurd ((h _).1 (Oz σ _ n _ h1)) (Qy τ n)
theorem Eqv.fresh {E:Prop}{σ τ:W}(h:Eqv E σ τ):kn2 E (Ct σ) (Ct τ):=by
 unfold Ct;dsimp only;exact⟨fun e=>by rw[h.count e,kr4 (h.has e)],h.env,fun e=>by dsimp only;rw[h.count e,kr4 (h.has e)],h.ev,h.has⟩
theorem Eqv.typed {E:Prop}{σ τ:W}(h:Eqv E σ τ)(t:Ty):kn2 E (Gn σ t) (Gn τ t):=by
 unfold Gn;split
 ·exact⟨fun _=>rfl,h⟩
 ·have:=h.name t.proto;exact⟨fun e=>by rw[this.1 e],this.2⟩
theorem Eqv.formal {E:Prop}{σ τ:W}(h:Eqv E σ τ)(f:Fo):kn2 E (Cx σ f) (Cx τ f):=by
 have:=h.typed f.type;exact⟨fun e=>by simp only[Cx,this.1 e],this.2⟩
theorem Eqv.twice {E:Prop}{σ τ:W}(h:Eqv E σ τ)(l:List ByteArray):Eqv E (Cu σ l) (Cu τ l):=h.Vk (by rw[h.ev])
theorem kr5 {E:Prop}:∀ (l:List (Bool × List ByteArray)) (σ τ:W),Eqv E σ τ->Nb E (Co σ l).1 (Co τ l).1/\Eqv E (Co σ l).2 (Co τ l).2
 |[],_,_,h=>⟨Nb.refl _ _,h⟩
 |x::l,σ,τ,h=>by
  have h1:=h.fresh;have h2:=kr5 l _ _ h1.2;simp only[Co];exact⟨⟨by simp only[Am,Ent.pt,h2.1.1],fun e=>by rw[h1.1 e,h2.1.2 e]⟩,h2.2⟩
theorem Eqv.head {E:Prop}{σ τ:W}(h:Eqv E σ τ)(s:Sp):kn2 E (Fu σ s) (Fu τ s)/\Nb E (Fu σ s).1.own (Fu τ s).1.own/\Nb E (Fu σ s).1.inner (Fu τ s).1.inner:=by
 have ho:=kr5 (s.names.map fun _=>Dy τ.env s) _ _ (h.twice s.names);have hcr:(s.formals.map fun f=>(false,Cz σ.env f.type))=s.formals.map fun f=>(false,Cz τ.env f.type):=List.map_congr_left fun f _=>by rw[h.env.carried]
 unfold Fu;rw[h.env.own,hcr];dsimp only;generalize Co (Cu σ s.names) (s.names.map fun _=>Dy τ.env s)=o at ho ⊢;generalize Co (Cu τ s.names) (s.names.map fun _=>Dy τ.env s)=o' at ho ⊢;have hi:=kr5 (s.formals.map fun f=>(false,Cz τ.env f.type)) _ _ (ho.2.twice (s.formals.map (·.name)));generalize Co (Cu o.2 (s.formals.map (·.name))) (s.formals.map fun f=>(false,Cz τ.env f.type))=i at hi ⊢;generalize Co (Cu o'.2 (s.formals.map (·.name))) (s.formals.map fun f=>(false,Cz τ.env f.type))=i' at hi ⊢;have ht:=hi.2.typed s.type;generalize Gn i.2 s.type=t at ht ⊢;generalize Gn i'.2 s.type=t' at ht ⊢;have hf:=mf3 s.formals _ _ (fun f _ σ τ h=>h.formal f) ht.2;generalize Cv Cx t.2 s.formals=f at hf ⊢;generalize Cv Cx t'.2 s.formals=f' at hf ⊢;have he:=jh1 s.e _ _ hf.2;exact⟨⟨fun e=>by rw[ho.1.2 e,hi.1.2 e,ht.1 e,hf.1 e,he.1 e],he.2⟩,ho.1,hi.1⟩
theorem kf7 (σ:W)(l:List Ex):Dn false σ l=Cv j2 σ l:=by cases l<;>rfl
theorem Eqv.out {E:Prop}{σ τ:W}(h:Eqv E σ τ)(tag:Bool)(l:List Ex):kn2 E (Dn tag σ l) (Dn tag τ l):=by
 cases tag with
 |false=>rw[kf7,kf7];exact jl1 l h
 |true=>
  cases l with
  |nil=>exact⟨fun _=>rfl,h⟩
  |cons x l=>
   have:=jl1 l h;simp only[Dn,if_true];exact⟨fun e=>by rw[this.1 e],this.2⟩
theorem Eqv.rep {E:Prop}{σ τ:W}(h:Eqv E σ τ)(r:Rp):kn2 E (Iw σ r) (Iw τ r)/\Nb E (Iw σ r).1.2 (Iw τ r).1.2:=by
 unfold Iw;split
 ·exact⟨⟨fun _=>rfl,h⟩,Nb.refl _ _⟩
 ·have hf:=h.fresh;have hb:=jh1 r.base _ _ hf.2;have hc:=jh1 r.count _ _ hb.2;dsimp only;exact⟨⟨fun e=>by rw[hf.1 e,hb.1 e,hc.1 e],hc.2⟩,rfl,fun e=>by rw[hf.1 e]⟩
theorem Eqv.ghead {E:Prop}{σ τ:W}(h:Eqv E σ τ)(cond chan:Ex)(targets values:List Ex)(time:Ex):kn2 E (Ie σ cond chan targets values time) (Ie τ cond chan targets values time):=by
 have ha:=jh1 cond _ _ h;have hb:=jh1 chan _ _ ha.2;have hc:=jl1 targets hb.2;have hd:=jl1 values hc.2;have he:=jh1 time _ _ hd.2;unfold Ie;dsimp only;exact⟨fun e=>by rw[ha.1 e,hb.1 e,hc.1 e,hd.1 e,he.1 e],he.2⟩
theorem Eqv.phead {E:Prop}{σ τ:W}(h:Eqv E σ τ)(kind:Int)(name:ByteArray)(chan:Ex)(targets exprs:List Ex)(rep:Rp):kn2 E (Hg σ kind name chan targets exprs rep) (Hg τ kind name chan targets exprs rep)/\Nb E (Hg σ kind name chan targets exprs rep).1.own (Hg τ kind name chan targets exprs rep).1.own:=by
 have ha:kn2 E (if kind=17 then nameOf σ name else (name,σ)) (if kind=17 then nameOf τ name else (name,τ)):=by
  split
  ·exact h.name name
  ·exact⟨fun _=>rfl,h⟩
 have hc:=jh1 chan _ _ ha.2;have ht:=jl1 targets hc.2;have hx:=ht.2.out (Cy τ.env kind chan exprs) exprs;have hr:=hx.2.rep rep;unfold Hg;rw[h.env.tagged];dsimp only;exact⟨⟨fun e=>by rw[ha.1 e,hc.1 e,ht.1 e,hx.1 e,hr.1.1 e],hr.1.2⟩,hr.2⟩
mutual
theorem qa9 {E:Prop}:∀ (p:Pr) (σ τ:W),Eqv E σ τ->kn2 E (Fv σ p) (Fv τ p)
 |.mk kind name chan targets exprs rep guards l procs (.mk sk st sn se spp sf sb),σ,τ,h=>by
  have hh:=h.phead kind name chan targets exprs rep;simp only[Fv];generalize Hg σ kind name chan targets exprs rep=a at hh ⊢;generalize Hg τ kind name chan targets exprs rep=a' at hh ⊢;split
  ·have hs:=hh.1.2.head (.mk sk st sn se spp sf []);generalize Fu a.2 (.mk sk st sn se spp sf [])=s at hs ⊢;generalize Fu a'.2 (.mk sk st sn se spp sf [])=s' at hs ⊢;have hb:=kf8 sb _ _ (hs.1.2.setEnv (h.env.push (sf.map (·.name)) hs.2.2));generalize Gv {s.2 with env:=Cn σ.env (sf.map (·.name)) s.1.inner} sb=b at hb ⊢;generalize Gv {s'.2 with env:=Cn τ.env (sf.map (·.name)) s'.1.inner} sb=b' at hb ⊢;have hg:=mf4 guards _ _ (hb.2.setEnv (h.env.push sn hs.2.1));generalize Hw {b.2 with env:=Cn σ.env sn s.1.own} guards=g at hg ⊢;generalize Hw {b'.2 with env:=Cn τ.env sn s'.1.own} guards=g' at hg ⊢;have hm:=kf8 l _ _ hg.2;exact⟨fun e=>by rw[hh.1.1 e,hs.1.1 e,hb.1 e,hg.1 e,hm.1 e],hm.2.setEnv h.env⟩
  ·have hg:=mf4 guards _ _ (hh.1.2.setEnv (h.env.push (if rep.name=ByteArray.empty then [] else [rep.name]) hh.2));generalize Hw {a.2 with env:=Cn σ.env (if rep.name=ByteArray.empty then [] else [rep.name]) a.1.own} guards=g at hg ⊢;generalize Hw {a'.2 with env:=Cn τ.env (if rep.name=ByteArray.empty then [] else [rep.name]) a'.1.own} guards=g' at hg ⊢;have hm:=kf8 l _ _ hg.2;exact⟨fun e=>by rw[hh.1.1 e,hg.1 e,hm.1 e],hm.2.setEnv h.env⟩
theorem kf8 {E:Prop}:∀ (l:List Pr) (σ τ:W),Eqv E σ τ->kn2 E (Gv σ l) (Gv τ l)
 |[],_,_,h=>by simp only[Gv];exact⟨fun _=>rfl,h⟩
 |e::l,σ,τ,h=>by
  have h1:=qa9 e σ τ h;have h2:=kf8 l _ _ h1.2;simp only[Gv];exact⟨fun e=>by rw[h1.1 e,h2.1 e],h2.2⟩
theorem rk9 {E:Prop}:∀ (p:Gu) (σ τ:W),Eqv E σ τ->kn2 E (Jc σ p) (Jc τ p)
 |.mk kind name cond chan targets values time body,σ,τ,h=>by
  have hh:=h.ghead cond chan targets values time;have hb:=kf8 body _ _ hh.2;simp only[Jc];exact⟨fun e=>by rw[hh.1 e,hb.1 e],hb.2⟩
theorem mf4 {E:Prop}:∀ (l:List Gu) (σ τ:W),Eqv E σ τ->kn2 E (Hw σ l) (Hw τ l)
 |[],_,_,h=>by simp only[Hw];exact⟨fun _=>rfl,h⟩
 |e::l,σ,τ,h=>by
  have h1:=rk9 e σ τ h;have h2:=mf4 l _ _ h1.2;simp only[Hw];exact⟨fun e=>by rw[h1.1 e,h2.1 e],h2.2⟩
end
end Sc
end
section
namespace Sc
structure Grow (σ τ:W)(n:Nat):Prop where
 env:τ.env=σ.env
 tk:τ.tk=σ.tk
 ev:τ.ev.length<=σ.ev.length+n
 pre:σ.ev<+:τ.ev
 lo:0<=σ.count->σ.count<=τ.count
 hi:0<=σ.count->τ.count<=σ.count+n * (σ.tk.length+1)
theorem Grow.refl (σ:W)(n:Nat):Grow σ σ n:=⟨rfl,rfl,by omega,List.prefix_rfl,fun _=>Int.le_refl _,fun _=>by
 have:(0:Int)<=n * (σ.tk.length+1):=Int.mul_nonneg (by omega) (by omega);omega⟩
theorem Grow.trans {σ τ υ:W}{n m:Nat}(h:Grow σ τ n)(h2:Grow τ υ m):Grow σ υ (n+m):=by
 refine⟨h2.env.trans h.env,h2.tk.trans h.tk,?_,h.pre.trans h2.pre,fun h0=>?_,fun h0=>?_⟩
 ·have:=h.ev;have:=h2.ev;omega
 ·have:=h.lo h0;have:=h2.lo (by omega);omega
 ·have h3:=h.lo h0;have h4:=h.hi h0;have h5:=h2.hi (by omega);rw[h.tk]at h5;have:((n+m:Nat):Int) * (σ.tk.length+1)=n * (σ.tk.length+1)+m * (σ.tk.length+1):=by rw[Int.natCast_add,Int.add_mul]
  omega
theorem Grow.mono {σ τ:W}{n m:Nat}(h:Grow σ τ n)(hm:n<=m):Grow σ τ m:=by
 have:=h.trans (Grow.refl τ (m - n))
 rwa [show n+(m - n)=m by omega]at this
theorem Ho (σ:W)(s:ByteArray):Grow σ (nameOf σ s).2 1:=by
 unfold nameOf;split
 ·exact Grow.refl _ _
 ·refine⟨rfl,rfl,by simp[step],List.prefix_append _ _,fun _=>Int.le_refl _,fun _=>?_⟩;dsimp only[step];omega
theorem Oo {α:Type}{f:W->α->α × W}(N:α->Nat)(hf:∀ x σ,Grow σ (f σ x).2 (N x)):∀ (l:List α) (σ:W),Grow σ (Cv f σ l).2 (l.map N).sum
 |[],σ=>Grow.refl _ _
 |x::l,σ=>by
  simp only[Cv,Am,List.sum_cons];exact(hf x σ).trans (Oo N hf l _)
mutual
theorem Dj:∀ (e:Ex) (σ:W),Grow σ (j2 σ e).2 (exN e)
 |.mk kind op ty n s l,σ=>by
  have hr:Grow σ (if Dt kind then nameOf σ s else (s,σ)).2 1:=by
   split
   ·exact Ho σ s
   ·exact Grow.refl _ _
  simp only[j2,exN];rw[Nat.add_comm];exact hr.trans (jh4 l _)
theorem jh4:∀ (l:List Ex) (σ:W),Grow σ (l3 σ l).2 (Hr l)
 |[],σ=>by simp only[l3];exact Grow.refl _ _
 |e::l,σ=>by
  simp only[l3,Hr];exact(Dj e σ).trans (jh4 l _)
end
theorem Dm (l:List Ex)(σ:W):Grow σ (Cv j2 σ l).2 (Hr l):=by rw[<-ja5];exact jh4 l σ
theorem Kc (σ:W):Grow σ (Ct σ).2 1:=by
 have:=Ta σ (σ.count.toNat+1);refine⟨rfl,rfl,Nat.le_succ _,List.prefix_rfl,fun h=>?_,fun h=>?_⟩
 ·unfold Ct;dsimp only;omega
 ·unfold Ct;dsimp only;omega
theorem Na (σ:W)(t:Ty):Grow σ (Gn σ t).2 1:=by
 unfold Gn;split
 ·exact Grow.refl _ _
 ·exact Ho σ _
theorem Ko (σ:W)(f:Fo):Grow σ (Cx σ f).2 1:=Na σ _
theorem Lm (σ:W)(l:List ByteArray):Grow σ (Cu σ l) l.length:=by
 refine⟨rfl,rfl,?_,List.prefix_append _ _,fun _=>Int.le_refl _,(Grow.refl σ l.length).hi⟩;simp only[Cu,Ag,Aa];have:=List.length_filter_le (fun i=>(l.take i).any (isB (l.getD i ByteArray.empty))) (List.range l.length);rw[List.length_range]at this;omega
theorem Jo:∀ (l:List (Bool × List ByteArray)) (σ:W),Grow σ (Co σ l).2 l.length
 |[],σ=>Grow.refl _ _
 |x::l,σ=>by
  simp only[Co,Ai];rw[Nat.add_comm];exact(Kc σ).trans (Jo l _)
theorem Jv:∀ (l:List (Bool × List ByteArray)) (σ:W),(Co σ l).1.length=l.length
 |[],σ=>rfl
 |x::l,σ=>by simp only[Co,Ai,Jv l]
def Nc (s:Sp):Nat:=2 * s.names.length+3 * s.formals.length+exN s.e+1
theorem Oq (σ:W)(s:Sp):Grow σ (Fu σ s).2 (Nc s):=by
 unfold Fu;dsimp only;have h1:=Lm σ s.names;have h2:=Jo (s.names.map fun _=>Dy σ.env s) (Cu σ s.names);generalize Co (Cu σ s.names) (s.names.map fun _=>Dy σ.env s)=o at h2 ⊢;have h3:=Lm o.2 (s.formals.map (·.name));have h4:=Jo (s.formals.map fun f=>(false,Cz σ.env f.type)) (Cu o.2 (s.formals.map (·.name)));generalize Co (Cu o.2 (s.formals.map (·.name))) (s.formals.map fun f=>(false,Cz σ.env f.type))=i at h4 ⊢;have h5:=Na i.2 s.type;generalize Gn i.2 s.type=t at h5 ⊢;have h6:=Oo (fun _=>1) (fun f σ=>Ko σ f) s.formals t.2;generalize Cv Cx t.2 s.formals=f at h6 ⊢;have h7:=Dj s.e f.2;have h8:(s.formals.map fun _=>1).sum=s.formals.length:=by
  generalize s.formals=l
  induction l with
  |nil=>rfl
  |cons x l ih=>simp only[Am,List.sum_cons,ih,Ai];omega
 simp only[Aa]at h2 h3 h4;refine((((((h1.trans h2).trans h3).trans h4).trans h5).trans h6).trans h7).mono ?_;unfold Nc;omega
theorem Ic (tag:Bool)(σ:W)(l:List Ex):Grow σ (Dn tag σ l).2 (Hr l):=by
 cases tag with
 |false=>rw[kf7];exact Dm l σ
 |true=>
  cases l with
  |nil=>exact Grow.refl _ _
  |cons e l=>
   simp only[Dn,if_true];exact(Dm l σ).mono (by simp only[Hr];omega)
def Lv (r:Rp):Nat:=1+exN r.base+exN r.count
theorem mk0 (σ:W)(r:Rp):Grow σ (Iw σ r).2 (Lv r):=by
 unfold Iw Lv;split
 ·exact Grow.refl _ _
 ·exact((Kc σ).trans (Dj r.base _)).trans (Dj r.count _)
def Ng (cond chan:Ex)(targets values:List Ex)(time:Ex):Nat:=exN cond+exN chan+Hr targets+Hr values+exN time
theorem Rh (σ:W)(cond chan:Ex)(targets values:List Ex)(time:Ex):Grow σ (Ie σ cond chan targets values time).2 (Ng cond chan targets values time):=
 ((((Dj cond σ).trans (Dj chan _)).trans (Dm targets _)).trans (Dm values _)).trans (Dj time _)
def Gc (chan:Ex)(targets exprs:List Ex)(rep:Rp):Nat:=1+exN chan+Hr targets+Hr exprs+Lv rep
theorem Po (σ:W)(kind:Int)(name:ByteArray)(chan:Ex)(targets exprs:List Ex)(rep:Rp):Grow σ (Hg σ kind name chan targets exprs rep).2 (Gc chan targets exprs rep):=by
 have ha:Grow σ (if kind=17 then nameOf σ name else (name,σ)).2 1:=by
  split
  ·exact Ho σ name
  ·exact Grow.refl _ _
 exact(((ha.trans (Dj chan _)).trans (Dm targets _)).trans (Ic _ _ exprs)).trans (mk0 _ rep)
mutual
def prN:Pr->Nat
 |.mk _ _ chan targets exprs rep guards l _ (.mk _ _ sn se _ sf sb)=>Gc chan targets exprs rep+(2 * sn.length+3 * sf.length+exN se+1)+Hz sb+Jb guards+Hz l
def Hz:List Pr->Nat
 |[]=>0
 |p::l=>prN p+Hz l
def guN:Gu->Nat
 |.mk _ _ cond chan targets values time body=>Ng cond chan targets values time+Hz body
def Jb:List Gu->Nat
 |[]=>0
 |p::l=>guN p+Jb l
end
theorem Grow.setEnv {σ τ:W}{n:Nat}(e e':ByteArray->List Ent)(h:Grow {σ with env:=e} τ n):Grow σ {τ with env:=σ.env} n:=⟨rfl,h.tk,h.ev,h.pre,h.lo,h.hi⟩
mutual
theorem Qx:∀ (p:Pr) (σ:W),Grow σ (Fv σ p).2 (prN p)
 |.mk kind name chan targets exprs rep guards l procs (.mk sk st sn se spp sf sb),σ=>by
  have hh:=Po σ kind name chan targets exprs rep;simp only[Fv,prN];generalize Hg σ kind name chan targets exprs rep=a at hh ⊢;split
  ·have hs:=Oq a.2 (.mk sk st sn se spp sf []);generalize Fu a.2 (.mk sk st sn se spp sf [])=s at hs ⊢;have hb:=Iu sb {s.2 with env:=Cn σ.env (sf.map (·.name)) s.1.inner};generalize Gv {s.2 with env:=Cn σ.env (sf.map (·.name)) s.1.inner} sb=b at hb ⊢;have hg:=Ji guards {b.2 with env:=Cn σ.env sn s.1.own};generalize Hw {b.2 with env:=Cn σ.env sn s.1.own} guards=g at hg ⊢;have hm:=Iu l g.2;generalize Gv g.2 l=m at hm ⊢;have h1:=hb.setEnv _ (fun _=>[]);have h2:=hg.setEnv _ (fun _=>[]);have h3:Grow b.2 {m.2 with env:=b.2.env} (Hz l+Jb guards):=⟨rfl,hm.tk.trans hg.tk,by have:=hm.ev;have:=hg.ev;dsimp only at *;omega,hg.pre.trans hm.pre,fun h0=>by have:=hm.lo (by have:=hg.lo h0;dsimp only at *;omega);have:=hg.lo h0;dsimp only at *;omega,fun h0=>by
    have:=(h2.trans (m:=Hz l) (υ:={m.2 with env:=b.2.env}) ⟨rfl,hm.tk,hm.ev,hm.pre,hm.lo,hm.hi⟩).hi h0;rw[Nat.add_comm];exact this⟩
   have h4:=((hh.trans hs).trans h1).trans (υ:={m.2 with env:=s.2.env}) (m:=Hz l+Jb guards) ⟨rfl,h3.tk,h3.ev,h3.pre,h3.lo,h3.hi⟩;exact(show Grow σ {m.2 with env:=σ.env} _ from ⟨rfl,h4.tk,h4.ev,h4.pre,h4.lo,h4.hi⟩:Grow σ {m.2 with env:=σ.env} _).mono (by unfold Nc;dsimp only[Sp.names,Sp.formals,Sp.e];omega)
  ·have hg:=Ji guards {a.2 with env:=Cn σ.env (if rep.name=ByteArray.empty then [] else [rep.name]) a.1.own};generalize Hw {a.2 with env:=Cn σ.env (if rep.name=ByteArray.empty then [] else [rep.name]) a.1.own} guards=g at hg ⊢;have hm:=Iu l g.2;generalize Gv g.2 l=m at hm ⊢;have h2:=hg.setEnv _ (fun _=>[]);have h3:=(hh.trans h2).trans (υ:={m.2 with env:=a.2.env}) (m:=Hz l) ⟨rfl,hm.tk,hm.ev,hm.pre,hm.lo,hm.hi⟩;exact(show Grow σ {m.2 with env:=σ.env} _ from ⟨rfl,h3.tk,h3.ev,h3.pre,h3.lo,h3.hi⟩:Grow σ {m.2 with env:=σ.env} _).mono (by omega)
theorem Iu:∀ (l:List Pr) (σ:W),Grow σ (Gv σ l).2 (Hz l)
 |[],σ=>by simp only[Gv];exact Grow.refl _ _
 |e::l,σ=>by
  simp only[Gv,Hz];exact(Qx e σ).trans (Iu l _)
theorem rb4:∀ (p:Gu) (σ:W),Grow σ (Jc σ p).2 (guN p)
 |.mk kind name cond chan targets values time body,σ=>by
  simp only[Jc,guN];exact(Rh σ cond chan targets values time).trans (Iu body _)
theorem Ji:∀ (l:List Gu) (σ:W),Grow σ (Hw σ l).2 (Jb l)
 |[],σ=>by simp only[Hw];exact Grow.refl _ _
 |e::l,σ=>by
  simp only[Hw,Jb];exact(rb4 e σ).trans (Ji l _)
end
end Sc
end
section
namespace Sc
theorem mk1:∀ l:List UInt8,Op.bytesLess l l=false
 |[]=>rfl
 |a::l=>by
  have h:¬a<a:=by simp
  simp[Op.bytesLess,h,mk1 l]
theorem kc5:∀ {a b c:List UInt8},Op.bytesLess a b=true->Op.bytesLess b c=true->Op.bytesLess a c=true
 |_,[],_,h,_=>by simp[Op.bytesLess]at h
 |_,_::_,[],_,h=>by simp[Op.bytesLess]at h
 |[],_::_,_::_,_,_=>rfl
 |x::a,y::b,z::c,h1,h2=>by
  simp only[Op.bytesLess,Bo,Ab,Al,Eb]at h1 h2 ⊢;rcases h1 with h1|⟨rfl,h1⟩
  ·rcases h2 with h2|⟨rfl,h2⟩
   ·exact .inl (UInt8.lt_trans h1 h2)
   ·exact .inl h1
  ·rcases h2 with h2|⟨rfl,h2⟩
   ·exact .inl h2
   ·exact .inr ⟨rfl,kc5 h1 h2⟩
theorem kn3:∀ a b:List UInt8,Op.bytesLess a b=true\/a=b\/Op.bytesLess b a=true
 |[],[]=>.inr (.inl rfl)
 |[],_::_=>.inl rfl
 |_::_,[]=>.inr (.inr rfl)
 |x::a,y::b=>by
  simp only[Op.bytesLess,Bo,Ab,Al,Eb];by_cases h:x<y
  ·exact .inl (.inl h)
  ·by_cases h2:y<x
   ·exact .inr (.inr (.inl h2))
   ·have e:x=y:=UInt8.toNat_inj.1 (by rw[UInt8.lt_iff_toNat_lt]at h h2;omega);subst e;rcases kn3 a b with h3|h3|h3
    ·exact .inl (.inr ⟨rfl,h3⟩)
    ·exact .inr (.inl (by rw[h3]))
    ·exact .inr (.inr (.inr ⟨rfl,h3⟩))
theorem qb0 {a b:List UInt8}(h:Op.bytesLess a b=true):Op.bytesLess b a=false:=by
 cases h2:Op.bytesLess b a with
 |false=>rfl
 |true=>have:=kc5 h h2;rw[mk1]at this;cases this
theorem rl0:∀ a b:List UInt8,a<b↔Op.bytesLess a b=true
 |[],[]=>by simp[Op.bytesLess]
 |[],_::_=>by simp[Op.bytesLess]
 |_::_,[]=>by simp[Op.bytesLess]
 |x::a,y::b=>by
  simp only[Op.bytesLess,Bo,Ab,Al,Eb];rw[List.cons_lt_cons_iff,rl0 a b]
theorem qp4 (a b:List UInt8):a<=b↔Op.bytesLess b a=false:=by
 rw[<-List.not_lt,rl0];simp
def bL (s t:ByteArray):Bool:=Op.bytesLess s.data.toList t.data.toList
theorem qb1 (s:ByteArray):bL s s=false:=mk1 _
theorem mk2 {a b c:ByteArray}(h:bL a b=true)(h2:bL b c=true):bL a c=true:=kc5 h h2
theorem rb5 {s t:ByteArray}(h:s.data.toList=t.data.toList):s=t:=by
 cases s with|mk a=>cases t with|mk b=>cases a with|mk a=>cases b with|mk b=>exact congrArg (fun l=>ByteArray.mk (Array.mk l)) h
theorem rl1 (a b:ByteArray):bL a b=true\/a=b\/bL b a=true:=by
 rcases kn3 a.data.toList b.data.toList with h|h|h
 ·exact .inl h
 ·exact .inr (.inl (rb5 h))
 ·exact .inr (.inr h)
def kr6 (l:List ByteArray):Prop:=l.Pairwise fun a b=>bL a b=true
def Lu:List ByteArray->ByteArray->List ByteArray
 |[],s=>[s]
 |x::l,s=>if bL x s then x::Lu l s else if x=s then x::l else s::x::l
theorem mk3 {l:List ByteArray}{s x:ByteArray}:x∈Lu l s↔x∈l\/x=s:=by
 induction l with
 |nil=>simp[Lu]
 |cons y l ih=>
  simp only[Lu];split
  ·simp only[Bf,ih,or_assoc]
  ·split
   ·rename_i h;subst h;simp only[Bf];constructor
    ·exact .inl
    ·rintro(h|rfl)
     ·exact h
     ·exact .inl rfl
   ·simp only[Bf];constructor
    ·rintro(h|h)
     ·exact .inr h
     ·exact .inl h
    ·rintro(h|h)
     ·exact .inr h
     ·exact .inl h
theorem mf5 {l:List ByteArray}(h:kr6 l)(s:ByteArray):kr6 (Lu l s):=by
 unfold kr6 at *
 induction l with
 |nil=>simp[Lu]
 |cons y l ih=>
  rw[List.pairwise_cons]at h;simp only[Lu];split
  ·rename_i hy;refine List.pairwise_cons.2 ⟨fun x hx=>?_,ih h.2⟩;rcases mk3.1 hx with hx|rfl
   ·exact h.1 x hx
   ·exact hy
  ·split
   ·exact List.pairwise_cons.2 h
   ·rename_i h1 h2;have h3:bL s y=true:=by
     rcases rl1 y s with h4|h4|h4
     ·exact absurd h4 h1
     ·exact absurd h4 h2
     ·exact h4
    refine List.pairwise_cons.2 ⟨fun x hx=>?_,List.pairwise_cons.2 h⟩;rcases Bf.1 hx with rfl|hx
    ·exact h3
    ·exact mk2 h3 (h.1 x hx)
def once (l:List ByteArray):List ByteArray:=l.foldl Lu []
theorem mk4 {x:ByteArray}:∀ (l m:List ByteArray),x∈l.foldl Lu m↔x∈m\/x∈l
 |[],m=>by simp
 |y::l,m=>by rw[List.foldl_cons,mk4 l,mk3,Bf,or_assoc]
theorem kf9:∀ (l m:List ByteArray),kr6 m->kr6 (l.foldl Lu m)
 |[],_,h=>h
 |y::l,m,h=>kf9 l _ (mf5 h y)
theorem mk5 {x:ByteArray}{l:List ByteArray}:x∈once l↔x∈l:=by simp[once,mk4]
theorem mf6 (l:List ByteArray):kr6 (once l):=kf9 l [] List.Pairwise.nil
theorem mk6:∀ {l m:List ByteArray},kr6 l->kr6 m->(∀ x,x∈l↔x∈m)->l=m
 |[],[],_,_,_=>rfl
 |[],y::m,_,_,h=>by have:=(h y).2 Bi;cases this
 |y::l,[],_,_,h=>by have:=(h y).1 Bi;cases this
 |x::l,y::m,h1,h2,h=>by
  unfold kr6 at h1 h2;rw[List.pairwise_cons]at h1 h2;have e:x=y:=by
   rcases Bf.1 ((h x).1 Bi) with e|hx
   ·exact e
   ·rcases Bf.1 ((h y).2 Bi) with e|hy
    ·exact e.symm
    ·have h3:=h2.1 x hx;have h4:=h1.1 y hy;have:=mk2 h3 h4;rw[qb1]at this;cases this
  subst e;rw[mk6 (l:=l) (m:=m) h1.2 h2.2 fun z=>?_];have hz:=h z;simp only[Bf]at hz;constructor
  ·intro hm;rcases hz.1 (.inr hm) with rfl|h5
   ·have:=h1.1 z hm;rw[qb1]at this;cases this
   ·exact h5
  ·intro hm;rcases hz.2 (.inr hm) with rfl|h5
   ·have:=h2.1 z hm;rw[qb1]at this;cases this
   ·exact h5
theorem kz1 (d:Array (List UInt8))(hs:∀ i j,i<j->j<d.size->Op.bytesLess d[j]! d[i]! =false):∀ m,m<=d.size->
 (Lib.compactUpTo d m).Pairwise (fun a b=>Op.bytesLess a b=true)/\(∀ x,x∈Lib.compactUpTo d m↔∃ j,j<m/\d[j]! =x):=by
 intro m
 induction m with
 |zero=>intro _;simp[Lib.compactUpTo]
 |succ m ih=>
  intro hm;obtain⟨h1,h2⟩:=ih (by omega);rw[Lib.compactUpTo_succ];have hlt:∀ x,(∃ j,j<m+1/\d[j]! =x)↔(∃ j,j<m/\d[j]! =x)\/d[m]! =x:=fun x=>by
   constructor
   ·rintro⟨j,hj,e⟩;rcases Ah j m with h|h
    ·exact .inl ⟨j,h,e⟩
    ·obtain rfl:j=m:=by omega
     exact .inr e
   ·rintro(⟨j,hj,e⟩|e)
    ·exact⟨j,by omega,e⟩
    ·exact⟨m,by omega,e⟩
  by_cases hk:Lib.keeps d m=true
  ·rw[Ae hk];refine⟨List.pairwise_append.2 ⟨h1,List.pairwise_singleton _ _,fun a ha b hb=>?_⟩,fun x=>?_⟩
   ·obtain rfl:=Em.1 hb;obtain⟨j,hj,rfl⟩:=(h2 a).1 ha;have h3:=hs j m hj (by omega);rcases kn3 d[j]! d[m]! with h4|h4|h4
    ·exact h4
    ·exfalso;simp only[Lib.keeps,Al]at hk;rcases hk with hk|hk
     ·omega
     ·apply hk;rcases kn3 d[m - 1]! d[m]! with h5|h5|h5
      ·rcases Ah j (m - 1) with h6|h6
       ·have h7:=hs j (m - 1) h6 (by omega);rw[h4,h5]at h7;cases h7
       ·obtain rfl:j=m - 1:=by omega
        exact h4.symm
      ·exact h5.symm
      ·have h7:=hs (m - 1) m (by omega) (by omega);rw[h7]at h5;cases h5
    ·rw[h3]at h4;cases h4
   ·rw[Bu,h2,hlt,Em];constructor
    ·rintro(h|h)
     ·exact .inl h
     ·exact .inr h.symm
    ·rintro(h|h)
     ·exact .inl h
     ·exact .inr h.symm
  ·rw[Af hk,Bp];refine⟨h1,fun x=>?_⟩;rw[h2,hlt];constructor
   ·exact .inl
   ·rintro(h|rfl)
    ·exact h
    ·simp only[Lib.keeps,Al,not_or,Classical.not_not]at hk;exact⟨m - 1,by omega,hk.2.symm⟩
def toB (l:List UInt8):ByteArray:=⟨l.toArray⟩
def Kq (l:List ByteArray):List (List UInt8):=(l.map fun s=>s.data.toList).mergeSort fun x y=>decide (x<=y)
theorem mq2 (l:List ByteArray):(Kq l).Pairwise fun a b=>Op.bytesLess b a=false:=by
 have h:=List.pairwise_mergeSort (le:=fun x y:List UInt8=>decide (x<=y)) (fun a b c h1 h2=>by
  rw[Al,qp4]at *;rcases kn3 c a with h3|h3|h3
  ·exfalso;rcases kn3 b c with h4|h4|h4
   ·have:=kc5 h4 h3;rw[h1]at this;cases this
   ·subst h4;rw[h3]at h1;cases h1
   ·rw[h4]at h2;cases h2
  ·subst h3;exact mk1 _
  ·exact qb0 h3) (fun a b=>by
  rw[Bo,Al,Al,qp4,qp4];cases h:Op.bytesLess b a with
  |false=>exact .inl rfl
  |true=>exact .inr (qb0 h)) (l.map fun s=>s.data.toList)
 exact h.imp fun h=>by rwa [Al,qp4]at h
theorem Uv (l:List ByteArray):(Lib.compact (Kq l)).map toB=once l:=by
 have hp:=mq2 l;rw[List.pairwise_iff_getElem]at hp;have hg:∀ j,j<(Kq l).length->(Kq l).toArray[j]! =(Kq l)[j]!:=fun j hj=>by simp[hj]
 obtain⟨h1,h2⟩:=kz1 (Kq l).toArray (fun i j hij hj=>by
  have hj':j<(Kq l).length:=by simpa using hj
  have hi':i<(Kq l).length:=by omega
  have:=hp i j hi' hj' hij;simpa [hi',hj']using this) (Kq l).length (by simp)
 refine mk6 (List.pairwise_map.2 h1) (mf6 l) fun x=>?_;rw[mk5,Bs];have hmem:∀ y,y∈Kq l↔y∈l.map fun s=>s.data.toList:=fun y=>List.mem_mergeSort;constructor
 ·rintro⟨y,hy,rfl⟩;obtain⟨j,hj,rfl⟩:=(h2 y).1 hy;have:(Kq l).toArray[j]!∈Kq l:=by simp[hj]
  obtain⟨s,hs,e⟩:=Bs.1 ((hmem _).1 this);rw[<-e];exact hs
 ·intro hx;have:=(hmem _).2 (Bs.2 ⟨x,hx,rfl⟩);obtain⟨j,hj,e⟩:=Er.1 this;exact⟨_,(h2 _).2 ⟨j,hj,by simpa [hj]using e⟩,rfl⟩
end Sc
end
section
namespace Sc
mutual
def Hl:Pr->List ByteArray
 |.mk _ _ _ _ _ rep guards l _ (.mk _ _ sn _ _ sf sb)=>(if rep.name=ByteArray.empty then [] else [rep.name])++(sn++(sf.map (·.name)++(Dr sb++(Gf guards++Dr l))))
def Dr:List Pr->List ByteArray
 |[]=>[]
 |p::l=>Hl p++Dr l
def Qn:Gu->List ByteArray
 |.mk _ _ _ _ _ _ _ body=>Dr body
def Gf:List Gu->List ByteArray
 |[]=>[]
 |g::l=>Qn g++Gf l
end
end Sc
end
end Go.Proofs.YtdopmfifmgkmoaaGreatDoor
