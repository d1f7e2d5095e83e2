/- Parts. -/
import Derived.Test.YtklklgfpkpglgaaGreatDoorQ23
import Derived.Lib.SlicesCompact
set_option linter.all false
set_option maxRecDepth 100000
set_option maxHeartbeats 0
namespace Go.Proofs.YtklklgfpkpglgaaGreatDoor
open Go.RowKit Go.Proofs.Tryz
section
namespace Sc
def dec (n:Nat):List UInt8:=if h:n<10 then [UInt8.ofNat (48+n)] else dec (n / 10)++[UInt8.ofNat (48+n % 10)]
def aC (n:Nat):ByteArray:=⟨(110::dec n).toArray⟩
def W.has (σ:W)(s:ByteArray):Prop:=s∈σ.tk.map (·.1)
open Classical in
noncomputable def skip (σ:W):Nat->Nat->Nat
 |0,_=>0
 |f+1,n=>if σ.has (aC n) then skip σ f (n+1)+1 else 0
noncomputable def Co (σ:W):ByteArray × W:=
 let n:=σ.count.toNat+1+skip σ (σ.tk.length+1) (σ.count.toNat+1)
 (aC n,{σ with count:=n})
def Cx (env:ByteArray->List Ent)(t:Ty):List ByteArray:=
 if t.kind=4/\t.aN≠ByteArray.empty then (match (env t.aN).getLast? with
  |some x=>if x.aN then x.tags else []
  |none=>[]) else []
def Gr (σ:W)(t:Ty):Ty × W:=if t.aN=ByteArray.empty then (t,σ) else ({t with aN:=(aA σ t.aN).1},(aA σ t.aN).2)
def Fq (σ:W)(f:Fo):Fo × W:=({f with type:=(Gr σ f.type).1},(Gr σ f.type).2)
noncomputable def Cr (σ:W)(l:List ByteArray):W:={σ with ev:=σ.ev++(((List.range l.length).filter λi=>(l.take i).any (isB (l.getD i ByteArray.empty))).map λi=>(l.getD i ByteArray.empty,true))}
noncomputable def Da (σ:W):List (Bool × List ByteArray)->List Ent × W
 |[]=>([],σ)
 |x::l=>(⟨(Co σ).1,x.1,x.2⟩::(Da (Co σ).2 l).1,(Da (Co σ).2 l).2)
def Cn (env:ByteArray->List Ent):List ByteArray->List Ent->ByteArray->List Ent
 |s::ns,x::xs=>Cn (λt=>if t=s then env t++[x] else env t) ns xs
 |_,_=>env
def named:List Fo->List ByteArray->List Fo
 |f::l,s::ns=>{f with name:=s}::named l ns
 |_,_=>[]
def Oo (s:Sp):List ByteArray:=if s.aN.cases then s.aN.l.map (·.tag) else []
def Dx (env:ByteArray->List Ent)(s:Sp):Bool × List ByteArray:=if s.kind=4 then (true,Oo s) else (false,Cx env s.type)
structure Head where
 names:List ByteArray
 type:Ty
 ax:List Fo
 e:Ex
 own:List Ent
 inner:List Ent
noncomputable def Fw (σ:W)(s:Sp):Head × W:=
 let o:=Da (Cr σ s.names) (s.names.map λ_=>Dx σ.env s)
 let i:=Da (Cr o.2 (s.ax.map (·.name))) (s.ax.map λf=>(false,Cx σ.env f.type))
 let t:=Gr i.2 s.type
 let f:=z6 Fq t.2 s.ax
 let e:=j5 f.2 s.e
 (⟨o.1.map (·.aD),t.1,named f.1 (i.1.map (·.aD)),e.1,o.1,i.1⟩,e.2)
noncomputable def Dh (env:ByteArray->List Ent)(kind:Int)(av:Ex)(au:List Ex):Bool:=
 if kind=5 then (match au with
  |e::_=>decide (e.kind=4) && (match (env av.s).getLast? with
   |some x=>!x.aN && x.tags.any (isB e.s)
   |none=>false)
  |[]=>false) else false
def Gg (tag:Bool)(σ:W):List Ex->List Ex × W
 |[]=>([],σ)
 |e::l=>if tag then (e::(z6 j5 σ l).1,(z6 j5 σ l).2) else z6 j5 σ (e::l)
noncomputable def Iq (σ:W)(r:Rp):(Rp × List Ent) × W:=
 if r.name=ByteArray.empty then ((r,[]),σ)
 else
  let f:=Co σ
  let b:=j5 f.2 r.base
  let c:=j5 b.2 r.count
  ((⟨f.1,b.1,c.1⟩,[⟨f.1,false,[]⟩]),c.2)
structure GHead where
 cond:Ex
 av:Ex
 aj:List Ex
 values:List Ex
 time:Ex
def Hy (σ:W)(cond av:Ex)(aj values:List Ex)(time:Ex):GHead × W:=
 let a:=j5 σ cond
 let b:=j5 a.2 av
 let c:=z6 j5 b.2 aj
 let d:=z6 j5 c.2 values
 let e:=j5 d.2 time
 (⟨a.1,b.1,c.1,d.1,e.1⟩,e.2)
structure PHead where
 name:ByteArray
 av:Ex
 aj:List Ex
 au:List Ex
 rep:Rp
 own:List Ent
noncomputable def Gh (σ:W)(kind:Int)(name:ByteArray)(av:Ex)(aj au:List Ex)(rep:Rp):PHead × W:=
 let a:=if kind=17 then aA σ name else (name,σ)
 let c:=j5 a.2 av
 let t:=z6 j5 c.2 aj
 let x:=Gg (Dh σ.env kind av au) t.2 au
 let r:=Iq x.2 rep
 (⟨a.1,c.1,t.1,x.1,r.1.1,r.1.2⟩,r.2)
mutual
noncomputable def Fz (σ:W):Pr->Pr × W
 |.mk kind name av aj au rep ak l ay (.mk sk st sn se spp sf sb)=>
  let h:=Gh σ kind name av aj au rep
  if kind=18 then
   let s:=Fw h.2 (.mk sk st sn se spp sf [])
   let b:=Fx {s.2 with env:=Cn σ.env (sf.map (·.name)) s.1.inner} sb
   let g:=Gl {b.2 with env:=Cn σ.env sn s.1.own} ak
   let m:=Fx g.2 l
   (.mk kind h.1.name h.1.av h.1.aj h.1.au h.1.rep g.1 m.1 ay (.mk sk s.1.type s.1.names s.1.e spp s.1.ax b.1),{m.2 with env:=σ.env})
  else
   let g:=Gl {h.2 with env:=Cn σ.env (if rep.name=ByteArray.empty then [] else [rep.name]) h.1.own} ak
   let m:=Fx g.2 l
   (.mk kind h.1.name h.1.av h.1.aj h.1.au h.1.rep g.1 m.1 ay (.mk sk st sn se spp sf sb),{m.2 with env:=σ.env})
noncomputable def Fx (σ:W):List Pr->List Pr × W
 |[]=>([],σ)
 |p::l=>((Fz σ p).1::(Fx (Fz σ p).2 l).1,(Fx (Fz σ p).2 l).2)
noncomputable def Ju (σ:W):Gu->Gu × W
 |.mk kind name cond av aj values time body=>
  let h:=Hy σ cond av aj values time
  let b:=Fx h.2 body
  (.mk kind name h.1.cond h.1.av h.1.aj h.1.values h.1.time b.1,b.2)
noncomputable def Gl (σ:W):List Gu->List Gu × W
 |[]=>([],σ)
 |g::l=>((Ju σ g).1::(Gl (Ju σ g).2 l).1,(Gl (Ju σ g).2 l).2)
end
theorem Mj:∀ (l:List Pr) (σ:W),Fx σ l=z6 Fz σ l
 |[],σ=>by simp[Fx,z6]
 |e::l,σ=>by simp only[Fx,z6,Mj l]
theorem Om:∀ (l:List Gu) (σ:W),Gl σ l=z6 Ju σ l
 |[],σ=>by simp[Gl,z6]
 |e::l,σ=>by simp only[Gl,z6,Om l]
end Sc
end
section
namespace Sc
def qj9 (l:List UInt8):Nat:=l.foldl (λa c=>10 * a+(c.toNat - 48)) 0
theorem qk0:∀ (m n:Nat),n<=m->qj9 (dec n)=n:=by
 intro m
 induction m with
 |zero=>
  intro n h;obtain rfl:n=0:=by omega
  rw[dec];rfl
 |succ m ih=>
  intro n h;rw[dec];split
  ·rename_i h10;have:(UInt8.ofNat (48+n)).toNat=48+n:=by rw[UInt8.toNat_ofNat'];omega
   simp only[qj9,List.foldl_cons,List.foldl_nil,this];omega
  ·rename_i h10;have:=ih (n / 10) (by omega);have h2:(UInt8.ofNat (48+n % 10)).toNat=48+n % 10:=by rw[UInt8.toNat_ofNat'];omega
   unfold qj9 at this ⊢;rw[List.foldl_append,this];simp only[List.foldl_cons,List.foldl_nil,h2];omega
theorem rv2 {m n:Nat}(h:dec m=dec n):m=n:=by
 rw[<-qk0 m m (Ap _),h,qk0 n n (Ap _)]
theorem Oa {m n:Nat}(h:aC m=aC n):m=n:=by
 have h2:=congrArg (λb=>b.data.toList) h;simp only[aC]at h2;exact rv2 (List.cons.inj h2).2
theorem mf1 {α:Type}[DecidableEq α]:∀ (l m:List α),l.Nodup->(∀ x∈l,x∈m)->l.length<=m.length
 |[],_,_,_=>Ak _
 |x::l,m,hn,hs=>by
  rw[List.nodup_cons]at hn;have h:=mf1 l (m.erase x) hn.2 λy hy=>by
   have hne:y≠x:=λe=>hn.1 (e ▸ hy);exact(List.mem_erase_of_ne hne).2 (hs y (Ax _ hy))
  have hx:=hs x Aw;have h2:=List.length_erase_of_mem hx;have h3:=List.length_pos_of_mem hx;simp only[Aj];omega
theorem Oq (σ:W):∀ f n i,i<skip σ f n->σ.has (aC (n+i))
 |0,n,i,h=>by simp[skip]at h
 |f+1,n,i,h=>by
  simp only[skip]at h;split at h
  ·rename_i hh;cases i with
   |zero=>exact hh
   |succ i=>
    have:=Oq σ f (n+1) i (by omega)
    rwa [show n+1+i=n+(i+1) by omega]at this
  ·omega
theorem ms6 (σ:W):∀ f n,skip σ f n<f->¬σ.has (aC (n+skip σ f n))
 |0,n,h=>by simp[skip]at h
 |f+1,n,h=>by
  simp only[skip]at h ⊢;split
  ·rename_i hh;rw[Ad hh]at h;have:=ms6 σ f (n+1) (by omega)
   rwa [show n+1+skip σ f (n+1)=n+(skip σ f (n+1)+1) by omega]at this
  ·rename_i hh;exact hh
theorem mn4 (n:Nat):∀ k,((List.range k).map λi=>aC (n+i)).Nodup:=λk=>by
 have:=List.nodup_range (n:=k);rw[List.nodup_iff_pairwise_ne]at this ⊢;refine List.pairwise_map.2 (this.imp λh e=>h ?_);have:=Oa e;omega
theorem Vj (σ:W)(n:Nat):skip σ (σ.tk.length+1) n<=σ.tk.length:=by
 have h:=mf1 ((List.range (skip σ (σ.tk.length+1) n)).map λi=>aC (n+i)) (σ.tk.map (·.1)) (mn4 _ _) λx hx=>by
  obtain⟨i,hi,rfl⟩:=Br.1 hx;exact Oq σ _ n i (Fh.1 hi)
 simpa using h
theorem Qn (σ:W)(n:Nat):¬σ.has (aC (n+skip σ (σ.tk.length+1) n)):=ms6 σ _ n (by have:=Vj σ n;omega)
end Sc
end
section
namespace Sc
def Ent.pt (x:Ent):Bool × List ByteArray:=(x.aN,x.tags)
def Mx (E:Prop)(l m:List Ent):Prop:=l.map Ent.pt=m.map Ent.pt/\(E->l=m)
def Rc (E:Prop)(f g:ByteArray->List Ent):Prop:=∀ s,Mx E (f s) (g s)
structure Eqv (E:Prop)(σ τ:W):Prop where
 env:Rc E σ.env τ.env
 count:E->σ.count=τ.count
 ev:σ.ev=τ.ev
 has:E->∀ s,σ.has s↔τ.has s
def kr2 (E:Prop){α:Type}(a b:α × W):Prop:=(E->a.1=b.1)/\Eqv E a.2 b.2
theorem Mx.refl (E:Prop)(l:List Ent):Mx E l l:=⟨rfl,λ_=>rfl⟩
theorem Eqv.setEnv {E:Prop}{σ τ:W}(h:Eqv E σ τ){e e':ByteArray->List Ent}(he:Rc E e e'):Eqv E {σ with env:=e} {τ with env:=e'}:=⟨he,h.count,h.ev,h.has⟩
theorem Eqv.Vw {E:Prop}{σ τ:W}(h:Eqv E σ τ){e e':List (ByteArray × Bool)}(he:e=e'):Eqv E {σ with ev:=e} {τ with ev:=e'}:=⟨h.env,h.count,he,h.has⟩
theorem Rc.last {E:Prop}{f g:ByteArray->List Ent}(h:Rc E f g)(s:ByteArray):(f s).getLast?.map Ent.pt=(g s).getLast?.map Ent.pt:=by rw[<-List.getLast?_map,<-List.getLast?_map,(h s).1]
theorem Mx.append {E:Prop}{l m l' m':List Ent}(h:Mx E l m)(h':Mx E l' m'):Mx E (l++l') (m++m'):=⟨by rw[Av,Av,h.1,h'.1],λe=>by rw[h.2 e,h'.2 e]⟩
theorem Rc.push {E:Prop}:∀ (ns:List ByteArray) {xs ys:List Ent} {f g:ByteArray->List Ent},Rc E f g->Mx E xs ys->Rc E (Cn f ns xs) (Cn g ns ys)
 |[],[],[],_,_,h,_=>h
 |[],[],_::_,_,_,h,_=>h
 |[],_::_,[],_,_,h,_=>h
 |[],_::_,_::_,_,_,h,_=>h
 |_::_,[],[],_,_,h,_=>h
 |_::_,[],_::_,_,_,_,h'=>by have:=h'.1;simp at this
 |_::_,_::_,[],_,_,_,h'=>by have:=h'.1;simp at this
 |s::ns,x::xs,y::ys,f,g,h,h'=>by
  have h1:=h'.1;simp only[List.map_cons,List.cons.injEq]at h1;simp only[Cn];refine Rc.push ns (λt=>?_) ⟨h1.2,λe=>(List.cons.inj (h'.2 e)).2⟩;split
  ·exact(h t).append ⟨by simp only[List.map_cons,Bj,h1.1],λe=>by rw[(List.cons.inj (h'.2 e)).1]⟩
  ·exact h t
theorem Rc.carried {E:Prop}{f g:ByteArray->List Ent}(h:Rc E f g)(t:Ty):Cx f t=Cx g t:=by
 unfold Cx;have:=h.last t.aN;split
 ·cases h1:(f t.aN).getLast? with
  |none=>
   cases h2:(g t.aN).getLast? with
   |none=>rfl
   |some y=>rw[h1,h2]at this;cases this
  |some x=>
   cases h2:(g t.aN).getLast? with
   |none=>rw[h1,h2]at this;cases this
   |some y=>
    rw[h1,h2]at this;simp only[Er,Bi,Ent.pt,Bh]at this;simp only[this.1,this.2]
 ·rfl
theorem Rc.own {E:Prop}{f g:ByteArray->List Ent}(h:Rc E f g)(s:Sp):Dx f s=Dx g s:=by
 unfold Dx;rw[h.carried]
theorem Rc.tagged {E:Prop}{f g:ByteArray->List Ent}(h:Rc E f g)(kind:Int)(av:Ex)(au:List Ex):Dh f kind av au=Dh g kind av au:=by
 unfold Dh;have:=h.last av.s;split
 ·cases au with
  |nil=>rfl
  |cons e l=>
   dsimp only;cases h1:(f av.s).getLast? with
   |none=>
    cases h2:(g av.s).getLast? with
    |none=>rfl
    |some y=>rw[h1,h2]at this;cases this
   |some x=>
    cases h2:(g av.s).getLast? with
    |none=>rw[h1,h2]at this;cases this
    |some y=>
     rw[h1,h2]at this;simp only[Er,Bi,Ent.pt,Bh]at this;simp only[this.1,this.2]
 ·rfl
theorem Eqv.name {E:Prop}{σ τ:W}(h:Eqv E σ τ)(s:ByteArray):kr2 E (aA σ s) (aA τ s):=by
 unfold aA;have:=h.env.last s;have he:=(h.env s).2;cases h1:(σ.env s).getLast? with
 |none=>
  cases h2:(τ.env s).getLast? with
  |none=>exact⟨λ_=>rfl,h.Vw (by rw[h.ev])⟩
  |some y=>rw[h1,h2]at this;cases this
 |some x=>
  cases h2:(τ.env s).getLast? with
  |none=>rw[h1,h2]at this;cases this
  |some y=>
   refine⟨λe=>?_,h⟩;rw[he e,h2]at h1;cases h1;rfl
theorem mn5 {E:Prop}{α:Type}{f:W->α->α × W}:∀ (l:List α) (σ τ:W),(∀ x∈l,∀ σ τ,Eqv E σ τ->kr2 E (f σ x) (f τ x))->Eqv E σ τ->kr2 E (z6 f σ l) (z6 f τ l)
 |[],_,_,_,h=>⟨λ_=>rfl,h⟩
 |x::l,σ,τ,hf,h=>by
  have h1:=hf x Aw σ τ h;have h2:=mn5 l _ _ (λy hy=>hf y (Ax _ hy)) h1.2;simp only[z6];exact⟨λe=>by rw[h1.1 e,h2.1 e],h2.2⟩
mutual
theorem ji0 {E:Prop}:∀ (e:Ex) (σ τ:W),Eqv E σ τ->kr2 E (j5 σ e) (j5 τ e)
 |.mk kind op ty n s l,σ,τ,h=>by
  have hr:kr2 E (if Cz kind then aA σ s else (s,σ)) (if Cz kind then aA τ s else (s,τ)):=by
   split
   ·exact h.name s
   ·exact⟨λ_=>rfl,h⟩
  simp only[j5];have hq:=mf2 l _ _ hr.2;exact⟨λe=>by rw[hr.1 e,hq.1 e],hq.2⟩
theorem mf2 {E:Prop}:∀ (l:List Ex) (σ τ:W),Eqv E σ τ->kr2 E (y4 σ l) (y4 τ l)
 |[],_,_,h=>by simp only[y4];exact⟨λ_=>rfl,h⟩
 |e::l,σ,τ,h=>by
  have h1:=ji0 e σ τ h;have h2:=mf2 l _ _ h1.2;simp only[y4];exact⟨λe=>by rw[h1.1 e,h2.1 e],h2.2⟩
end
theorem jl7 {E:Prop}(l:List Ex){σ τ:W}(h:Eqv E σ τ):kr2 E (z6 j5 σ l) (z6 j5 τ l):=mn5 l σ τ (λx _=>ji0 x) h
theorem kw7 {σ τ:W}(h:∀ s,σ.has s↔τ.has s)(n:Nat):skip σ (σ.tk.length+1) n=skip τ (τ.tk.length+1) n:=by
 rcases Fp (skip σ (σ.tk.length+1) n) (skip τ (τ.tk.length+1) n) with h1|h1|h1
 ·exact absurd ((h _).2 (Oq τ _ n _ h1)) (Qn σ n)
 ·exact h1
 ·exact absurd ((h _).1 (Oq σ _ n _ h1)) (Qn τ n)
theorem Eqv.aD {E:Prop}{σ τ:W}(h:Eqv E σ τ):kr2 E (Co σ) (Co τ):=by
 unfold Co;dsimp only;exact⟨λe=>by rw[h.count e,kw7 (h.has e)],h.env,λe=>by dsimp only;rw[h.count e,kw7 (h.has e)],h.ev,h.has⟩
theorem Eqv.typed {E:Prop}{σ τ:W}(h:Eqv E σ τ)(t:Ty):kr2 E (Gr σ t) (Gr τ t):=by
 unfold Gr;split
 ·exact⟨λ_=>rfl,h⟩
 ·have:=h.name t.aN;exact⟨λe=>by rw[this.1 e],this.2⟩
theorem Eqv.formal {E:Prop}{σ τ:W}(h:Eqv E σ τ)(f:Fo):kr2 E (Fq σ f) (Fq τ f):=by
 have:=h.typed f.type;exact⟨λe=>by simp only[Fq,this.1 e],this.2⟩
theorem Eqv.twice {E:Prop}{σ τ:W}(h:Eqv E σ τ)(l:List ByteArray):Eqv E (Cr σ l) (Cr τ l):=h.Vw (by rw[h.ev])
theorem kw8 {E:Prop}:∀ (l:List (Bool × List ByteArray)) (σ τ:W),Eqv E σ τ->Mx E (Da σ l).1 (Da τ l).1/\Eqv E (Da σ l).2 (Da τ l).2
 |[],_,_,h=>⟨Mx.refl _ _,h⟩
 |x::l,σ,τ,h=>by
  have h1:=h.aD;have h2:=kw8 l _ _ h1.2;simp only[Da];exact⟨⟨by simp only[List.map_cons,Ent.pt,h2.1.1],λe=>by rw[h1.1 e,h2.1.2 e]⟩,h2.2⟩
theorem Eqv.head {E:Prop}{σ τ:W}(h:Eqv E σ τ)(s:Sp):kr2 E (Fw σ s) (Fw τ s)/\Mx E (Fw σ s).1.own (Fw τ s).1.own/\Mx E (Fw σ s).1.inner (Fw τ s).1.inner:=by
 have ho:=kw8 (s.names.map λ_=>Dx τ.env s) _ _ (h.twice s.names);have hcr:(s.ax.map λf=>(false,Cx σ.env f.type))=s.ax.map λf=>(false,Cx τ.env f.type):=List.map_congr_left λf _=>by rw[h.env.carried]
 unfold Fw;rw[h.env.own,hcr];dsimp only;generalize Da (Cr σ s.names) (s.names.map λ_=>Dx τ.env s)=o at ho ⊢;generalize Da (Cr τ s.names) (s.names.map λ_=>Dx τ.env s)=o' at ho ⊢;have hi:=kw8 (s.ax.map λf=>(false,Cx τ.env f.type)) _ _ (ho.2.twice (s.ax.map (·.name)));generalize Da (Cr o.2 (s.ax.map (·.name))) (s.ax.map λf=>(false,Cx τ.env f.type))=i at hi ⊢;generalize Da (Cr o'.2 (s.ax.map (·.name))) (s.ax.map λf=>(false,Cx τ.env f.type))=i' at hi ⊢;have ht:=hi.2.typed s.type;generalize Gr i.2 s.type=t at ht ⊢;generalize Gr i'.2 s.type=t' at ht ⊢;have hf:=mn5 s.ax _ _ (λf _ σ τ h=>h.formal f) ht.2;generalize z6 Fq t.2 s.ax=f at hf ⊢;generalize z6 Fq t'.2 s.ax=f' at hf ⊢;have he:=ji0 s.e _ _ hf.2;exact⟨⟨λe=>by rw[ho.1.2 e,hi.1.2 e,ht.1 e,hf.1 e,he.1 e],he.2⟩,ho.1,hi.1⟩
theorem jn0 (σ:W)(l:List Ex):Gg false σ l=z6 j5 σ l:=by cases l<;>rfl
theorem Eqv.out {E:Prop}{σ τ:W}(h:Eqv E σ τ)(tag:Bool)(l:List Ex):kr2 E (Gg tag σ l) (Gg tag τ l):=by
 cases tag with
 |false=>rw[jn0,jn0];exact jl7 l h
 |true=>
  cases l with
  |nil=>exact⟨λ_=>rfl,h⟩
  |cons x l=>
   have:=jl7 l h;simp only[Gg,if_true];exact⟨λe=>by rw[this.1 e],this.2⟩
theorem Eqv.rep {E:Prop}{σ τ:W}(h:Eqv E σ τ)(r:Rp):kr2 E (Iq σ r) (Iq τ r)/\Mx E (Iq σ r).1.2 (Iq τ r).1.2:=by
 unfold Iq;split
 ·exact⟨⟨λ_=>rfl,h⟩,Mx.refl _ _⟩
 ·have hf:=h.aD;have hb:=ji0 r.base _ _ hf.2;have hc:=ji0 r.count _ _ hb.2;dsimp only;exact⟨⟨λe=>by rw[hf.1 e,hb.1 e,hc.1 e],hc.2⟩,rfl,λe=>by rw[hf.1 e]⟩
theorem Eqv.ghead {E:Prop}{σ τ:W}(h:Eqv E σ τ)(cond av:Ex)(aj values:List Ex)(time:Ex):kr2 E (Hy σ cond av aj values time) (Hy τ cond av aj values time):=by
 have ha:=ji0 cond _ _ h;have hb:=ji0 av _ _ ha.2;have hc:=jl7 aj hb.2;have hd:=jl7 values hc.2;have he:=ji0 time _ _ hd.2;unfold Hy;dsimp only;exact⟨λe=>by rw[ha.1 e,hb.1 e,hc.1 e,hd.1 e,he.1 e],he.2⟩
theorem Eqv.phead {E:Prop}{σ τ:W}(h:Eqv E σ τ)(kind:Int)(name:ByteArray)(av:Ex)(aj au:List Ex)(rep:Rp):kr2 E (Gh σ kind name av aj au rep) (Gh τ kind name av aj au rep)/\Mx E (Gh σ kind name av aj au rep).1.own (Gh τ kind name av aj au rep).1.own:=by
 have ha:kr2 E (if kind=17 then aA σ name else (name,σ)) (if kind=17 then aA τ name else (name,τ)):=by
  split
  ·exact h.name name
  ·exact⟨λ_=>rfl,h⟩
 have hc:=ji0 av _ _ ha.2;have ht:=jl7 aj hc.2;have hx:=ht.2.out (Dh τ.env kind av au) au;have hr:=hx.2.rep rep;unfold Gh;rw[h.env.tagged];dsimp only;exact⟨⟨λe=>by rw[ha.1 e,hc.1 e,ht.1 e,hx.1 e,hr.1.1 e],hr.1.2⟩,hr.2⟩
mutual
theorem ro3 {E:Prop}:∀ (p:Pr) (σ τ:W),Eqv E σ τ->kr2 E (Fz σ p) (Fz τ p)
 |.mk kind name av aj au rep ak l ay (.mk sk st sn se spp sf sb),σ,τ,h=>by
  have hh:=h.phead kind name av aj au rep;simp only[Fz];generalize Gh σ kind name av aj au rep=a at hh ⊢;generalize Gh τ kind name av aj au rep=a' at hh ⊢;split
  ·have hs:=hh.1.2.head (.mk sk st sn se spp sf []);generalize Fw a.2 (.mk sk st sn se spp sf [])=s at hs ⊢;generalize Fw a'.2 (.mk sk st sn se spp sf [])=s' at hs ⊢;have hb:=ki7 sb _ _ (hs.1.2.setEnv (h.env.push (sf.map (·.name)) hs.2.2));generalize Fx {s.2 with env:=Cn σ.env (sf.map (·.name)) s.1.inner} sb=b at hb ⊢;generalize Fx {s'.2 with env:=Cn τ.env (sf.map (·.name)) s'.1.inner} sb=b' at hb ⊢;have hg:=mn6 ak _ _ (hb.2.setEnv (h.env.push sn hs.2.1));generalize Gl {b.2 with env:=Cn σ.env sn s.1.own} ak=g at hg ⊢;generalize Gl {b'.2 with env:=Cn τ.env sn s'.1.own} ak=g' at hg ⊢;have hm:=ki7 l _ _ hg.2;exact⟨λe=>by rw[hh.1.1 e,hs.1.1 e,hb.1 e,hg.1 e,hm.1 e],hm.2.setEnv h.env⟩
  ·have hg:=mn6 ak _ _ (hh.1.2.setEnv (h.env.push (if rep.name=ByteArray.empty then [] else [rep.name]) hh.2));generalize Gl {a.2 with env:=Cn σ.env (if rep.name=ByteArray.empty then [] else [rep.name]) a.1.own} ak=g at hg ⊢;generalize Gl {a'.2 with env:=Cn τ.env (if rep.name=ByteArray.empty then [] else [rep.name]) a'.1.own} ak=g' at hg ⊢;have hm:=ki7 l _ _ hg.2;exact⟨λe=>by rw[hh.1.1 e,hg.1 e,hm.1 e],hm.2.setEnv h.env⟩
theorem ki7 {E:Prop}:∀ (l:List Pr) (σ τ:W),Eqv E σ τ->kr2 E (Fx σ l) (Fx τ l)
 |[],_,_,h=>by simp only[Fx];exact⟨λ_=>rfl,h⟩
 |e::l,σ,τ,h=>by
  have h1:=ro3 e σ τ h;have h2:=ki7 l _ _ h1.2;simp only[Fx];exact⟨λe=>by rw[h1.1 e,h2.1 e],h2.2⟩
theorem vh3 {E:Prop}:∀ (p:Gu) (σ τ:W),Eqv E σ τ->kr2 E (Ju σ p) (Ju τ p)
 |.mk kind name cond av aj values time body,σ,τ,h=>by
  have hh:=h.ghead cond av aj values time;have hb:=ki7 body _ _ hh.2;simp only[Ju];exact⟨λe=>by rw[hh.1 e,hb.1 e],hb.2⟩
theorem mn6 {E:Prop}:∀ (l:List Gu) (σ τ:W),Eqv E σ τ->kr2 E (Gl σ l) (Gl τ l)
 |[],_,_,h=>by simp only[Gl];exact⟨λ_=>rfl,h⟩
 |e::l,σ,τ,h=>by
  have h1:=vh3 e σ τ h;have h2:=mn6 l _ _ h1.2;simp only[Gl];exact⟨λe=>by rw[h1.1 e,h2.1 e],h2.2⟩
end
end Sc
end
section
namespace Sc
structure Grow (σ τ:W)(n:Nat):Prop where
 env:τ.env=σ.env
 tk:τ.tk=σ.tk
 ev:τ.ev.length<=σ.ev.length+n
 pre:σ.ev<+:τ.ev
 lo:0<=σ.count->σ.count<=τ.count
 hi:0<=σ.count->τ.count<=σ.count+n * (σ.tk.length+1)
theorem Grow.refl (σ:W)(n:Nat):Grow σ σ n:=⟨rfl,rfl,by omega,List.prefix_rfl,λ_=>Eu _,λ_=>by
 have:(0:Int)<=n * (σ.tk.length+1):=Int.mul_nonneg (by omega) (by omega);omega⟩
theorem Grow.trans {σ τ υ:W}{n m:Nat}(h:Grow σ τ n)(h2:Grow τ υ m):Grow σ υ (n+m):=by
 refine⟨h2.env.trans h.env,h2.tk.trans h.tk,?_,h.pre.trans h2.pre,λh0=>?_,λh0=>?_⟩
 ·have:=h.ev;have:=h2.ev;omega
 ·have:=h.lo h0;have:=h2.lo (by omega);omega
 ·have h3:=h.lo h0;have h4:=h.hi h0;have h5:=h2.hi (by omega);rw[h.tk]at h5;have:((n+m:Nat):Int) * (σ.tk.length+1)=n * (σ.tk.length+1)+m * (σ.tk.length+1):=by rw[Int.natCast_add,Int.add_mul]
  omega
theorem Grow.mono {σ τ:W}{n m:Nat}(h:Grow σ τ n)(hm:n<=m):Grow σ τ m:=by
 have:=h.trans (Grow.refl τ (m - n))
 rwa [show n+(m - n)=m by omega]at this
theorem Jq (σ:W)(s:ByteArray):Grow σ (aA σ s).2 1:=by
 unfold aA;split
 ·exact Grow.refl _ _
 ·refine⟨rfl,rfl,by simp[step],List.prefix_append _ _,λ_=>Eu _,λ_=>?_⟩;dsimp only[step];omega
theorem Nn {α:Type}{f:W->α->α × W}(N:α->Nat)(hf:∀ x σ,Grow σ (f σ x).2 (N x)):∀ (l:List α) (σ:W),Grow σ (z6 f σ l).2 (l.map N).sum
 |[],σ=>Grow.refl _ _
 |x::l,σ=>by
  simp only[z6,List.map_cons,List.sum_cons];exact(hf x σ).trans (Nn N hf l _)
mutual
theorem Dk:∀ (e:Ex) (σ:W),Grow σ (j5 σ e).2 (exN e)
 |.mk kind op ty n s l,σ=>by
  have hr:Grow σ (if Cz kind then aA σ s else (s,σ)).2 1:=by
   split
   ·exact Jq σ s
   ·exact Grow.refl _ _
  simp only[j5,exN];rw[Nat.add_comm];exact hr.trans (Mh l _)
theorem Mh:∀ (l:List Ex) (σ:W),Grow σ (y4 σ l).2 (Gw l)
 |[],σ=>by simp only[y4];exact Grow.refl _ _
 |e::l,σ=>by
  simp only[y4,Gw];exact(Dk e σ).trans (Mh l _)
end
theorem Gf (l:List Ex)(σ:W):Grow σ (z6 j5 σ l).2 (Gw l):=by rw[<-ja4];exact Mh l σ
theorem Nl (σ:W):Grow σ (Co σ).2 1:=by
 have:=Vj σ (σ.count.toNat+1);refine⟨rfl,rfl,Nat.le_succ _,List.prefix_rfl,λh=>?_,λh=>?_⟩
 ·unfold Co;dsimp only;omega
 ·unfold Co;dsimp only;omega
theorem Np (σ:W)(t:Ty):Grow σ (Gr σ t).2 1:=by
 unfold Gr;split
 ·exact Grow.refl _ _
 ·exact Jq σ _
theorem Ko (σ:W)(f:Fo):Grow σ (Fq σ f).2 1:=Np σ _
theorem Lf (σ:W)(l:List ByteArray):Grow σ (Cr σ l) l.length:=by
 refine⟨rfl,rfl,?_,List.prefix_append _ _,λ_=>Eu _,(Grow.refl σ l.length).hi⟩;simp only[Cr,Ag,Ab];have:=List.length_filter_le (λi=>(l.take i).any (isB (l.getD i ByteArray.empty))) (List.range l.length);rw[List.length_range]at this;omega
theorem Ke:∀ (l:List (Bool × List ByteArray)) (σ:W),Grow σ (Da σ l).2 l.length
 |[],σ=>Grow.refl _ _
 |x::l,σ=>by
  simp only[Da,Aj];rw[Nat.add_comm];exact(Nl σ).trans (Ke l _)
theorem Nj:∀ (l:List (Bool × List ByteArray)) (σ:W),(Da σ l).1.length=l.length
 |[],σ=>rfl
 |x::l,σ=>by simp only[Da,Aj,Nj l]
def Po (s:Sp):Nat:=2 * s.names.length+3 * s.ax.length+exN s.e+1
theorem Nc (σ:W)(s:Sp):Grow σ (Fw σ s).2 (Po s):=by
 unfold Fw;dsimp only;have h1:=Lf σ s.names;have h2:=Ke (s.names.map λ_=>Dx σ.env s) (Cr σ s.names);generalize Da (Cr σ s.names) (s.names.map λ_=>Dx σ.env s)=o at h2 ⊢;have h3:=Lf o.2 (s.ax.map (·.name));have h4:=Ke (s.ax.map λf=>(false,Cx σ.env f.type)) (Cr o.2 (s.ax.map (·.name)));generalize Da (Cr o.2 (s.ax.map (·.name))) (s.ax.map λf=>(false,Cx σ.env f.type))=i at h4 ⊢;have h5:=Np i.2 s.type;generalize Gr i.2 s.type=t at h5 ⊢;have h6:=Nn (λ_=>1) (λf σ=>Ko σ f) s.ax t.2;generalize z6 Fq t.2 s.ax=f at h6 ⊢;have h7:=Dk s.e f.2;have h8:(s.ax.map λ_=>1).sum=s.ax.length:=by
  generalize s.ax=l
  induction l with
  |nil=>rfl
  |cons x l ih=>simp only[List.map_cons,List.sum_cons,ih,Aj];omega
 simp only[Ab]at h2 h3 h4;refine((((((h1.trans h2).trans h3).trans h4).trans h5).trans h6).trans h7).mono ?_;unfold Po;omega
theorem Lb (tag:Bool)(σ:W)(l:List Ex):Grow σ (Gg tag σ l).2 (Gw l):=by
 cases tag with
 |false=>rw[jn0];exact Gf l σ
 |true=>
  cases l with
  |nil=>exact Grow.refl _ _
  |cons e l=>
   simp only[Gg,if_true];exact(Gf l σ).mono (by simp only[Gw];omega)
def Tz (r:Rp):Nat:=1+exN r.base+exN r.count
theorem ms7 (σ:W)(r:Rp):Grow σ (Iq σ r).2 (Tz r):=by
 unfold Iq Tz;split
 ·exact Grow.refl _ _
 ·exact((Nl σ).trans (Dk r.base _)).trans (Dk r.count _)
def Qb (cond av:Ex)(aj values:List Ex)(time:Ex):Nat:=exN cond+exN av+Gw aj+Gw values+exN time
theorem Ox (σ:W)(cond av:Ex)(aj values:List Ex)(time:Ex):Grow σ (Hy σ cond av aj values time).2 (Qb cond av aj values time):=
 ((((Dk cond σ).trans (Dk av _)).trans (Gf aj _)).trans (Gf values _)).trans (Dk time _)
def Lu (av:Ex)(aj au:List Ex)(rep:Rp):Nat:=1+exN av+Gw aj+Gw au+Tz rep
theorem Oy (σ:W)(kind:Int)(name:ByteArray)(av:Ex)(aj au:List Ex)(rep:Rp):Grow σ (Gh σ kind name av aj au rep).2 (Lu av aj au rep):=by
 have ha:Grow σ (if kind=17 then aA σ name else (name,σ)).2 1:=by
  split
  ·exact Jq σ name
  ·exact Grow.refl _ _
 exact(((ha.trans (Dk av _)).trans (Gf aj _)).trans (Lb _ _ au)).trans (ms7 _ rep)
mutual
def prN:Pr->Nat
 |.mk _ _ av aj au rep ak l _ (.mk _ _ sn se _ sf sb)=>Lu av aj au rep+(2 * sn.length+3 * sf.length+exN se+1)+Kt sb+Mi ak+Kt l
def Kt:List Pr->Nat
 |[]=>0
 |p::l=>prN p+Kt l
def guN:Gu->Nat
 |.mk _ _ cond av aj values time body=>Qb cond av aj values time+Kt body
def Mi:List Gu->Nat
 |[]=>0
 |p::l=>guN p+Mi l
end
theorem Grow.setEnv {σ τ:W}{n:Nat}(e e':ByteArray->List Ent)(h:Grow {σ with env:=e} τ n):Grow σ {τ with env:=σ.env} n:=⟨rfl,h.tk,h.ev,h.pre,h.lo,h.hi⟩
mutual
theorem Nb:∀ (p:Pr) (σ:W),Grow σ (Fz σ p).2 (prN p)
 |.mk kind name av aj au rep ak l ay (.mk sk st sn se spp sf sb),σ=>by
  have hh:=Oy σ kind name av aj au rep;simp only[Fz,prN];generalize Gh σ kind name av aj au rep=a at hh ⊢;split
  ·have hs:=Nc a.2 (.mk sk st sn se spp sf []);generalize Fw a.2 (.mk sk st sn se spp sf [])=s at hs ⊢;have hb:=Gz sb {s.2 with env:=Cn σ.env (sf.map (·.name)) s.1.inner};generalize Fx {s.2 with env:=Cn σ.env (sf.map (·.name)) s.1.inner} sb=b at hb ⊢;have hg:=Il ak {b.2 with env:=Cn σ.env sn s.1.own};generalize Gl {b.2 with env:=Cn σ.env sn s.1.own} ak=g at hg ⊢;have hm:=Gz l g.2;generalize Fx g.2 l=m at hm ⊢;have h1:=hb.setEnv _ (λ_=>[]);have h2:=hg.setEnv _ (λ_=>[]);have h3:Grow b.2 {m.2 with env:=b.2.env} (Kt l+Mi ak):=⟨rfl,hm.tk.trans hg.tk,by have:=hm.ev;have:=hg.ev;dsimp only at *;omega,hg.pre.trans hm.pre,λh0=>by have:=hm.lo (by have:=hg.lo h0;dsimp only at *;omega);have:=hg.lo h0;dsimp only at *;omega,λh0=>by
    have:=(h2.trans (m:=Kt l) (υ:={m.2 with env:=b.2.env}) ⟨rfl,hm.tk,hm.ev,hm.pre,hm.lo,hm.hi⟩).hi h0;rw[Nat.add_comm];exact this⟩
   have h4:=((hh.trans hs).trans h1).trans (υ:={m.2 with env:=s.2.env}) (m:=Kt l+Mi ak) ⟨rfl,h3.tk,h3.ev,h3.pre,h3.lo,h3.hi⟩;exact(show Grow σ {m.2 with env:=σ.env} _ from ⟨rfl,h4.tk,h4.ev,h4.pre,h4.lo,h4.hi⟩:Grow σ {m.2 with env:=σ.env} _).mono (by unfold Po;dsimp only[Sp.names,Sp.ax,Sp.e];omega)
  ·have hg:=Il ak {a.2 with env:=Cn σ.env (if rep.name=ByteArray.empty then [] else [rep.name]) a.1.own};generalize Gl {a.2 with env:=Cn σ.env (if rep.name=ByteArray.empty then [] else [rep.name]) a.1.own} ak=g at hg ⊢;have hm:=Gz l g.2;generalize Fx g.2 l=m at hm ⊢;have h2:=hg.setEnv _ (λ_=>[]);have h3:=(hh.trans h2).trans (υ:={m.2 with env:=a.2.env}) (m:=Kt l) ⟨rfl,hm.tk,hm.ev,hm.pre,hm.lo,hm.hi⟩;exact(show Grow σ {m.2 with env:=σ.env} _ from ⟨rfl,h3.tk,h3.ev,h3.pre,h3.lo,h3.hi⟩:Grow σ {m.2 with env:=σ.env} _).mono (by omega)
theorem Gz:∀ (l:List Pr) (σ:W),Grow σ (Fx σ l).2 (Kt l)
 |[],σ=>by simp only[Fx];exact Grow.refl _ _
 |e::l,σ=>by
  simp only[Fx,Kt];exact(Nb e σ).trans (Gz l _)
theorem qk1:∀ (p:Gu) (σ:W),Grow σ (Ju σ p).2 (guN p)
 |.mk kind name cond av aj values time body,σ=>by
  simp only[Ju,guN];exact(Ox σ cond av aj values time).trans (Gz body _)
theorem Il:∀ (l:List Gu) (σ:W),Grow σ (Gl σ l).2 (Mi l)
 |[],σ=>by simp only[Gl];exact Grow.refl _ _
 |e::l,σ=>by
  simp only[Gl,Mi];exact(qk1 e σ).trans (Il l _)
end
end Sc
end
section
namespace Sc
theorem ms8:∀ l:List UInt8,Op.bytesLess l l=false
 |[]=>rfl
 |a::l=>by
  have h:¬a<a:=by simp
  simp[Op.bytesLess,h,ms8 l]
theorem kf1:∀ {a b c:List UInt8},Op.bytesLess a b=true->Op.bytesLess b c=true->Op.bytesLess a c=true
 |_,[],_,h,_=>by simp[Op.bytesLess]at h
 |_,_::_,[],_,h=>by simp[Op.bytesLess]at h
 |[],_::_,_::_,_,_=>rfl
 |x::a,y::b,z::c,h1,h2=>by
  simp only[Op.bytesLess,Bn,Aa,Ah,Ed]at h1 h2 ⊢;rcases h1 with h1|⟨rfl,h1⟩
  ·rcases h2 with h2|⟨rfl,h2⟩
   ·exact .inl (UInt8.lt_trans h1 h2)
   ·exact .inl h1
  ·rcases h2 with h2|⟨rfl,h2⟩
   ·exact .inl h2
   ·exact .inr ⟨rfl,kf1 h1 h2⟩
theorem kr3:∀ a b:List UInt8,Op.bytesLess a b=true\/a=b\/Op.bytesLess b a=true
 |[],[]=>.inr (.inl rfl)
 |[],_::_=>.inl rfl
 |_::_,[]=>.inr (.inr rfl)
 |x::a,y::b=>by
  simp only[Op.bytesLess,Bn,Aa,Ah,Ed];by_cases h:x<y
  ·exact .inl (.inl h)
  ·by_cases h2:y<x
   ·exact .inr (.inr (.inl h2))
   ·have e:x=y:=UInt8.toNat_inj.1 (by rw[UInt8.lt_iff_toNat_lt]at h h2;omega);subst e;rcases kr3 a b with h3|h3|h3
    ·exact .inl (.inr ⟨rfl,h3⟩)
    ·exact .inr (.inl (by rw[h3]))
    ·exact .inr (.inr (.inr ⟨rfl,h3⟩))
theorem qk2 {a b:List UInt8}(h:Op.bytesLess a b=true):Op.bytesLess b a=false:=by
 cases h2:Op.bytesLess b a with
 |false=>rfl
 |true=>have:=kf1 h h2;rw[ms8]at this;cases this
theorem vh4:∀ a b:List UInt8,a<b↔Op.bytesLess a b=true
 |[],[]=>by simp[Op.bytesLess]
 |[],_::_=>by simp[Op.bytesLess]
 |_::_,[]=>by simp[Op.bytesLess]
 |x::a,y::b=>by
  simp only[Op.bytesLess,Bn,Aa,Ah,Ed];rw[List.cons_lt_cons_iff,vh4 a b]
theorem rd6 (a b:List UInt8):a<=b↔Op.bytesLess b a=false:=by
 rw[<-List.not_lt,vh4];simp
def bL (s t:ByteArray):Bool:=Op.bytesLess s.data.toList t.data.toList
theorem Ul (s:ByteArray):bL s s=false:=ms8 _
theorem ms9 {a b c:ByteArray}(h:bL a b=true)(h2:bL b c=true):bL a c=true:=kf1 h h2
theorem rv3 {s t:ByteArray}(h:s.data.toList=t.data.toList):s=t:=by
 cases s with|mk a=>cases t with|mk b=>cases a with|mk a=>cases b with|mk b=>exact congrArg (λl=>ByteArray.mk (Array.mk l)) h
theorem vh5 (a b:ByteArray):bL a b=true\/a=b\/bL b a=true:=by
 rcases kr3 a.data.toList b.data.toList with h|h|h
 ·exact .inl h
 ·exact .inr (.inl (rv3 h))
 ·exact .inr (.inr h)
def kw9 (l:List ByteArray):Prop:=l.Pairwise λa b=>bL a b=true
def mf3:List ByteArray->ByteArray->List ByteArray
 |[],s=>[s]
 |x::l,s=>if bL x s then x::mf3 l s else if x=s then x::l else s::x::l
theorem mt0 {l:List ByteArray}{s x:ByteArray}:x∈mf3 l s↔x∈l\/x=s:=by
 induction l with
 |nil=>simp[mf3]
 |cons y l ih=>
  simp only[mf3];split
  ·simp only[Bc,ih,or_assoc]
  ·split
   ·rename_i h;subst h;simp only[Bc];constructor
    ·exact .inl
    ·rintro(h|rfl)
     ·exact h
     ·exact .inl rfl
   ·simp only[Bc];constructor
    ·rintro(h|h)
     ·exact .inr h
     ·exact .inl h
    ·rintro(h|h)
     ·exact .inr h
     ·exact .inl h
theorem mn7 {l:List ByteArray}(h:kw9 l)(s:ByteArray):kw9 (mf3 l s):=by
 unfold kw9 at *
 induction l with
 |nil=>simp[mf3]
 |cons y l ih=>
  rw[List.pairwise_cons]at h;simp only[mf3];split
  ·rename_i hy;refine List.pairwise_cons.2 ⟨λx hx=>?_,ih h.2⟩;rcases mt0.1 hx with hx|rfl
   ·exact h.1 x hx
   ·exact hy
  ·split
   ·exact List.pairwise_cons.2 h
   ·rename_i h1 h2;have h3:bL s y=true:=by
     rcases vh5 y s with h4|h4|h4
     ·exact absurd h4 h1
     ·exact absurd h4 h2
     ·exact h4
    refine List.pairwise_cons.2 ⟨λx hx=>?_,List.pairwise_cons.2 h⟩;rcases Bc.1 hx with rfl|hx
    ·exact h3
    ·exact ms9 h3 (h.1 x hx)
def once (l:List ByteArray):List ByteArray:=l.foldl mf3 []
theorem mt1 {x:ByteArray}:∀ (l m:List ByteArray),x∈l.foldl mf3 m↔x∈m\/x∈l
 |[],m=>by simp
 |y::l,m=>by rw[List.foldl_cons,mt1 l,mt0,Bc,or_assoc]
theorem ki8:∀ (l m:List ByteArray),kw9 m->kw9 (l.foldl mf3 m)
 |[],_,h=>h
 |y::l,m,h=>ki8 l _ (mn7 h y)
theorem mt2 {x:ByteArray}{l:List ByteArray}:x∈once l↔x∈l:=by simp[once,mt1]
theorem mn8 (l:List ByteArray):kw9 (once l):=ki8 l [] List.Pairwise.nil
theorem mt3:∀ {l m:List ByteArray},kw9 l->kw9 m->(∀ x,x∈l↔x∈m)->l=m
 |[],[],_,_,_=>rfl
 |[],y::m,_,_,h=>by have:=(h y).2 Aw;cases this
 |y::l,[],_,_,h=>by have:=(h y).1 Aw;cases this
 |x::l,y::m,h1,h2,h=>by
  unfold kw9 at h1 h2;rw[List.pairwise_cons]at h1 h2;have e:x=y:=by
   rcases Bc.1 ((h x).1 Aw) with e|hx
   ·exact e
   ·rcases Bc.1 ((h y).2 Aw) with e|hy
    ·exact e.symm
    ·have h3:=h2.1 x hx;have h4:=h1.1 y hy;have:=ms9 h3 h4;rw[Ul]at this;cases this
  subst e;rw[mt3 (l:=l) (m:=m) h1.2 h2.2 λz=>?_];have hz:=h z;simp only[Bc]at hz;constructor
  ·intro hm;rcases hz.1 (.inr hm) with rfl|h5
   ·have:=h1.1 z hm;rw[Ul]at this;cases this
   ·exact h5
  ·intro hm;rcases hz.2 (.inr hm) with rfl|h5
   ·have:=h2.1 z hm;rw[Ul]at this;cases this
   ·exact h5
theorem mf4 (d:Array (List UInt8))(hs:∀ i j,i<j->j<d.size->Op.bytesLess d[j]! d[i]! =false):∀ m,m<=d.size->
 (Lib.compactUpTo d m).Pairwise (λa b=>Op.bytesLess a b=true)/\(∀ x,x∈Lib.compactUpTo d m↔∃ j,j<m/\d[j]! =x):=by
 intro m
 induction m with
 |zero=>intro _;simp[Lib.compactUpTo]
 |succ m ih=>
  intro hm;obtain⟨h1,h2⟩:=ih (by omega);rw[Lib.compactUpTo_succ];have hlt:∀ x,(∃ j,j<m+1/\d[j]! =x)↔(∃ j,j<m/\d[j]! =x)\/d[m]! =x:=λx=>by
   constructor
   ·rintro⟨j,hj,e⟩;rcases Ai j m with h|h
    ·exact .inl ⟨j,h,e⟩
    ·obtain rfl:j=m:=by omega
     exact .inr e
   ·rintro(⟨j,hj,e⟩|e)
    ·exact⟨j,by omega,e⟩
    ·exact⟨m,by omega,e⟩
  by_cases hk:Lib.keeps d m=true
  ·rw[Ad hk];refine⟨List.pairwise_append.2 ⟨h1,List.pairwise_singleton _ _,λa ha b hb=>?_⟩,λx=>?_⟩
   ·obtain rfl:=Bs.1 hb;obtain⟨j,hj,rfl⟩:=(h2 a).1 ha;have h3:=hs j m hj (by omega);rcases kr3 d[j]! d[m]! with h4|h4|h4
    ·exact h4
    ·exfalso;simp only[Lib.keeps,Ah]at hk;rcases hk with hk|hk
     ·omega
     ·apply hk;rcases kr3 d[m - 1]! d[m]! with h5|h5|h5
      ·rcases Ai j (m - 1) with h6|h6
       ·have h7:=hs j (m - 1) h6 (by omega);rw[h4,h5]at h7;cases h7
       ·obtain rfl:j=m - 1:=by omega
        exact h4.symm
      ·exact h5.symm
      ·have h7:=hs (m - 1) m (by omega) (by omega);rw[h7]at h5;cases h5
    ·rw[h3]at h4;cases h4
   ·rw[Au,h2,hlt,Bs];constructor
    ·rintro(h|h)
     ·exact .inl h
     ·exact .inr h.symm
    ·rintro(h|h)
     ·exact .inl h
     ·exact .inr h.symm
  ·rw[Af hk,Ey];refine⟨h1,λx=>?_⟩;rw[h2,hlt];constructor
   ·exact .inl
   ·rintro(h|rfl)
    ·exact h
    ·simp only[Lib.keeps,Ah,not_or,Classical.not_not]at hk;exact⟨m - 1,by omega,hk.2.symm⟩
def toB (l:List UInt8):ByteArray:=⟨l.toArray⟩
def Jw (l:List ByteArray):List (List UInt8):=(l.map λs=>s.data.toList).mergeSort λx y=>decide (x<=y)
theorem mz3 (l:List ByteArray):(Jw l).Pairwise λa b=>Op.bytesLess b a=false:=by
 have h:=List.pairwise_mergeSort (le:=λx y:List UInt8=>decide (x<=y)) (λa b c h1 h2=>by
  rw[Ah,rd6]at *;rcases kr3 c a with h3|h3|h3
  ·exfalso;rcases kr3 b c with h4|h4|h4
   ·have:=kf1 h4 h3;rw[h1]at this;cases this
   ·subst h4;rw[h3]at h1;cases h1
   ·rw[h4]at h2;cases h2
  ·subst h3;exact ms8 _
  ·exact qk2 h3) (λa b=>by
  rw[Bn,Ah,Ah,rd6,rd6];cases h:Op.bytesLess b a with
  |false=>exact .inl rfl
  |true=>exact .inr (qk2 h)) (l.map λs=>s.data.toList)
 exact h.imp λh=>by rwa [Ah,rd6]at h
theorem Ov (l:List ByteArray):(Lib.compact (Jw l)).map toB=once l:=by
 have hp:=mz3 l;rw[Fj]at hp;have hg:∀ j,j<(Jw l).length->(Jw l).toArray[j]! =(Jw l)[j]!:=λj hj=>by simp[hj]
 obtain⟨h1,h2⟩:=mf4 (Jw l).toArray (λi j hij hj=>by
  have hj':j<(Jw l).length:=by simpa using hj
  have hi':i<(Jw l).length:=by omega
  have:=hp i j hi' hj' hij;simpa [hi',hj']using this) (Jw l).length (by simp)
 refine mt3 (List.pairwise_map.2 h1) (mn8 l) λx=>?_;rw[mt2,Br];have hmem:∀ y,y∈Jw l↔y∈l.map λs=>s.data.toList:=λy=>List.mem_mergeSort;constructor
 ·rintro⟨y,hy,rfl⟩;obtain⟨j,hj,rfl⟩:=(h2 y).1 hy;have:(Jw l).toArray[j]!∈Jw l:=by simp[hj]
  obtain⟨s,hs,e⟩:=Br.1 ((hmem _).1 this);rw[<-e];exact hs
 ·intro hx;have:=(hmem _).2 (Br.2 ⟨x,hx,rfl⟩);obtain⟨j,hj,e⟩:=Ev.1 this;exact⟨_,(h2 _).2 ⟨j,hj,by simpa [hj]using e⟩,rfl⟩
end Sc
end
section
namespace Sc
mutual
def jt2:Pr->List ByteArray
 |.mk _ _ _ _ _ rep ak l _ (.mk _ _ sn _ _ sf sb)=>(if rep.name=ByteArray.empty then [] else [rep.name])++(sn++(sf.map (·.name)++(jd4 sb++(jf8 ak++jd4 l))))
def jd4:List Pr->List ByteArray
 |[]=>[]
 |p::l=>jt2 p++jd4 l
def kd3:Gu->List ByteArray
 |.mk _ _ _ _ _ _ _ body=>jd4 body
def jf8:List Gu->List ByteArray
 |[]=>[]
 |g::l=>kd3 g++jf8 l
end
end Sc
end
end Go.Proofs.YtklklgfpkpglgaaGreatDoor
