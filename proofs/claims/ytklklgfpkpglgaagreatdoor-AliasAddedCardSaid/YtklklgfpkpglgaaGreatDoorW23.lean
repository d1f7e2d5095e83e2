/- Parts. -/
import Derived.Test.YtklklgfpkpglgaaGreatDoorW22
import Derived.Lib.SlicesCompact
set_option linter.all false
set_option maxRecDepth 100000
set_option maxHeartbeats 0
namespace Go.Proofs.YtklklgfpkpglgaaGreatDoor
open Go.RowKit Go.Proofs.Tryz
section
namespace Sc
def dec (n:Nat):List UInt8:=if h:n<10 then [UInt8.ofNat (48+n)] else dec (n / 10)++[UInt8.ofNat (48+n % 10)]
def aC (n:Nat):ByteArray:=⟨(110::dec n).toArray⟩
def W.has (σ:W)(s:ByteArray):Prop:=s∈σ.tk.map (·.1)
open Classical in
noncomputable def skip (σ:W):Nat->Nat->Nat
 |0,_=>0
 |f+1,n=>if σ.has (aC n) then skip σ f (n+1)+1 else 0
noncomputable def Cx (σ:W):ByteArray × W:=
 let n:=σ.count.toNat+1+skip σ (σ.tk.length+1) (σ.count.toNat+1)
 (aC n,{σ with count:=n})
def Dg (env:ByteArray->List Ent)(t:Ty):List ByteArray:=
 if t.kind=4/\t.aN≠ByteArray.empty then (match (env t.aN).getLast? with
  |some x=>if x.aN then x.tags else []
  |none=>[]) else []
def Ie (σ:W)(t:Ty):Ty × W:=if t.aN=ByteArray.empty then (t,σ) else ({t with aN:=(aA σ t.aN).1},(aA σ t.aN).2)
def Dk (σ:W)(f:Fo):Fo × W:=({f with type:=(Ie σ f.type).1},(Ie σ f.type).2)
noncomputable def Cv (σ:W)(l:List ByteArray):W:={σ with ev:=σ.ev++(((List.range l.length).filter λi=>(l.take i).any (isB (l.getD i ByteArray.empty))).map λi=>(l.getD i ByteArray.empty,true))}
noncomputable def Cr (σ:W):List (Bool × List ByteArray)->List Ent × W
 |[]=>([],σ)
 |x::l=>(⟨(Cx σ).1,x.1,x.2⟩::(Cr (Cx σ).2 l).1,(Cr (Cx σ).2 l).2)
def Ck (env:ByteArray->List Ent):List ByteArray->List Ent->ByteArray->List Ent
 |s::ns,x::xs=>Ck (λt=>if t=s then env t++[x] else env t) ns xs
 |_,_=>env
def named:List Fo->List ByteArray->List Fo
 |f::l,s::ns=>{f with name:=s}::named l ns
 |_,_=>[]
def Ra (s:Sp):List ByteArray:=if s.aN.cases then s.aN.l.map (·.tag) else []
def Gq (env:ByteArray->List Ent)(s:Sp):Bool × List ByteArray:=if s.kind=4 then (true,Ra s) else (false,Dg env s.type)
structure Head where
 names:List ByteArray
 type:Ty
 ax:List Fo
 e:Ex
 own:List Ent
 inner:List Ent
noncomputable def Hf (σ:W)(s:Sp):Head × W:=
 let o:=Cr (Cv σ s.names) (s.names.map λ_=>Gq σ.env s)
 let i:=Cr (Cv o.2 (s.ax.map (·.name))) (s.ax.map λf=>(false,Dg σ.env f.type))
 let t:=Ie i.2 s.type
 let f:=y9 Dk t.2 s.ax
 let e:=j4 f.2 s.e
 (⟨o.1.map (·.aD),t.1,named f.1 (i.1.map (·.aD)),e.1,o.1,i.1⟩,e.2)
noncomputable def Dc (env:ByteArray->List Ent)(kind:Int)(av:Ex)(au:List Ex):Bool:=
 if kind=5 then (match au with
  |e::_=>decide (e.kind=4) && (match (env av.s).getLast? with
   |some x=>!x.aN && x.tags.any (isB e.s)
   |none=>false)
  |[]=>false) else false
def Fw (tag:Bool)(σ:W):List Ex->List Ex × W
 |[]=>([],σ)
 |e::l=>if tag then (e::(y9 j4 σ l).1,(y9 j4 σ l).2) else y9 j4 σ (e::l)
noncomputable def Jk (σ:W)(r:Rp):(Rp × List Ent) × W:=
 if r.name=ByteArray.empty then ((r,[]),σ)
 else
  let f:=Cx σ
  let b:=j4 f.2 r.base
  let c:=j4 b.2 r.count
  ((⟨f.1,b.1,c.1⟩,[⟨f.1,false,[]⟩]),c.2)
structure GHead where
 cond:Ex
 av:Ex
 aj:List Ex
 values:List Ex
 time:Ex
def Jg (σ:W)(cond av:Ex)(aj values:List Ex)(time:Ex):GHead × W:=
 let a:=j4 σ cond
 let b:=j4 a.2 av
 let c:=y9 j4 b.2 aj
 let d:=y9 j4 c.2 values
 let e:=j4 d.2 time
 (⟨a.1,b.1,c.1,d.1,e.1⟩,e.2)
structure PHead where
 name:ByteArray
 av:Ex
 aj:List Ex
 au:List Ex
 rep:Rp
 own:List Ent
noncomputable def Hl (σ:W)(kind:Int)(name:ByteArray)(av:Ex)(aj au:List Ex)(rep:Rp):PHead × W:=
 let a:=if kind=17 then aA σ name else (name,σ)
 let c:=j4 a.2 av
 let t:=y9 j4 c.2 aj
 let x:=Fw (Dc σ.env kind av au) t.2 au
 let r:=Jk x.2 rep
 (⟨a.1,c.1,t.1,x.1,r.1.1,r.1.2⟩,r.2)
mutual
noncomputable def Dp (σ:W):Pr->Pr × W
 |.mk kind name av aj au rep ak l ay (.mk sk st sn se spp sf sb)=>
  let h:=Hl σ kind name av aj au rep
  if kind=18 then
   let s:=Hf h.2 (.mk sk st sn se spp sf [])
   let b:=Gt {s.2 with env:=Ck σ.env (sf.map (·.name)) s.1.inner} sb
   let g:=Hg {b.2 with env:=Ck σ.env sn s.1.own} ak
   let m:=Gt g.2 l
   (.mk kind h.1.name h.1.av h.1.aj h.1.au h.1.rep g.1 m.1 ay (.mk sk s.1.type s.1.names s.1.e spp s.1.ax b.1),{m.2 with env:=σ.env})
  else
   let g:=Hg {h.2 with env:=Ck σ.env (if rep.name=ByteArray.empty then [] else [rep.name]) h.1.own} ak
   let m:=Gt g.2 l
   (.mk kind h.1.name h.1.av h.1.aj h.1.au h.1.rep g.1 m.1 ay (.mk sk st sn se spp sf sb),{m.2 with env:=σ.env})
noncomputable def Gt (σ:W):List Pr->List Pr × W
 |[]=>([],σ)
 |p::l=>((Dp σ p).1::(Gt (Dp σ p).2 l).1,(Gt (Dp σ p).2 l).2)
noncomputable def Jo (σ:W):Gu->Gu × W
 |.mk kind name cond av aj values time body=>
  let h:=Jg σ cond av aj values time
  let b:=Gt h.2 body
  (.mk kind name h.1.cond h.1.av h.1.aj h.1.values h.1.time b.1,b.2)
noncomputable def Hg (σ:W):List Gu->List Gu × W
 |[]=>([],σ)
 |g::l=>((Jo σ g).1::(Hg (Jo σ g).2 l).1,(Hg (Jo σ g).2 l).2)
end
theorem Mt:∀ (l:List Pr) (σ:W),Gt σ l=y9 Dp σ l
 |[],σ=>by simp[Gt,y9]
 |e::l,σ=>by simp only[Gt,y9,Mt l]
theorem Oy:∀ (l:List Gu) (σ:W),Hg σ l=y9 Jo σ l
 |[],σ=>by simp[Hg,y9]
 |e::l,σ=>by simp only[Hg,y9,Oy l]
end Sc
end
section
namespace Sc
def qf2 (l:List UInt8):Nat:=l.foldl (λa c=>10 * a+(c.toNat - 48)) 0
theorem qf3:∀ (m n:Nat),n<=m->qf2 (dec n)=n:=by
 intro m
 induction m with
 |zero=>
  intro n h;obtain rfl:n=0:=by omega
  rw[dec];rfl
 |succ m ih=>
  intro n h;rw[dec];split
  ·rename_i h10;have:(UInt8.ofNat (48+n)).toNat=48+n:=by rw[UInt8.toNat_ofNat'];omega
   simp only[qf2,List.foldl_cons,List.foldl_nil,this];omega
  ·rename_i h10;have:=ih (n / 10) (by omega);have h2:(UInt8.ofNat (48+n % 10)).toNat=48+n % 10:=by rw[UInt8.toNat_ofNat'];omega
   unfold qf2 at this ⊢;rw[List.foldl_append,this];simp only[List.foldl_cons,List.foldl_nil,h2];omega
theorem rl9 {m n:Nat}(h:dec m=dec n):m=n:=by
 rw[<-qf3 m m (Au _),h,qf3 n n (Au _)]
theorem Te {m n:Nat}(h:aC m=aC n):m=n:=by
 have h2:=congrArg (λb=>b.data.toList) h;simp only[aC]at h2;exact rl9 (List.cons.inj h2).2
theorem mc9 {α:Type}[DecidableEq α]:∀ (l m:List α),l.Nodup->(∀ x∈l,x∈m)->l.length<=m.length
 |[],_,_,_=>Ai _
 |x::l,m,hn,hs=>by
  rw[List.nodup_cons]at hn;have h:=mc9 l (m.erase x) hn.2 λy hy=>by
   have hne:y≠x:=λe=>hn.1 (e ▸ hy);exact(List.mem_erase_of_ne hne).2 (hs y (Bh _ hy))
  have hx:=hs x Be;have h2:=List.length_erase_of_mem hx;have h3:=List.length_pos_of_mem hx;simp only[An];omega
theorem Qw (σ:W):∀ f n i,i<skip σ f n->σ.has (aC (n+i))
 |0,n,i,h=>by simp[skip]at h
 |f+1,n,i,h=>by
  simp only[skip]at h;split at h
  ·rename_i hh;cases i with
   |zero=>exact hh
   |succ i=>
    have:=Qw σ f (n+1) i (by omega)
    rwa [show n+1+i=n+(i+1) by omega]at this
  ·omega
theorem mp7 (σ:W):∀ f n,skip σ f n<f->¬σ.has (aC (n+skip σ f n))
 |0,n,h=>by simp[skip]at h
 |f+1,n,h=>by
  simp only[skip]at h ⊢;split
  ·rename_i hh;rw[Ae hh]at h;have:=mp7 σ f (n+1) (by omega)
   rwa [show n+1+skip σ f (n+1)=n+(skip σ f (n+1)+1) by omega]at this
  ·rename_i hh;exact hh
theorem mk3 (n:Nat):∀ k,((List.range k).map λi=>aC (n+i)).Nodup:=λk=>by
 have:=List.nodup_range (n:=k);rw[List.nodup_iff_pairwise_ne]at this ⊢;refine List.pairwise_map.2 (this.imp λh e=>h ?_);have:=Te e;omega
theorem Vj (σ:W)(n:Nat):skip σ (σ.tk.length+1) n<=σ.tk.length:=by
 have h:=mc9 ((List.range (skip σ (σ.tk.length+1) n)).map λi=>aC (n+i)) (σ.tk.map (·.1)) (mk3 _ _) λx hx=>by
  obtain⟨i,hi,rfl⟩:=Bx.1 hx;exact Qw σ _ n i (Fg.1 hi)
 simpa using h
theorem Rb (σ:W)(n:Nat):¬σ.has (aC (n+skip σ (σ.tk.length+1) n)):=mp7 σ _ n (by have:=Vj σ n;omega)
end Sc
end
section
namespace Sc
def Ent.pt (x:Ent):Bool × List ByteArray:=(x.aN,x.tags)
def Nk (E:Prop)(l m:List Ent):Prop:=l.map Ent.pt=m.map Ent.pt/\(E->l=m)
def Rq (E:Prop)(f g:ByteArray->List Ent):Prop:=∀ s,Nk E (f s) (g s)
structure Eqv (E:Prop)(σ τ:W):Prop where
 env:Rq E σ.env τ.env
 count:E->σ.count=τ.count
 ev:σ.ev=τ.ev
 has:E->∀ s,σ.has s↔τ.has s
def kp9 (E:Prop){α:Type}(a b:α × W):Prop:=(E->a.1=b.1)/\Eqv E a.2 b.2
theorem Nk.refl (E:Prop)(l:List Ent):Nk E l l:=⟨rfl,λ_=>rfl⟩
theorem Eqv.setEnv {E:Prop}{σ τ:W}(h:Eqv E σ τ){e e':ByteArray->List Ent}(he:Rq E e e'):Eqv E {σ with env:=e} {τ with env:=e'}:=⟨he,h.count,h.ev,h.has⟩
theorem Eqv.setEv {E:Prop}{σ τ:W}(h:Eqv E σ τ){e e':List (ByteArray × Bool)}(he:e=e'):Eqv E {σ with ev:=e} {τ with ev:=e'}:=⟨h.env,h.count,he,h.has⟩
theorem Rq.last {E:Prop}{f g:ByteArray->List Ent}(h:Rq E f g)(s:ByteArray):(f s).getLast?.map Ent.pt=(g s).getLast?.map Ent.pt:=by rw[<-List.getLast?_map,<-List.getLast?_map,(h s).1]
theorem Nk.append {E:Prop}{l m l' m':List Ent}(h:Nk E l m)(h':Nk E l' m'):Nk E (l++l') (m++m'):=⟨by rw[Ar,Ar,h.1,h'.1],λe=>by rw[h.2 e,h'.2 e]⟩
theorem Rq.push {E:Prop}:∀ (ns:List ByteArray) {xs ys:List Ent} {f g:ByteArray->List Ent},Rq E f g->Nk E xs ys->Rq E (Ck f ns xs) (Ck g ns ys)
 |[],[],[],_,_,h,_=>h
 |[],[],_::_,_,_,h,_=>h
 |[],_::_,[],_,_,h,_=>h
 |[],_::_,_::_,_,_,h,_=>h
 |_::_,[],[],_,_,h,_=>h
 |_::_,[],_::_,_,_,_,h'=>by have:=h'.1;simp at this
 |_::_,_::_,[],_,_,_,h'=>by have:=h'.1;simp at this
 |s::ns,x::xs,y::ys,f,g,h,h'=>by
  have h1:=h'.1;simp only[Ap,List.cons.injEq]at h1;simp only[Ck];refine Rq.push ns (λt=>?_) ⟨h1.2,λe=>(List.cons.inj (h'.2 e)).2⟩;split
  ·exact(h t).append ⟨by simp only[Ap,Ba,h1.1],λe=>by rw[(List.cons.inj (h'.2 e)).1]⟩
  ·exact h t
theorem Rq.carried {E:Prop}{f g:ByteArray->List Ent}(h:Rq E f g)(t:Ty):Dg f t=Dg g t:=by
 unfold Dg;have:=h.last t.aN;split
 ·cases h1:(f t.aN).getLast? with
  |none=>
   cases h2:(g t.aN).getLast? with
   |none=>rfl
   |some y=>rw[h1,h2]at this;cases this
  |some x=>
   cases h2:(g t.aN).getLast? with
   |none=>rw[h1,h2]at this;cases this
   |some y=>
    rw[h1,h2]at this;simp only[Fa,Bl,Ent.pt,Bj]at this;simp only[this.1,this.2]
 ·rfl
theorem Rq.own {E:Prop}{f g:ByteArray->List Ent}(h:Rq E f g)(s:Sp):Gq f s=Gq g s:=by
 unfold Gq;rw[h.carried]
theorem Rq.tagged {E:Prop}{f g:ByteArray->List Ent}(h:Rq E f g)(kind:Int)(av:Ex)(au:List Ex):Dc f kind av au=Dc g kind av au:=by
 unfold Dc;have:=h.last av.s;split
 ·cases au with
  |nil=>rfl
  |cons e l=>
   dsimp only;cases h1:(f av.s).getLast? with
   |none=>
    cases h2:(g av.s).getLast? with
    |none=>rfl
    |some y=>rw[h1,h2]at this;cases this
   |some x=>
    cases h2:(g av.s).getLast? with
    |none=>rw[h1,h2]at this;cases this
    |some y=>
     rw[h1,h2]at this;simp only[Fa,Bl,Ent.pt,Bj]at this;simp only[this.1,this.2]
 ·rfl
theorem Eqv.name {E:Prop}{σ τ:W}(h:Eqv E σ τ)(s:ByteArray):kp9 E (aA σ s) (aA τ s):=by
 unfold aA;have:=h.env.last s;have he:=(h.env s).2;cases h1:(σ.env s).getLast? with
 |none=>
  cases h2:(τ.env s).getLast? with
  |none=>exact⟨λ_=>rfl,h.setEv (by rw[h.ev])⟩
  |some y=>rw[h1,h2]at this;cases this
 |some x=>
  cases h2:(τ.env s).getLast? with
  |none=>rw[h1,h2]at this;cases this
  |some y=>
   refine⟨λe=>?_,h⟩;rw[he e,h2]at h1;cases h1;rfl
theorem mk4 {E:Prop}{α:Type}{f:W->α->α × W}:∀ (l:List α) (σ τ:W),(∀ x∈l,∀ σ τ,Eqv E σ τ->kp9 E (f σ x) (f τ x))->Eqv E σ τ->kp9 E (y9 f σ l) (y9 f τ l)
 |[],_,_,_,h=>⟨λ_=>rfl,h⟩
 |x::l,σ,τ,hf,h=>by
  have h1:=hf x Be σ τ h;have h2:=mk4 l _ _ (λy hy=>hf y (Bh _ hy)) h1.2;simp only[y9];exact⟨λe=>by rw[h1.1 e,h2.1 e],h2.2⟩
mutual
theorem ji7 {E:Prop}:∀ (e:Ex) (σ τ:W),Eqv E σ τ->kp9 E (j4 σ e) (j4 τ e)
 |.mk kind op ty n s l,σ,τ,h=>by
  have hr:kp9 E (if Dm kind then aA σ s else (s,σ)) (if Dm kind then aA τ s else (s,τ)):=by
   split
   ·exact h.name s
   ·exact⟨λ_=>rfl,h⟩
  simp only[j4];have hq:=md0 l _ _ hr.2;exact⟨λe=>by rw[hr.1 e,hq.1 e],hq.2⟩
theorem md0 {E:Prop}:∀ (l:List Ex) (σ τ:W),Eqv E σ τ->kp9 E (z1 σ l) (z1 τ l)
 |[],_,_,h=>by simp only[z1];exact⟨λ_=>rfl,h⟩
 |e::l,σ,τ,h=>by
  have h1:=ji7 e σ τ h;have h2:=md0 l _ _ h1.2;simp only[z1];exact⟨λe=>by rw[h1.1 e,h2.1 e],h2.2⟩
end
theorem jm8 {E:Prop}(l:List Ex){σ τ:W}(h:Eqv E σ τ):kp9 E (y9 j4 σ l) (y9 j4 τ l):=mk4 l σ τ (λx _=>ji7 x) h
theorem mp8 {σ τ:W}(h:∀ s,σ.has s↔τ.has s)(n:Nat):skip σ (σ.tk.length+1) n=skip τ (τ.tk.length+1) n:=by
 rcases Nat.lt_trichotomy (skip σ (σ.tk.length+1) n) (skip τ (τ.tk.length+1) n) with h1|h1|h1
 ·exact absurd ((h _).2 (Qw τ _ n _ h1)) (Rb σ n)
 ·exact h1
 ·exact absurd ((h _).1 (Qw σ _ n _ h1)) (Rb τ n)
theorem Eqv.aD {E:Prop}{σ τ:W}(h:Eqv E σ τ):kp9 E (Cx σ) (Cx τ):=by
 unfold Cx;dsimp only;exact⟨λe=>by rw[h.count e,mp8 (h.has e)],h.env,λe=>by dsimp only;rw[h.count e,mp8 (h.has e)],h.ev,h.has⟩
theorem Eqv.typed {E:Prop}{σ τ:W}(h:Eqv E σ τ)(t:Ty):kp9 E (Ie σ t) (Ie τ t):=by
 unfold Ie;split
 ·exact⟨λ_=>rfl,h⟩
 ·have:=h.name t.aN;exact⟨λe=>by rw[this.1 e],this.2⟩
theorem Eqv.formal {E:Prop}{σ τ:W}(h:Eqv E σ τ)(f:Fo):kp9 E (Dk σ f) (Dk τ f):=by
 have:=h.typed f.type;exact⟨λe=>by simp only[Dk,this.1 e],this.2⟩
theorem Eqv.twice {E:Prop}{σ τ:W}(h:Eqv E σ τ)(l:List ByteArray):Eqv E (Cv σ l) (Cv τ l):=h.setEv (by rw[h.ev])
theorem ku7 {E:Prop}:∀ (l:List (Bool × List ByteArray)) (σ τ:W),Eqv E σ τ->Nk E (Cr σ l).1 (Cr τ l).1/\Eqv E (Cr σ l).2 (Cr τ l).2
 |[],_,_,h=>⟨Nk.refl _ _,h⟩
 |x::l,σ,τ,h=>by
  have h1:=h.aD;have h2:=ku7 l _ _ h1.2;simp only[Cr];exact⟨⟨by simp only[Ap,Ent.pt,h2.1.1],λe=>by rw[h1.1 e,h2.1.2 e]⟩,h2.2⟩
theorem Eqv.head {E:Prop}{σ τ:W}(h:Eqv E σ τ)(s:Sp):kp9 E (Hf σ s) (Hf τ s)/\Nk E (Hf σ s).1.own (Hf τ s).1.own/\Nk E (Hf σ s).1.inner (Hf τ s).1.inner:=by
 have ho:=ku7 (s.names.map λ_=>Gq τ.env s) _ _ (h.twice s.names);have hcr:(s.ax.map λf=>(false,Dg σ.env f.type))=s.ax.map λf=>(false,Dg τ.env f.type):=List.map_congr_left λf _=>by rw[h.env.carried]
 unfold Hf;rw[h.env.own,hcr];dsimp only;generalize Cr (Cv σ s.names) (s.names.map λ_=>Gq τ.env s)=o at ho ⊢;generalize Cr (Cv τ s.names) (s.names.map λ_=>Gq τ.env s)=o' at ho ⊢;have hi:=ku7 (s.ax.map λf=>(false,Dg τ.env f.type)) _ _ (ho.2.twice (s.ax.map (·.name)));generalize Cr (Cv o.2 (s.ax.map (·.name))) (s.ax.map λf=>(false,Dg τ.env f.type))=i at hi ⊢;generalize Cr (Cv o'.2 (s.ax.map (·.name))) (s.ax.map λf=>(false,Dg τ.env f.type))=i' at hi ⊢;have ht:=hi.2.typed s.type;generalize Ie i.2 s.type=t at ht ⊢;generalize Ie i'.2 s.type=t' at ht ⊢;have hf:=mk4 s.ax _ _ (λf _ σ τ h=>h.formal f) ht.2;generalize y9 Dk t.2 s.ax=f at hf ⊢;generalize y9 Dk t'.2 s.ax=f' at hf ⊢;have he:=ji7 s.e _ _ hf.2;exact⟨⟨λe=>by rw[ho.1.2 e,hi.1.2 e,ht.1 e,hf.1 e,he.1 e],he.2⟩,ho.1,hi.1⟩
theorem ka9 (σ:W)(l:List Ex):Fw false σ l=y9 j4 σ l:=by cases l<;>rfl
theorem Eqv.out {E:Prop}{σ τ:W}(h:Eqv E σ τ)(tag:Bool)(l:List Ex):kp9 E (Fw tag σ l) (Fw tag τ l):=by
 cases tag with
 |false=>rw[ka9,ka9];exact jm8 l h
 |true=>
  cases l with
  |nil=>exact⟨λ_=>rfl,h⟩
  |cons x l=>
   have:=jm8 l h;simp only[Fw,if_true];exact⟨λe=>by rw[this.1 e],this.2⟩
theorem Eqv.rep {E:Prop}{σ τ:W}(h:Eqv E σ τ)(r:Rp):kp9 E (Jk σ r) (Jk τ r)/\Nk E (Jk σ r).1.2 (Jk τ r).1.2:=by
 unfold Jk;split
 ·exact⟨⟨λ_=>rfl,h⟩,Nk.refl _ _⟩
 ·have hf:=h.aD;have hb:=ji7 r.base _ _ hf.2;have hc:=ji7 r.count _ _ hb.2;dsimp only;exact⟨⟨λe=>by rw[hf.1 e,hb.1 e,hc.1 e],hc.2⟩,rfl,λe=>by rw[hf.1 e]⟩
theorem Eqv.ghead {E:Prop}{σ τ:W}(h:Eqv E σ τ)(cond av:Ex)(aj values:List Ex)(time:Ex):kp9 E (Jg σ cond av aj values time) (Jg τ cond av aj values time):=by
 have ha:=ji7 cond _ _ h;have hb:=ji7 av _ _ ha.2;have hc:=jm8 aj hb.2;have hd:=jm8 values hc.2;have he:=ji7 time _ _ hd.2;unfold Jg;dsimp only;exact⟨λe=>by rw[ha.1 e,hb.1 e,hc.1 e,hd.1 e,he.1 e],he.2⟩
theorem Eqv.phead {E:Prop}{σ τ:W}(h:Eqv E σ τ)(kind:Int)(name:ByteArray)(av:Ex)(aj au:List Ex)(rep:Rp):kp9 E (Hl σ kind name av aj au rep) (Hl τ kind name av aj au rep)/\Nk E (Hl σ kind name av aj au rep).1.own (Hl τ kind name av aj au rep).1.own:=by
 have ha:kp9 E (if kind=17 then aA σ name else (name,σ)) (if kind=17 then aA τ name else (name,τ)):=by
  split
  ·exact h.name name
  ·exact⟨λ_=>rfl,h⟩
 have hc:=ji7 av _ _ ha.2;have ht:=jm8 aj hc.2;have hx:=ht.2.out (Dc τ.env kind av au) au;have hr:=hx.2.rep rep;unfold Hl;rw[h.env.tagged];dsimp only;exact⟨⟨λe=>by rw[ha.1 e,hc.1 e,ht.1 e,hx.1 e,hr.1.1 e],hr.1.2⟩,hr.2⟩
mutual
theorem rf7 {E:Prop}:∀ (p:Pr) (σ τ:W),Eqv E σ τ->kp9 E (Dp σ p) (Dp τ p)
 |.mk kind name av aj au rep ak l ay (.mk sk st sn se spp sf sb),σ,τ,h=>by
  have hh:=h.phead kind name av aj au rep;simp only[Dp];generalize Hl σ kind name av aj au rep=a at hh ⊢;generalize Hl τ kind name av aj au rep=a' at hh ⊢;split
  ·have hs:=hh.1.2.head (.mk sk st sn se spp sf []);generalize Hf a.2 (.mk sk st sn se spp sf [])=s at hs ⊢;generalize Hf a'.2 (.mk sk st sn se spp sf [])=s' at hs ⊢;have hb:=ki5 sb _ _ (hs.1.2.setEnv (h.env.push (sf.map (·.name)) hs.2.2));generalize Gt {s.2 with env:=Ck σ.env (sf.map (·.name)) s.1.inner} sb=b at hb ⊢;generalize Gt {s'.2 with env:=Ck τ.env (sf.map (·.name)) s'.1.inner} sb=b' at hb ⊢;have hg:=mk5 ak _ _ (hb.2.setEnv (h.env.push sn hs.2.1));generalize Hg {b.2 with env:=Ck σ.env sn s.1.own} ak=g at hg ⊢;generalize Hg {b'.2 with env:=Ck τ.env sn s'.1.own} ak=g' at hg ⊢;have hm:=ki5 l _ _ hg.2;exact⟨λe=>by rw[hh.1.1 e,hs.1.1 e,hb.1 e,hg.1 e,hm.1 e],hm.2.setEnv h.env⟩
  ·have hg:=mk5 ak _ _ (hh.1.2.setEnv (h.env.push (if rep.name=ByteArray.empty then [] else [rep.name]) hh.2));generalize Hg {a.2 with env:=Ck σ.env (if rep.name=ByteArray.empty then [] else [rep.name]) a.1.own} ak=g at hg ⊢;generalize Hg {a'.2 with env:=Ck τ.env (if rep.name=ByteArray.empty then [] else [rep.name]) a'.1.own} ak=g' at hg ⊢;have hm:=ki5 l _ _ hg.2;exact⟨λe=>by rw[hh.1.1 e,hg.1 e,hm.1 e],hm.2.setEnv h.env⟩
theorem ki5 {E:Prop}:∀ (l:List Pr) (σ τ:W),Eqv E σ τ->kp9 E (Gt σ l) (Gt τ l)
 |[],_,_,h=>by simp only[Gt];exact⟨λ_=>rfl,h⟩
 |e::l,σ,τ,h=>by
  have h1:=rf7 e σ τ h;have h2:=ki5 l _ _ h1.2;simp only[Gt];exact⟨λe=>by rw[h1.1 e,h2.1 e],h2.2⟩
theorem rx6 {E:Prop}:∀ (p:Gu) (σ τ:W),Eqv E σ τ->kp9 E (Jo σ p) (Jo τ p)
 |.mk kind name cond av aj values time body,σ,τ,h=>by
  have hh:=h.ghead cond av aj values time;have hb:=ki5 body _ _ hh.2;simp only[Jo];exact⟨λe=>by rw[hh.1 e,hb.1 e],hb.2⟩
theorem mk5 {E:Prop}:∀ (l:List Gu) (σ τ:W),Eqv E σ τ->kp9 E (Hg σ l) (Hg τ l)
 |[],_,_,h=>by simp only[Hg];exact⟨λ_=>rfl,h⟩
 |e::l,σ,τ,h=>by
  have h1:=rx6 e σ τ h;have h2:=mk5 l _ _ h1.2;simp only[Hg];exact⟨λe=>by rw[h1.1 e,h2.1 e],h2.2⟩
end
end Sc
end
section
namespace Sc
structure Grow (σ τ:W)(n:Nat):Prop where
 env:τ.env=σ.env
 tk:τ.tk=σ.tk
 ev:τ.ev.length<=σ.ev.length+n
 pre:σ.ev<+:τ.ev
 lo:0<=σ.count->σ.count<=τ.count
 hi:0<=σ.count->τ.count<=σ.count+n * (σ.tk.length+1)
theorem Grow.refl (σ:W)(n:Nat):Grow σ σ n:=⟨rfl,rfl,by omega,List.prefix_rfl,λ_=>Ez _,λ_=>by
 have:(0:Int)<=n * (σ.tk.length+1):=Int.mul_nonneg (by omega) (by omega);omega⟩
theorem Grow.trans {σ τ υ:W}{n m:Nat}(h:Grow σ τ n)(h2:Grow τ υ m):Grow σ υ (n+m):=by
 refine⟨h2.env.trans h.env,h2.tk.trans h.tk,?_,h.pre.trans h2.pre,λh0=>?_,λh0=>?_⟩
 ·have:=h.ev;have:=h2.ev;omega
 ·have:=h.lo h0;have:=h2.lo (by omega);omega
 ·have h3:=h.lo h0;have h4:=h.hi h0;have h5:=h2.hi (by omega);rw[h.tk]at h5;have:((n+m:Nat):Int) * (σ.tk.length+1)=n * (σ.tk.length+1)+m * (σ.tk.length+1):=by rw[Int.natCast_add,Int.add_mul]
  omega
theorem Grow.mono {σ τ:W}{n m:Nat}(h:Grow σ τ n)(hm:n<=m):Grow σ τ m:=by
 have:=h.trans (Grow.refl τ (m - n))
 rwa [show n+(m - n)=m by omega]at this
theorem Hu (σ:W)(s:ByteArray):Grow σ (aA σ s).2 1:=by
 unfold aA;split
 ·exact Grow.refl _ _
 ·refine⟨rfl,rfl,by simp[step],List.prefix_append _ _,λ_=>Ez _,λ_=>?_⟩;dsimp only[step];omega
theorem Qn {α:Type}{f:W->α->α × W}(N:α->Nat)(hf:∀ x σ,Grow σ (f σ x).2 (N x)):∀ (l:List α) (σ:W),Grow σ (y9 f σ l).2 (l.map N).sum
 |[],σ=>Grow.refl _ _
 |x::l,σ=>by
  simp only[y9,Ap,List.sum_cons];exact(hf x σ).trans (Qn N hf l _)
mutual
theorem Cz:∀ (e:Ex) (σ:W),Grow σ (j4 σ e).2 (exN e)
 |.mk kind op ty n s l,σ=>by
  have hr:Grow σ (if Dm kind then aA σ s else (s,σ)).2 1:=by
   split
   ·exact Hu σ s
   ·exact Grow.refl _ _
  simp only[j4,exN];rw[Nat.add_comm];exact hr.trans (Pk l _)
theorem Pk:∀ (l:List Ex) (σ:W),Grow σ (z1 σ l).2 (Gb l)
 |[],σ=>by simp only[z1];exact Grow.refl _ _
 |e::l,σ=>by
  simp only[z1,Gb];exact(Cz e σ).trans (Pk l _)
end
theorem Fs (l:List Ex)(σ:W):Grow σ (y9 j4 σ l).2 (Gb l):=by rw[<-jj2];exact Pk l σ
theorem Kg (σ:W):Grow σ (Cx σ).2 1:=by
 have:=Vj σ (σ.count.toNat+1);refine⟨rfl,rfl,Nat.le_succ _,List.prefix_rfl,λh=>?_,λh=>?_⟩
 ·unfold Cx;dsimp only;omega
 ·unfold Cx;dsimp only;omega
theorem Nv (σ:W)(t:Ty):Grow σ (Ie σ t).2 1:=by
 unfold Ie;split
 ·exact Grow.refl _ _
 ·exact Hu σ _
theorem Mw (σ:W)(f:Fo):Grow σ (Dk σ f).2 1:=Nv σ _
theorem Lp (σ:W)(l:List ByteArray):Grow σ (Cv σ l) l.length:=by
 refine⟨rfl,rfl,?_,List.prefix_append _ _,λ_=>Ez _,(Grow.refl σ l.length).hi⟩;simp only[Cv,Ag,Aa];have:=List.length_filter_le (λi=>(l.take i).any (isB (l.getD i ByteArray.empty))) (List.range l.length);rw[List.length_range]at this;omega
theorem Ki:∀ (l:List (Bool × List ByteArray)) (σ:W),Grow σ (Cr σ l).2 l.length
 |[],σ=>Grow.refl _ _
 |x::l,σ=>by
  simp only[Cr,An];rw[Nat.add_comm];exact(Kg σ).trans (Ki l _)
theorem Ns:∀ (l:List (Bool × List ByteArray)) (σ:W),(Cr σ l).1.length=l.length
 |[],σ=>rfl
 |x::l,σ=>by simp only[Cr,An,Ns l]
def Qd (s:Sp):Nat:=2 * s.names.length+3 * s.ax.length+exN s.e+1
theorem Ox (σ:W)(s:Sp):Grow σ (Hf σ s).2 (Qd s):=by
 unfold Hf;dsimp only;have h1:=Lp σ s.names;have h2:=Ki (s.names.map λ_=>Gq σ.env s) (Cv σ s.names);generalize Cr (Cv σ s.names) (s.names.map λ_=>Gq σ.env s)=o at h2 ⊢;have h3:=Lp o.2 (s.ax.map (·.name));have h4:=Ki (s.ax.map λf=>(false,Dg σ.env f.type)) (Cv o.2 (s.ax.map (·.name)));generalize Cr (Cv o.2 (s.ax.map (·.name))) (s.ax.map λf=>(false,Dg σ.env f.type))=i at h4 ⊢;have h5:=Nv i.2 s.type;generalize Ie i.2 s.type=t at h5 ⊢;have h6:=Qn (λ_=>1) (λf σ=>Mw σ f) s.ax t.2;generalize y9 Dk t.2 s.ax=f at h6 ⊢;have h7:=Cz s.e f.2;have h8:(s.ax.map λ_=>1).sum=s.ax.length:=by
  generalize s.ax=l
  induction l with
  |nil=>rfl
  |cons x l ih=>simp only[Ap,List.sum_cons,ih,An];omega
 simp only[Aa]at h2 h3 h4;refine((((((h1.trans h2).trans h3).trans h4).trans h5).trans h6).trans h7).mono ?_;unfold Qd;omega
theorem Ia (tag:Bool)(σ:W)(l:List Ex):Grow σ (Fw tag σ l).2 (Gb l):=by
 cases tag with
 |false=>rw[ka9];exact Fs l σ
 |true=>
  cases l with
  |nil=>exact Grow.refl _ _
  |cons e l=>
   simp only[Fw,if_true];exact(Fs l σ).mono (by simp only[Gb];omega)
def Na (r:Rp):Nat:=1+exN r.base+exN r.count
theorem qw4 (σ:W)(r:Rp):Grow σ (Jk σ r).2 (Na r):=by
 unfold Jk Na;split
 ·exact Grow.refl _ _
 ·exact((Kg σ).trans (Cz r.base _)).trans (Cz r.count _)
def Qm (cond av:Ex)(aj values:List Ex)(time:Ex):Nat:=exN cond+exN av+Gb aj+Gb values+exN time
theorem Pm (σ:W)(cond av:Ex)(aj values:List Ex)(time:Ex):Grow σ (Jg σ cond av aj values time).2 (Qm cond av aj values time):=
 ((((Cz cond σ).trans (Cz av _)).trans (Fs aj _)).trans (Fs values _)).trans (Cz time _)
def Gz (av:Ex)(aj au:List Ex)(rep:Rp):Nat:=1+exN av+Gb aj+Gb au+Na rep
theorem Pn (σ:W)(kind:Int)(name:ByteArray)(av:Ex)(aj au:List Ex)(rep:Rp):Grow σ (Hl σ kind name av aj au rep).2 (Gz av aj au rep):=by
 have ha:Grow σ (if kind=17 then aA σ name else (name,σ)).2 1:=by
  split
  ·exact Hu σ name
  ·exact Grow.refl _ _
 exact(((ha.trans (Cz av _)).trans (Fs aj _)).trans (Ia _ _ au)).trans (qw4 _ rep)
mutual
def prN:Pr->Nat
 |.mk _ _ av aj au rep ak l _ (.mk _ _ sn se _ sf sb)=>Gz av aj au rep+(2 * sn.length+3 * sf.length+exN se+1)+Kw sb+Ms ak+Kw l
def Kw:List Pr->Nat
 |[]=>0
 |p::l=>prN p+Kw l
def guN:Gu->Nat
 |.mk _ _ cond av aj values time body=>Qm cond av aj values time+Kw body
def Ms:List Gu->Nat
 |[]=>0
 |p::l=>guN p+Ms l
end
theorem Grow.setEnv {σ τ:W}{n:Nat}(e e':ByteArray->List Ent)(h:Grow {σ with env:=e} τ n):Grow σ {τ with env:=σ.env} n:=⟨rfl,h.tk,h.ev,h.pre,h.lo,h.hi⟩
mutual
theorem Me:∀ (p:Pr) (σ:W),Grow σ (Dp σ p).2 (prN p)
 |.mk kind name av aj au rep ak l ay (.mk sk st sn se spp sf sb),σ=>by
  have hh:=Pn σ kind name av aj au rep;simp only[Dp,prN];generalize Hl σ kind name av aj au rep=a at hh ⊢;split
  ·have hs:=Ox a.2 (.mk sk st sn se spp sf []);generalize Hf a.2 (.mk sk st sn se spp sf [])=s at hs ⊢;have hb:=Ib sb {s.2 with env:=Ck σ.env (sf.map (·.name)) s.1.inner};generalize Gt {s.2 with env:=Ck σ.env (sf.map (·.name)) s.1.inner} sb=b at hb ⊢;have hg:=Jr ak {b.2 with env:=Ck σ.env sn s.1.own};generalize Hg {b.2 with env:=Ck σ.env sn s.1.own} ak=g at hg ⊢;have hm:=Ib l g.2;generalize Gt g.2 l=m at hm ⊢;have h1:=hb.setEnv _ (λ_=>[]);have h2:=hg.setEnv _ (λ_=>[]);have h3:Grow b.2 {m.2 with env:=b.2.env} (Kw l+Ms ak):=⟨rfl,hm.tk.trans hg.tk,by have:=hm.ev;have:=hg.ev;dsimp only at *;omega,hg.pre.trans hm.pre,λh0=>by have:=hm.lo (by have:=hg.lo h0;dsimp only at *;omega);have:=hg.lo h0;dsimp only at *;omega,λh0=>by
    have:=(h2.trans (m:=Kw l) (υ:={m.2 with env:=b.2.env}) ⟨rfl,hm.tk,hm.ev,hm.pre,hm.lo,hm.hi⟩).hi h0;rw[Nat.add_comm];exact this⟩
   have h4:=((hh.trans hs).trans h1).trans (υ:={m.2 with env:=s.2.env}) (m:=Kw l+Ms ak) ⟨rfl,h3.tk,h3.ev,h3.pre,h3.lo,h3.hi⟩;exact(show Grow σ {m.2 with env:=σ.env} _ from ⟨rfl,h4.tk,h4.ev,h4.pre,h4.lo,h4.hi⟩:Grow σ {m.2 with env:=σ.env} _).mono (by unfold Qd;dsimp only[Sp.names,Sp.ax,Sp.e];omega)
  ·have hg:=Jr ak {a.2 with env:=Ck σ.env (if rep.name=ByteArray.empty then [] else [rep.name]) a.1.own};generalize Hg {a.2 with env:=Ck σ.env (if rep.name=ByteArray.empty then [] else [rep.name]) a.1.own} ak=g at hg ⊢;have hm:=Ib l g.2;generalize Gt g.2 l=m at hm ⊢;have h2:=hg.setEnv _ (λ_=>[]);have h3:=(hh.trans h2).trans (υ:={m.2 with env:=a.2.env}) (m:=Kw l) ⟨rfl,hm.tk,hm.ev,hm.pre,hm.lo,hm.hi⟩;exact(show Grow σ {m.2 with env:=σ.env} _ from ⟨rfl,h3.tk,h3.ev,h3.pre,h3.lo,h3.hi⟩:Grow σ {m.2 with env:=σ.env} _).mono (by omega)
theorem Ib:∀ (l:List Pr) (σ:W),Grow σ (Gt σ l).2 (Kw l)
 |[],σ=>by simp only[Gt];exact Grow.refl _ _
 |e::l,σ=>by
  simp only[Gt,Kw];exact(Me e σ).trans (Ib l _)
theorem qf4:∀ (p:Gu) (σ:W),Grow σ (Jo σ p).2 (guN p)
 |.mk kind name cond av aj values time body,σ=>by
  simp only[Jo,guN];exact(Pm σ cond av aj values time).trans (Ib body _)
theorem Jr:∀ (l:List Gu) (σ:W),Grow σ (Hg σ l).2 (Ms l)
 |[],σ=>by simp only[Hg];exact Grow.refl _ _
 |e::l,σ=>by
  simp only[Hg,Ms];exact(qf4 e σ).trans (Jr l _)
end
end Sc
end
section
namespace Sc
theorem mp9:∀ l:List UInt8,Op.bytesLess l l=false
 |[]=>rfl
 |a::l=>by
  have h:¬a<a:=by simp
  simp[Op.bytesLess,h,mp9 l]
theorem ke9:∀ {a b c:List UInt8},Op.bytesLess a b=true->Op.bytesLess b c=true->Op.bytesLess a c=true
 |_,[],_,h,_=>by simp[Op.bytesLess]at h
 |_,_::_,[],_,h=>by simp[Op.bytesLess]at h
 |[],_::_,_::_,_,_=>rfl
 |x::a,y::b,z::c,h1,h2=>by
  simp only[Op.bytesLess,Bq,Ab,Aj,Ee]at h1 h2 ⊢;rcases h1 with h1|⟨rfl,h1⟩
  ·rcases h2 with h2|⟨rfl,h2⟩
   ·exact .inl (UInt8.lt_trans h1 h2)
   ·exact .inl h1
  ·rcases h2 with h2|⟨rfl,h2⟩
   ·exact .inl h2
   ·exact .inr ⟨rfl,ke9 h1 h2⟩
theorem kq0:∀ a b:List UInt8,Op.bytesLess a b=true\/a=b\/Op.bytesLess b a=true
 |[],[]=>.inr (.inl rfl)
 |[],_::_=>.inl rfl
 |_::_,[]=>.inr (.inr rfl)
 |x::a,y::b=>by
  simp only[Op.bytesLess,Bq,Ab,Aj,Ee];by_cases h:x<y
  ·exact .inl (.inl h)
  ·by_cases h2:y<x
   ·exact .inr (.inr (.inl h2))
   ·have e:x=y:=UInt8.toNat_inj.1 (by rw[UInt8.lt_iff_toNat_lt]at h h2;omega);subst e;rcases kq0 a b with h3|h3|h3
    ·exact .inl (.inr ⟨rfl,h3⟩)
    ·exact .inr (.inl (by rw[h3]))
    ·exact .inr (.inr (.inr ⟨rfl,h3⟩))
theorem qf5 {a b:List UInt8}(h:Op.bytesLess a b=true):Op.bytesLess b a=false:=by
 cases h2:Op.bytesLess b a with
 |false=>rfl
 |true=>have:=ke9 h h2;rw[mp9]at this;cases this
theorem rx7:∀ a b:List UInt8,a<b↔Op.bytesLess a b=true
 |[],[]=>by simp[Op.bytesLess]
 |[],_::_=>by simp[Op.bytesLess]
 |_::_,[]=>by simp[Op.bytesLess]
 |x::a,y::b=>by
  simp only[Op.bytesLess,Bq,Ab,Aj,Ee];rw[List.cons_lt_cons_iff,rx7 a b]
theorem qw5 (a b:List UInt8):a<=b↔Op.bytesLess b a=false:=by
 rw[<-List.not_lt,rx7];simp
def bL (s t:ByteArray):Bool:=Op.bytesLess s.data.toList t.data.toList
theorem Ul (s:ByteArray):bL s s=false:=mp9 _
theorem mq0 {a b c:ByteArray}(h:bL a b=true)(h2:bL b c=true):bL a c=true:=ke9 h h2
theorem rm0 {s t:ByteArray}(h:s.data.toList=t.data.toList):s=t:=by
 cases s with|mk a=>cases t with|mk b=>cases a with|mk a=>cases b with|mk b=>exact congrArg (λl=>ByteArray.mk (Array.mk l)) h
theorem rx8 (a b:ByteArray):bL a b=true\/a=b\/bL b a=true:=by
 rcases kq0 a.data.toList b.data.toList with h|h|h
 ·exact .inl h
 ·exact .inr (.inl (rm0 h))
 ·exact .inr (.inr h)
def ku8 (l:List ByteArray):Prop:=l.Pairwise λa b=>bL a b=true
def md1:List ByteArray->ByteArray->List ByteArray
 |[],s=>[s]
 |x::l,s=>if bL x s then x::md1 l s else if x=s then x::l else s::x::l
theorem mq1 {l:List ByteArray}{s x:ByteArray}:x∈md1 l s↔x∈l\/x=s:=by
 induction l with
 |nil=>simp[md1]
 |cons y l ih=>
  simp only[md1];split
  ·simp only[Bg,ih,or_assoc]
  ·split
   ·rename_i h;subst h;simp only[Bg];constructor
    ·exact .inl
    ·rintro(h|rfl)
     ·exact h
     ·exact .inl rfl
   ·simp only[Bg];constructor
    ·rintro(h|h)
     ·exact .inr h
     ·exact .inl h
    ·rintro(h|h)
     ·exact .inr h
     ·exact .inl h
theorem mk6 {l:List ByteArray}(h:ku8 l)(s:ByteArray):ku8 (md1 l s):=by
 unfold ku8 at *
 induction l with
 |nil=>simp[md1]
 |cons y l ih=>
  rw[List.pairwise_cons]at h;simp only[md1];split
  ·rename_i hy;refine List.pairwise_cons.2 ⟨λx hx=>?_,ih h.2⟩;rcases mq1.1 hx with hx|rfl
   ·exact h.1 x hx
   ·exact hy
  ·split
   ·exact List.pairwise_cons.2 h
   ·rename_i h1 h2;have h3:bL s y=true:=by
     rcases rx8 y s with h4|h4|h4
     ·exact absurd h4 h1
     ·exact absurd h4 h2
     ·exact h4
    refine List.pairwise_cons.2 ⟨λx hx=>?_,List.pairwise_cons.2 h⟩;rcases Bg.1 hx with rfl|hx
    ·exact h3
    ·exact mq0 h3 (h.1 x hx)
def once (l:List ByteArray):List ByteArray:=l.foldl md1 []
theorem mq2 {x:ByteArray}:∀ (l m:List ByteArray),x∈l.foldl md1 m↔x∈m\/x∈l
 |[],m=>by simp
 |y::l,m=>by rw[List.foldl_cons,mq2 l,mq1,Bg,or_assoc]
theorem ki6:∀ (l m:List ByteArray),ku8 m->ku8 (l.foldl md1 m)
 |[],_,h=>h
 |y::l,m,h=>ki6 l _ (mk6 h y)
theorem kf0 {x:ByteArray}{l:List ByteArray}:x∈once l↔x∈l:=by simp[once,mq2]
theorem ju8 (l:List ByteArray):ku8 (once l):=ki6 l [] List.Pairwise.nil
theorem ku9:∀ {l m:List ByteArray},ku8 l->ku8 m->(∀ x,x∈l↔x∈m)->l=m
 |[],[],_,_,_=>rfl
 |[],y::m,_,_,h=>by have:=(h y).2 Be;cases this
 |y::l,[],_,_,h=>by have:=(h y).1 Be;cases this
 |x::l,y::m,h1,h2,h=>by
  unfold ku8 at h1 h2;rw[List.pairwise_cons]at h1 h2;have e:x=y:=by
   rcases Bg.1 ((h x).1 Be) with e|hx
   ·exact e
   ·rcases Bg.1 ((h y).2 Be) with e|hy
    ·exact e.symm
    ·have h3:=h2.1 x hx;have h4:=h1.1 y hy;have:=mq0 h3 h4;rw[Ul]at this;cases this
  subst e;rw[ku9 (l:=l) (m:=m) h1.2 h2.2 λz=>?_];have hz:=h z;simp only[Bg]at hz;constructor
  ·intro hm;rcases hz.1 (.inr hm) with rfl|h5
   ·have:=h1.1 z hm;rw[Ul]at this;cases this
   ·exact h5
  ·intro hm;rcases hz.2 (.inr hm) with rfl|h5
   ·have:=h2.1 z hm;rw[Ul]at this;cases this
   ·exact h5
theorem md2 (d:Array (List UInt8))(hs:∀ i j,i<j->j<d.size->Op.bytesLess d[j]! d[i]! =false):∀ m,m<=d.size->
 (Lib.compactUpTo d m).Pairwise (λa b=>Op.bytesLess a b=true)/\(∀ x,x∈Lib.compactUpTo d m↔∃ j,j<m/\d[j]! =x):=by
 intro m
 induction m with
 |zero=>intro _;simp[Lib.compactUpTo]
 |succ m ih=>
  intro hm;obtain⟨h1,h2⟩:=ih (by omega);rw[Lib.compactUpTo_succ];have hlt:∀ x,(∃ j,j<m+1/\d[j]! =x)↔(∃ j,j<m/\d[j]! =x)\/d[m]! =x:=λx=>by
   constructor
   ·rintro⟨j,hj,e⟩;rcases Ah j m with h|h
    ·exact .inl ⟨j,h,e⟩
    ·obtain rfl:j=m:=by omega
     exact .inr e
   ·rintro(⟨j,hj,e⟩|e)
    ·exact⟨j,by omega,e⟩
    ·exact⟨m,by omega,e⟩
  by_cases hk:Lib.keeps d m=true
  ·rw[Ae hk];refine⟨List.pairwise_append.2 ⟨h1,List.pairwise_singleton _ _,λa ha b hb=>?_⟩,λx=>?_⟩
   ·obtain rfl:=Bu.1 hb;obtain⟨j,hj,rfl⟩:=(h2 a).1 ha;have h3:=hs j m hj (by omega);rcases kq0 d[j]! d[m]! with h4|h4|h4
    ·exact h4
    ·exfalso;simp only[Lib.keeps,Aj]at hk;rcases hk with hk|hk
     ·omega
     ·apply hk;rcases kq0 d[m - 1]! d[m]! with h5|h5|h5
      ·rcases Ah j (m - 1) with h6|h6
       ·have h7:=hs j (m - 1) h6 (by omega);rw[h4,h5]at h7;cases h7
       ·obtain rfl:j=m - 1:=by omega
        exact h4.symm
      ·exact h5.symm
      ·have h7:=hs (m - 1) m (by omega) (by omega);rw[h7]at h5;cases h5
    ·rw[h3]at h4;cases h4
   ·rw[Bi,h2,hlt,Bu];constructor
    ·rintro(h|h)
     ·exact .inl h
     ·exact .inr h.symm
    ·rintro(h|h)
     ·exact .inl h
     ·exact .inr h.symm
  ·rw[Af hk,Ej];refine⟨h1,λx=>?_⟩;rw[h2,hlt];constructor
   ·exact .inl
   ·rintro(h|rfl)
    ·exact h
    ·simp only[Lib.keeps,Aj,not_or,Classical.not_not]at hk;exact⟨m - 1,by omega,hk.2.symm⟩
def toB (l:List UInt8):ByteArray:=⟨l.toArray⟩
def Jz (l:List ByteArray):List (List UInt8):=(l.map λs=>s.data.toList).mergeSort λx y=>decide (x<=y)
theorem mv2 (l:List ByteArray):(Jz l).Pairwise λa b=>Op.bytesLess b a=false:=by
 have h:=List.pairwise_mergeSort (le:=λx y:List UInt8=>decide (x<=y)) (λa b c h1 h2=>by
  rw[Aj,qw5]at *;rcases kq0 c a with h3|h3|h3
  ·exfalso;rcases kq0 b c with h4|h4|h4
   ·have:=ke9 h4 h3;rw[h1]at this;cases this
   ·subst h4;rw[h3]at h1;cases h1
   ·rw[h4]at h2;cases h2
  ·subst h3;exact mp9 _
  ·exact qf5 h3) (λa b=>by
  rw[Bq,Aj,Aj,qw5,qw5];cases h:Op.bytesLess b a with
  |false=>exact .inl rfl
  |true=>exact .inr (qf5 h)) (l.map λs=>s.data.toList)
 exact h.imp λh=>by rwa [Aj,qw5]at h
theorem Ph (l:List ByteArray):(Lib.compact (Jz l)).map toB=once l:=by
 have hp:=mv2 l;rw[Fl]at hp;have hg:∀ j,j<(Jz l).length->(Jz l).toArray[j]! =(Jz l)[j]!:=λj hj=>by simp[hj]
 obtain⟨h1,h2⟩:=md2 (Jz l).toArray (λi j hij hj=>by
  have hj':j<(Jz l).length:=by simpa using hj
  have hi':i<(Jz l).length:=by omega
  have:=hp i j hi' hj' hij;simpa [hi',hj']using this) (Jz l).length (by simp)
 refine ku9 (List.pairwise_map.2 h1) (ju8 l) λx=>?_;rw[kf0,Bx];have hmem:∀ y,y∈Jz l↔y∈l.map λs=>s.data.toList:=λy=>List.mem_mergeSort;constructor
 ·rintro⟨y,hy,rfl⟩;obtain⟨j,hj,rfl⟩:=(h2 y).1 hy;have:(Jz l).toArray[j]!∈Jz l:=by simp[hj]
  obtain⟨s,hs,e⟩:=Bx.1 ((hmem _).1 this);rw[<-e];exact hs
 ·intro hx;have:=(hmem _).2 (Bx.2 ⟨x,hx,rfl⟩);obtain⟨j,hj,e⟩:=Ey.1 this;exact⟨_,(h2 _).2 ⟨j,hj,by simpa [hj]using e⟩,rfl⟩
end Sc
end
section
namespace Sc
mutual
def kq1:Pr->List ByteArray
 |.mk _ _ _ _ _ rep ak l _ (.mk _ _ sn _ _ sf sb)=>(if rep.name=ByteArray.empty then [] else [rep.name])++(sn++(sf.map (·.name)++(jm4 sb++(jp8 ak++jm4 l))))
def jm4:List Pr->List ByteArray
 |[]=>[]
 |p::l=>kq1 p++jm4 l
def md3:Gu->List ByteArray
 |.mk _ _ _ _ _ _ _ body=>jm4 body
def jp8:List Gu->List ByteArray
 |[]=>[]
 |g::l=>md3 g++jp8 l
end
end Sc
end
end Go.Proofs.YtklklgfpkpglgaaGreatDoor
