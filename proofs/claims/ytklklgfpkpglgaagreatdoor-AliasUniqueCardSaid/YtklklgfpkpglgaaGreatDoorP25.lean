/- Parts: S12, S23, S24. -/
import Derived.Test.YtklklgfpkpglgaaGreatDoorP20
set_option linter.all false
set_option maxRecDepth 100000
set_option maxHeartbeats 16000000
namespace Go.Proofs.YtklklgfpkpglgaaGreatDoor
open Go.RowKit Go.Proofs.Tryz
section
namespace Sc
abbrev la (f:ByteArray->List Ent)(s:ByteArray):Option Ent:=(f s).getLast?
structure Qx (has:ByteArray->Prop)(c:Int)(f g:ByteArray->List Ent):Prop where
 here:∀ s x,la f s=some x->la g x.fresh=some x
 num:∀ s x,la f s=some x->∃ k:Nat,x.fresh=newName k/\(k:Int)<=c/\¬has (newName k)
 new:∀ s x,la g s=some x->∃ k:Nat,s=newName k/\(k:Int)<=c/\¬has (newName k)
 tags:∀ s x,la f s=some x->∀ t∈x.tags,has t
structure Lik (σ τ:W):Prop where
 env:Qx σ.has σ.count σ.env τ.env
 count:σ.count=τ.count
 pos:0<=σ.count
 ev:σ.ev=τ.ev
 has:∀ s,σ.has s↔τ.has s
def jw8 (σ:W):Prop:=∀ e∈σ.ev,e.2=false/\σ.has e.1
theorem Qx.mono {has:ByteArray->Prop}{c d:Int}{f g:ByteArray->List Ent}(h:Qx has c f g)(hc:c<=d):Qx has d f g:=
 ⟨h.here,fun s x hx=>let ⟨k,h1,h2,h3⟩:=h.num s x hx;⟨k,h1,Int.le_trans h2 hc,h3⟩,fun s x hx=>let ⟨k,h1,h2,h3⟩:=h.new s x hx;⟨k,h1,Int.le_trans h2 hc,h3⟩,h.tags⟩
theorem Grow.fine {σ τ:W}{n:Nat}(h:Grow σ τ n)(hf:jw8 τ):jw8 σ:=fun e he=>by
 have:=hf e (h.pre.subset he);unfold W.has at *;rw[h.tk]at this;exact this
theorem Grow.hs {σ τ:W}{n:Nat}(h:Grow σ τ n)(s:ByteArray):τ.has s↔σ.has s:=by unfold W.has;rw[h.tk]
theorem kr2 (k:Nat):newName k≠ByteArray.empty:=fun h=>by
 have:=congrArg ByteArray.size h;simp[newName,ByteArray.size]at this
structure Back {α:Type}(a b:α × W):Prop where
 eq:b.1=a.1
 lik:Lik a.2 b.2
theorem Lik.name {σ τ:W}(h:Lik σ τ)(s:ByteArray)(hf:jw8 (nameOf σ s).2):Back (nameOf σ s) (nameOf τ (nameOf σ s).1):=by
 unfold nameOf at hf ⊢;cases h1:(σ.env s).getLast? with
 |some x=>
  dsimp only;have:=h.env.here s x h1;rw[show(τ.env x.fresh).getLast?=some x from this];exact⟨rfl,h⟩
 |none=>
  rw[h1]at hf;dsimp only at hf ⊢;have hs:=hf (s,false) (by simp[step]);have h2:(τ.env s).getLast?=none:=by
   cases h3:(τ.env s).getLast? with
   |none=>rfl
   |some x=>
    obtain⟨k,rfl,_,h4⟩:=h.env.new s x h3;exact absurd hs.2 h4
  rw[h2];exact⟨rfl,h.env,h.count,h.pos,by simp only[step,h.ev],h.has⟩
mutual
theorem jh3:∀ (e:Ex) (σ τ:W),Lik σ τ->jw8 (Cj σ e).2->Back (Cj σ e) (Cj τ (Cj σ e).1)
 |.mk kind op ty n s l,σ,τ,h,hF=>by
  simp only[Cj]at hF ⊢;have h1:Back (if Dl kind then nameOf σ s else (s,σ)) (if Dl kind then nameOf τ (if Dl kind then nameOf σ s else (s,σ)).1 else ((if Dl kind then nameOf σ s else (s,σ)).1,τ)):=by
   have hF1:=(Lb l _).fine hF;split
   ·rename_i hk;rw[Ad hk]at hF1;exact h.name s hF1
   ·exact⟨rfl,h⟩
  have hq:=kc0 l _ _ h1.lik hF;exact⟨by rw[h1.eq,hq.eq],hq.lik⟩
theorem kc0:∀ (l:List Ex) (σ τ:W),Lik σ τ->jw8 (x6 σ l).2->Back (x6 σ l) (x6 τ (x6 σ l).1)
 |[],_,_,h,_=>by simp only[x6];exact⟨rfl,h⟩
 |e::l,σ,τ,h,hF=>by
  simp only[x6]at hF ⊢;have h1:=jh3 e σ τ h ((Lb l _).fine hF);have h2:=kc0 l _ _ h1.lik hF;exact⟨by rw[h1.eq,h2.eq],h2.lik⟩
end
theorem jj5 (l:List Ex){σ τ:W}(h:Lik σ τ)(hF:jw8 (v7 Cj σ l).2):Back (v7 Cj σ l) (v7 Cj τ (v7 Cj σ l).1):=by
 rw[<-ja3]at hF;rw[<-ja3,<-ja3];exact kc0 l σ τ h hF
theorem Lik.fresh {σ τ:W}(h:Lik σ τ):(Cu τ).1=(Cu σ).1/\Lik (Cu σ).2 (Cu τ).2:=by
 have hc:=kv4 h.has;have hg:=Ji σ;refine⟨?_,?_,?_,?_,?_,?_⟩
 ·unfold Cu;dsimp only;rw[h.count,hc]
 ·have:=h.env.mono (hg.lo h.pos);exact this
 ·unfold Cu;dsimp only;rw[h.count,hc]
 ·have:=hg.lo h.pos;have:=h.pos;omega
 ·exact h.ev
 ·exact h.has
theorem Lik.typed {σ τ:W}(h:Lik σ τ)(t:Ty)(hF:jw8 (Dm σ t).2):Back (Dm σ t) (Dm τ (Dm σ t).1)/\(t.proto≠ByteArray.empty->la τ.env (Dm σ t).1.proto=la σ.env t.proto)/\((Dm σ t).1.proto=ByteArray.empty↔t.proto=ByteArray.empty):=by
 unfold Dm at hF ⊢;by_cases ht:t.proto=ByteArray.empty
 ·rw[Ad ht,Ad ht];exact⟨⟨rfl,h⟩,fun h=>absurd ht h,.rfl⟩
 ·rw[Ae ht]at hF ⊢;dsimp only at hF ⊢;have h1:=h.name t.proto hF;have h2:(nameOf σ t.proto).1≠ByteArray.empty/\la τ.env (nameOf σ t.proto).1=la σ.env t.proto:=by
   unfold nameOf at hF ⊢;cases h3:(σ.env t.proto).getLast? with
   |some x=>
    dsimp only;obtain⟨k,h4,_⟩:=h.env.num _ x h3;refine⟨by rw[h4];exact kr2 k,?_⟩;rw[h.env.here _ x h3];exact h3.symm
   |none=>
    rw[h3]at hF;dsimp only at hF ⊢;refine⟨ht,?_⟩;have hs:=hF (t.proto,false) (by simp[step]);rw[show la σ.env t.proto=none from h3];cases h5:la τ.env t.proto with
    |none=>rfl
    |some x=>
     obtain⟨k,h6,_,h7⟩:=h.env.new _ x h5;rw[h6]at hs;exact absurd hs.2 h7
  rw[Ae h2.1];exact⟨⟨by dsimp only;rw[h1.eq],h1.lik⟩,fun _=>h2.2,fun h=>absurd h h2.1,fun h=>absurd h ht⟩
def Incr (has:ByteArray->Prop):Int->List Ent->Int->Prop
 |c,[],d=>c<=d
 |c,x::l,d=>∃ k:Nat,x.fresh=newName k/\c<k/\¬has (newName k)/\Incr has k l d
theorem Incr.le {has:ByteArray->Prop}:∀ {l:List Ent} {c d:Int},Incr has c l d->c<=d
 |[],_,_,h=>h
 |_::l,_,_,⟨k,_,h1,_,h2⟩=>by have:=Incr.le h2;omega
theorem Incr.mono {has:ByteArray->Prop}{l:List Ent}{c c' d:Int}(h:Incr has c l d)(hc:c'<=c):Incr has c' l d:=by
 cases l with
 |nil=>exact Int.le_trans hc h
 |cons x l=>obtain⟨k,h1,h2,h3,h4⟩:=h;exact⟨k,h1,by omega,h3,h4⟩
theorem Incr.up {has:ByteArray->Prop}:∀ {l:List Ent} {c d d':Int},Incr has c l d->d<=d'->Incr has c l d'
 |[],_,_,_,h,h'=>Int.le_trans h h'
 |_::l,_,_,_,⟨k,h1,h2,h3,h4⟩,h'=>⟨k,h1,h2,h3,Incr.up h4 h'⟩
theorem jp9 (σ:W)(h:0<=σ.count):∃ k:Nat,(Cu σ).1=newName k/\σ.count<k/\¬σ.has (newName k)/\(Cu σ).2.count=k:=by
 unfold Cu;dsimp only;exact⟨_,rfl,by omega,Qi σ _,rfl⟩
theorem jj6:∀ (l:List (Bool × List ByteArray)) (σ:W),0<=σ.count->Incr σ.has σ.count (Cs σ l).1 (Cs σ l).2.count
 |[],σ,_=>Ed _
 |x::l,σ,h=>by
  obtain⟨k,h1,h2,h3,h4⟩:=jp9 σ h;have h5:=jj6 l (Cu σ).2 (by omega);rw[h4]at h5;exact⟨k,h1,h2,h3,h5⟩
theorem Qx.push1 {has:ByteArray->Prop}{c:Int}{f g:ByteArray->List Ent}(h:Qx has c f g)(s:ByteArray)(x:Ent){k:Nat}(hk:c<k)(hx:x.fresh=newName k)(hn:¬has (newName k))(ht:∀ t∈x.tags,has t):
 Qx has k (fun t=>if t=s then f t++[x] else f t) (fun t=>if t=x.fresh then g t++[x] else g t):=by
 have e1:∀ t,la (fun t=>if t=s then f t++[x] else f t) t=if t=s then some x else la f t:=fun t=>by
  unfold la;dsimp only;split
  ·exact List.getLast?_concat
  ·rfl
 have e2:∀ t,la (fun t=>if t=x.fresh then g t++[x] else g t) t=if t=x.fresh then some x else la g t:=fun t=>by
  unfold la;dsimp only;split
  ·exact List.getLast?_concat
  ·rfl
 refine⟨fun t y hy=>?_,fun t y hy=>?_,fun t y hy=>?_,fun t y hy=>?_⟩
 ·rw[e1]at hy;rw[e2];split at hy
  ·cases hy;rw[Ad rfl]
  ·obtain⟨j,h1,h2,_⟩:=h.num t y hy;rw[Ae fun e=>by
    rw[h1,hx]at e;have:=Mq e;omega]
   exact h.here t y hy
 ·rw[e1]at hy;split at hy
  ·cases hy;exact⟨k,hx,Ed _,hn⟩
  ·obtain⟨j,h1,h2,h3⟩:=h.num t y hy;exact⟨j,h1,by omega,h3⟩
 ·rw[e2]at hy;split at hy
  ·rename_i e;exact⟨k,e.trans hx,Ed _,hn⟩
  ·obtain⟨j,h1,h2,h3⟩:=h.new t y hy;exact⟨j,h1,by omega,h3⟩
 ·rw[e1]at hy;split at hy
  ·cases hy;exact ht
  ·exact h.tags t y hy
theorem Qx.push {has:ByteArray->Prop}:∀ (ns:List ByteArray) {xs:List Ent} {c d:Int} {f g:ByteArray->List Ent},ns.length=xs.length->Qx has c f g->Incr has c xs d->(∀ x∈xs,∀ t∈x.tags,has t)->Qx has d (Cm f ns xs) (Cm g (xs.map (·.fresh)) xs)
 |[],[],_,_,_,_,_,h,hi,_=>h.mono hi
 |[],_::_,_,_,_,_,hl,_,_,_=>by cases hl
 |_::_,[],_,_,_,_,hl,_,_,_=>by cases hl
 |s::ns,x::xs,c,d,f,g,hl,h,⟨k,h1,h2,h3,h4⟩,ht=>by
  simp only[Cm,Aq];exact Qx.push ns (by simpa using hl) (h.push1 s x h2 h1 h3 (ht x Az)) h4 fun y hy=>ht y (Bb _ hy)
theorem Sg {has:ByteArray->Prop}:∀ {l:List Ent} {c d:Int},Incr has c l d->∀ x∈l,∃ k:Nat,x.fresh=newName k/\c<k/\(k:Int)<=d/\¬has (newName k)
 |_::l,_,_,⟨k,h1,h2,h3,h4⟩,x,hx=>by
  rcases Bc.1 hx with rfl|hx
  ·exact⟨k,h1,h2,h4.le,h3⟩
  ·obtain⟨j,h5,h6,h7,h8⟩:=Sg h4 x hx;exact⟨j,h5,by omega,h7,h8⟩
theorem kc1 {has:ByteArray->Prop}:∀ {l:List Ent} {c d:Int},Incr has c l d->(l.map (·.fresh)).Nodup
 |[],_,_,_=>List.nodup_nil
 |x::l,_,_,⟨k,h1,h2,h3,h4⟩=>by
  rw[Aq,List.nodup_cons];refine⟨fun hm=>?_,kc1 h4⟩;obtain⟨y,hy,e⟩:=Bl.1 hm;obtain⟨j,h5,h6,_⟩:=Sg h4 y hy;rw[h5,h1]at e;have:=Mq e;omega
theorem kj7 (σ:W)(l:List ByteArray)(h:l.Nodup):Cr σ l=σ:=by
 unfold Cr;rw[List.filter_eq_nil_iff.2,Ax,Ea];intro i hi ha;rw[Ew]at hi;rw[Em]at ha;obtain⟨x,hx,e⟩:=ha;rw[Mi,List.getD_eq_getElem?_getD,At hi]at e;simp only[Option.getD_some]at e;obtain⟨j,hj,rfl⟩:=Er.1 hx;rw[Aj]at hj;rw[List.getElem_take]at e;have:=List.getElem_inj h |>.1 e;omega
theorem kr3 (σ:W)(l:List ByteArray)(h:jw8 (Cr σ l)):Cr σ l=σ:=by
 unfold Cr at h ⊢;cases hm:((List.range l.length).filter fun i=>(l.take i).any (isB (l.getD i ByteArray.empty))).map fun i=>(l.getD i ByteArray.empty,true) with
 |nil=>rw[Ea]
 |cons e r=>
  rw[hm]at h;have h1:=h e (by simp);have:e∈((List.range l.length).filter fun i=>(l.take i).any (isB (l.getD i ByteArray.empty))).map fun i=>(l.getD i ByteArray.empty,true):=by rw[hm];exact Az
  obtain⟨i,_,rfl⟩:=Bl.1 this;cases h1.1
theorem kj8:∀ (l:List (Bool × List ByteArray)) (σ τ:W),Lik σ τ->Back (Cs σ l) (Cs τ l)
 |[],_,_,h=>⟨rfl,h⟩
 |x::l,σ,τ,h=>by
  have h1:=h.fresh;have h2:=kj8 l _ _ h1.2;simp only[Cs];exact⟨by rw[h1.1,h2.eq],h2.lik⟩
structure TyL (f g:ByteArray->List Ent)(t t':Ty):Prop where
 kind:t'.kind=t.kind
 none:t'.proto=ByteArray.empty↔t.proto=ByteArray.empty
 la:t.proto≠ByteArray.empty->la g t'.proto=la f t.proto
theorem TyL.carried {f g:ByteArray->List Ent}{t t':Ty}(h:TyL f g t t'):Ct g t'=Ct f t:=by
 unfold Ct;rw[h.kind];by_cases h1:t.proto=ByteArray.empty
 ·rw[Ae (fun h2=>h2.2 (h.none.2 h1)),Ae (fun h2=>h2.2 h1)]
 ·have h2:¬t'.proto=ByteArray.empty:=fun h2=>h1 (h.none.1 h2);have h3:=h.la h1;unfold Sc.la at h3;rw[h3];simp only[h1,h2,ne_eq,not_false_eq_true]
theorem Lik.Wz {σ τ:W}(h:Lik σ τ)(t:Ty)(hF:jw8 (Dm σ t).2):Back (Dm σ t) (Dm τ (Dm σ t).1)/\TyL σ.env τ.env t (Dm σ t).1:=by
 obtain⟨h1,h2,h3⟩:=h.typed t hF;refine⟨h1,?_,h3,h2⟩;unfold Dm;split<;>rfl
theorem Oj:∀ (l:List Fo) (ns:List ByteArray),ns.length=l.length->(named l ns).length=l.length
 |[],[],_=>rfl
 |[],_::_,h=>by cases h
 |_::_,[],h=>by cases h
 |f::l,n::ns,h=>by simp only[named,An,Oj l ns (by simpa using h)]
theorem jv1:∀ (l:List Fo) (ns:List ByteArray),ns.length=l.length->(named l ns).map (·.name)=ns
 |[],[],_=>rfl
 |[],_::_,h=>by cases h
 |_::_,[],h=>by cases h
 |f::l,n::ns,h=>by simp only[named,Aq,jv1 l ns (by simpa using h)]
theorem kj9:∀ (l:List Fo) (ns:List ByteArray),ns.length=l.length->named (named l ns) ns=named l ns
 |[],[],_=>rfl
 |[],_::_,h=>by cases h
 |_::_,[],h=>by cases h
 |f::l,n::ns,h=>by simp only[named,kj9 l ns (by simpa using h)]
theorem ke5:∀ (l:List Fo) (σ τ:W) (ns:List ByteArray),Lik σ τ->jw8 (v7 Cw σ l).2->ns.length=l.length->
 (v7 Cw τ (named (v7 Cw σ l).1 ns)).1=named (v7 Cw σ l).1 ns/\Lik (v7 Cw σ l).2 (v7 Cw τ (named (v7 Cw σ l).1 ns)).2/\
   ((named (v7 Cw σ l).1 ns).map fun f=>(false,Ct τ.env f.type))=l.map fun f=>(false,Ct σ.env f.type)
 |[],σ,τ,[],h,_,_=>⟨rfl,h,rfl⟩
 |[],_,_,_::_,_,_,hl=>by cases hl
 |_::_,_,_,[],_,_,hl=>by cases hl
 |f::l,σ,τ,n::ns,h,hF,hl=>by
  simp only[v7]at hF ⊢;have hg:=Ns (fun _=>1) (fun f σ=>Jr σ f) l (Cw σ f).2;obtain⟨h1,h2⟩:=h.Wz f.type (hg.fine hF);obtain⟨h3,h4,h5⟩:=ke5 l (Cw σ f).2 (Dm τ (Dm σ f.type).1).2 ns h1.lik hF (by simpa using hl);simp only[named,v7,Aq];have e1:Cw τ {Cw σ f |>.1 with name:=n}=({(Cw σ f).1 with name:=n},(Dm τ (Dm σ f.type).1).2):=by
   unfold Cw;dsimp only;rw[h1.eq]
  rw[e1];refine⟨by rw[h3],h4,?_⟩;have e2:(Cw σ f).1.type=(Dm σ f.type).1:=rfl;have e3:(Cw σ f).2.env=σ.env:=(Jr σ f).env;have e4:(Dm τ (Dm σ f.type).1).2.env=τ.env:=(Kj τ _).env;rw[e2,h2.carried];rw[e3,e4]at h5;rw[h5]
theorem me1 {α β γ:Type}(T:γ):∀ (l:List α) (m:List β),l.length=m.length->(l.map fun _=>T)=m.map fun _=>T
 |[],[],_=>rfl
 |[],_::_,h=>by cases h
 |_::_,[],h=>by cases h
 |_::l,_::m,h=>by simp only[Aq,me1 T l m (by simpa using h)]
def Head.sp (a:Head)(sk:Int)(spp:Pt):Sp:=.mk sk a.type a.names a.e spp a.formals []
structure Vu (σ:W)(a b:Head × W)(sn:List ByteArray)(sf:List Fo):Prop where
 eq:b.1=a.1
 lik:Lik a.2 b.2
 ownL:sn.length=a.1.own.length
 innerL:sf.length=a.1.inner.length
 names:a.1.names=a.1.own.map (·.fresh)
 fnames:a.1.formals.map (·.name)=a.1.inner.map (·.fresh)
 mid:∃ c,Incr σ.has σ.count a.1.own c/\Incr σ.has c a.1.inner a.2.count
 tags:∀ x,x∈a.1.own\/x∈a.1.inner->∀ t∈x.tags,σ.has t
theorem ke6 {has:ByteArray->Prop}{f:ByteArray->List Ent}(h:∀ s x,la f s=some x->∀ t∈x.tags,has t)(t:Ty):∀ s∈Ct f t,has s:=by
 unfold Ct;split
 ·cases h1:(f t.proto).getLast? with
  |none=>intro s hs;cases hs
  |some x=>
   dsimp only;split
   ·exact h t.proto x h1
   ·intro s hs;cases hs
 ·intro s hs;cases hs
theorem kk0 {has:ByteArray->Prop}:∀ (l:List (Bool × List ByteArray)) (σ:W),(∀ x∈l,∀ t∈x.2,has t)->∀ x∈(Cs σ l).1,∀ t∈x.tags,has t
 |[],_,_,x,hx=>by cases hx
 |y::l,σ,h,x,hx=>by
  simp only[Cs]at hx;rcases Bc.1 hx with rfl|hx
  ·exact h y Az
  ·exact kk0 l _ (fun z hz=>h z (Bb _ hz)) x hx
theorem Lik.head {σ τ:W}(h:Lik σ τ)(sk:Int)(st:Ty)(sn:List ByteArray)(se:Ex)(spp:Pt)(sf:List Fo)(hF:jw8 (Gl σ (.mk sk st sn se spp sf [])).2)(htg:∀ v∈spp.l,σ.has v.tag):
 Vu σ (Gl σ (.mk sk st sn se spp sf [])) (Gl τ ((Gl σ (.mk sk st sn se spp sf [])).1.sp sk spp)) sn sf:=by
 unfold Gl Head.sp at *;dsimp only[Sp.names,Sp.formals,Sp.type,Sp.e,Sp.kind]at *;have g1:=Jw σ sn;have g2:=Ip (sn.map fun _=>Dv σ.env (.mk sk st sn se spp sf [])) (Cr σ sn);have n2:=Lj (sn.map fun _=>Dv σ.env (.mk sk st sn se spp sf [])) (Cr σ sn);have i2:=jj6 (sn.map fun _=>Dv σ.env (.mk sk st sn se spp sf [])) (Cr σ sn) h.pos;have t2:=kk0 (has:=σ.has) (sn.map fun _=>Dv σ.env (.mk sk st sn se spp sf [])) (Cr σ sn) (fun x hx=>by
  obtain⟨_,_,rfl⟩:=Bl.1 hx;unfold Dv;split
  ·dsimp only;unfold Ni;split
   ·intro t ht;obtain⟨v,hv,rfl⟩:=Bl.1 ht;exact htg v hv
   ·intro t ht;cases ht
  ·exact ke6 h.env.tags st)
 have b2:=kj8 (sn.map fun _=>Dv σ.env (.mk sk st sn se spp sf [])) (Cr σ sn);generalize Cs (Cr σ sn) (sn.map fun _=>Dv σ.env (.mk sk st sn se spp sf []))=o at g2 n2 i2 t2 b2 hF ⊢;have g3:=Jw o.2 (sf.map (·.name));have g4:=Ip (sf.map fun f=>(false,Ct σ.env f.type)) (Cr o.2 (sf.map (·.name)));have n4:=Lj (sf.map fun f=>(false,Ct σ.env f.type)) (Cr o.2 (sf.map (·.name)));have i4:=jj6 (sf.map fun f=>(false,Ct σ.env f.type)) (Cr o.2 (sf.map (·.name))) (by have:=g2.lo h.pos;have:=h.pos;dsimp only[Cr]at *;omega);have t4:=kk0 (has:=σ.has) (sf.map fun f=>(false,Ct σ.env f.type)) (Cr o.2 (sf.map (·.name))) (fun x hx=>by
  obtain⟨f,_,rfl⟩:=Bl.1 hx;exact ke6 h.env.tags f.type)
 have b4:=kj8 (sf.map fun f=>(false,Ct σ.env f.type)) (Cr o.2 (sf.map (·.name)));generalize Cs (Cr o.2 (sf.map (·.name))) (sf.map fun f=>(false,Ct σ.env f.type))=i at g4 n4 i4 t4 b4 hF ⊢;have g5:=Kj i.2 st;have b5:=fun(τ:W) (h:Lik i.2 τ)=>h.Wz st;generalize Dm i.2 st=t at g5 b5 hF ⊢;have g6:=Ns (fun _=>1) (fun f σ=>Jr σ f) sf t.2;have b6:=ke5 sf t.2;have n6:=n8 Cw sf t.2;generalize v7 Cw t.2 sf=f at g6 b6 n6 hF ⊢;have g7:=Cy se f.2;have b7:=jh3 se f.2;generalize Cj f.2 se=e at g7 b7 hF ⊢;simp only[Ab]at n2 n4;have F6:=g7.fine hF;have F5:=g6.fine F6;have F4:=g5.fine F5;have F3:=g4.fine F4;have F2:=g3.fine F3;have F1:=g2.fine F2;have e1:=kr3 _ _ F1;have e3:=kr3 _ _ F3;rw[e1]at g2 i2 b2;rw[e3]at g4 i4 b4;have q2:(o.1.map (·.fresh)).Nodup:=kc1 i2;have q4:(i.1.map (·.fresh)).Nodup:=kc1 i4;have l2:=b2 τ h;have l4:=b4 _ l2.lik;have l5:=b5 _ l4.lik F5;have en:i.2.env=σ.env:=g4.env.trans g2.env;have en2:t.2.env=σ.env:=g5.env.trans en;have hin:(i.1.map (·.fresh)).length=sf.length:=by rw[Ab,n4]
 have hf1:(named f.1 (i.1.map (·.fresh))).map (·.name)=i.1.map (·.fresh):=jv1 _ _ (by rw[Ab,n6,n4]);obtain⟨l6,l6b,l6c⟩:=b6 _ (i.1.map (·.fresh)) l5.1.lik F6 hin;have l7:=b7 _ l6b hF;have et:(Cs τ (sn.map fun _=>Dv σ.env (.mk sk st sn se spp sf []))).2.env=τ.env:=(Ip _ _).env;have ei:(Cs (Cs τ (sn.map fun _=>Dv σ.env (.mk sk st sn se spp sf []))).2 (sf.map fun f=>(false,Ct σ.env f.type))).2.env=τ.env:=(Ip _ _).env.trans et;have el:TyL σ.env τ.env st t.1:=by
  have:=l5.2;rw[en,ei]at this;exact this
 have eo:Dv τ.env (.mk sk t.1 (o.1.map (·.fresh)) e.1 spp (named f.1 (i.1.map (·.fresh))) [])=Dv σ.env (.mk sk st sn se spp sf []):=by
  unfold Dv Ni;dsimp only[Sp.kind,Sp.type,Sp.proto];rw[el.carried];rfl
 have ec:((named f.1 (i.1.map (·.fresh))).map fun f=>(false,Ct τ.env f.type))=sf.map fun f=>(false,Ct σ.env f.type):=by
  have h5:(Dm (Cs (Cs τ (sn.map fun _=>Dv σ.env (.mk sk st sn se spp sf []))).2 (sf.map fun f=>(false,Ct σ.env f.type))).2 t.1).2.env=τ.env:=(Kj _ _).env.trans ei;rw[h5,en2]at l6c;exact l6c
 rw[eo,ec,hf1,kj7 _ _ q2,me1 (Dv σ.env (.mk sk st sn se spp sf [])) (o.1.map (·.fresh)) sn (by rw[Ab,n2]),kj7 _ _ (by exact q4)];have m:∀ x,x∈o.1\/x∈i.1->∀ t∈x.tags,σ.has t:=fun x hx=>hx.elim (t2 x) (t4 x);refine⟨?_,l7.lik,n2.symm,n4.symm,rfl,hf1,⟨o.2.count,i2,?_⟩,m⟩
 ·rw[l2.eq,l4.eq,l5.1.eq,l6,l7.eq,kj9 _ _ (by rw[Ab,n6,n4])]
 ·have h8:=i4.up (d':=e.2.count) (by
   have p1:=g2.lo h.pos;have p2:=g4.lo (by have:=h.pos;omega);have p3:=g5.lo (by have:=h.pos;omega);have p4:=g6.lo (by have:=h.pos;omega);have p5:=g7.lo (by have:=h.pos;omega);omega)
  have hh:o.2.has=σ.has:=by unfold W.has;rw[g2.tk]
  rw[hh]at h8;exact h8
theorem Lik.la {σ τ:W}(h:Lik σ τ)(s:ByteArray)(hF:jw8 (nameOf σ s).2):la τ.env (nameOf σ s).1=la σ.env s:=by
 unfold nameOf at hF ⊢;cases h3:(σ.env s).getLast? with
 |some x=>
  dsimp only;rw[h.env.here _ x h3];exact h3.symm
 |none=>
  rw[h3]at hF;dsimp only at hF ⊢;have hs:=hF (s,false) (by simp[step]);rw[show Sc.la σ.env s=none from h3];cases h5:Sc.la τ.env s with
  |none=>rfl
  |some x=>
   obtain⟨k,h6,_,h7⟩:=h.env.new _ x h5;rw[h6]at hs;exact absurd hs.2 h7
theorem qx0 (tag:Bool)(l:List Ex){σ τ:W}(h:Lik σ τ)(hF:jw8 (Du tag σ l).2):Back (Du tag σ l) (Du tag τ (Du tag σ l).1):=by
 cases l with
 |nil=>exact⟨rfl,h⟩
 |cons e l=>
  cases tag with
  |true=>
   simp only[Du,if_true]at hF ⊢;have h1:=jj5 l h hF;exact⟨by rw[h1.eq],h1.lik⟩
  |false=>
   have e1:∀ (υ:W) (x:Ex) (r:List Ex),Du false υ (x::r)=v7 Cj υ (x::r):=fun _ _ _=>rfl;rw[e1]at hF ⊢;have h1:=jj5 (e::l) h hF;rw[show(v7 Cj σ (e::l)).1=(Cj σ e).1::(v7 Cj (Cj σ e).2 l).1 from rfl]at h1 ⊢;rw[e1];exact h1
structure RepBack (σ:W)(a b:(Rp × List Ent) × W)(r:Rp):Prop where
 eq:b.1=a.1
 lik:Lik a.2 b.2
 num:Incr σ.has σ.count a.1.2 a.2.count
 len:(if r.name=ByteArray.empty then [] else [r.name]).length=a.1.2.length
 names:(if a.1.1.name=ByteArray.empty then [] else [a.1.1.name])=a.1.2.map (·.fresh)
 tags:∀ x∈a.1.2,x.tags=[]
 none:r.name=ByteArray.empty->a.1=(r,[])
theorem Lik.rep {σ τ:W}(h:Lik σ τ)(r:Rp)(hF:jw8 (Jc σ r).2):RepBack σ (Jc σ r) (Jc τ (Jc σ r).1.1) r:=by
 unfold Jc at hF ⊢;by_cases hr:r.name=ByteArray.empty
 ·rw[Ad hr,Ad hr];exact⟨rfl,h,Ed _,by rw[Ad hr];rfl,by rw[Ad hr];rfl,fun x hx=>(by cases hx),fun _=>rfl⟩
 ·rw[Ae hr]at hF ⊢;dsimp only at hF ⊢;obtain⟨k,k1,k2,k3,k4⟩:=jp9 σ h.pos;have hn:¬(Cu σ).1=ByteArray.empty:=by rw[k1];exact kr2 k
  rw[Ae hn];have h1:=h.fresh;have g2:=Cy r.base (Cu σ).2;have g3:=Cy r.count (Cj (Cu σ).2 r.base).2;have h2:=jh3 r.base _ _ h1.2 (g3.fine hF);have h3:=jh3 r.count _ _ h2.lik hF;have p2:=g2.lo (by rw[k4];omega);have p3:=g3.lo (by have:=h.pos;omega);exact⟨by rw[h1.1,h2.eq,h3.eq],h3.lik,⟨k,k1,k2,k3,by show(k:Int)<=_;dsimp only;omega⟩,by rw[Ae hr];rfl,by rw[Ae hn];rfl,fun x hx=>by rw[Bn.1 hx],fun h=>absurd h hr⟩
theorem Lik.ghead {σ τ:W}(h:Lik σ τ)(cond chan:Ex)(targets values:List Ex)(time:Ex)(hF:jw8 (Hl σ cond chan targets values time).2):
 Back (Hl σ cond chan targets values time) (Hl τ (Hl σ cond chan targets values time).1.cond (Hl σ cond chan targets values time).1.chan (Hl σ cond chan targets values time).1.targets (Hl σ cond chan targets values time).1.values (Hl σ cond chan targets values time).1.time):=by
 unfold Hl at *;dsimp only at *;have g2:=Cy chan (Cj σ cond).2;have g3:=Dz targets (Cj (Cj σ cond).2 chan).2;have g4:=Dz values (v7 Cj (Cj (Cj σ cond).2 chan).2 targets).2;have g5:=Cy time (v7 Cj (v7 Cj (Cj (Cj σ cond).2 chan).2 targets).2 values).2;have F4:=g5.fine hF;have F3:=g4.fine F4;have F2:=g3.fine F3;have F1:=g2.fine F2;have ha:=jh3 cond _ _ h F1;have hb:=jh3 chan _ _ ha.lik F2;have hc:=jj5 targets hb.lik F3;have hd:=jj5 values hc.lik F4;have he:=jh3 time _ _ hd.lik hF;exact⟨by rw[ha.eq,hb.eq,hc.eq,hd.eq,he.eq],he.lik⟩
def mr9 (kind:Int)(chan:Ex)(exprs:List Ex)(rep:Rp):Prop:=((kind=18->rep.name=ByteArray.empty)/\(rep.name=ByteArray.empty->rep=rp0))/\(kind=5->exprs≠[]/\Dl chan.kind=true/\∀ e∈exprs.head?,e.kind=4->e.l=[])
theorem mm4 (σ:W)(e:Ex):(Cj σ e).1.kind=e.kind:=by cases e;simp only[Cj,Ex.kind]
theorem ms0 (σ:W)(e:Ex):(Cj σ e).1.s=if Dl e.kind then (nameOf σ e.s).1 else e.s:=by
 obtain⟨kind,op,ty,n,s,l⟩:=e;simp only[Cj,Ex.s,Ex.kind];by_cases h:Dl kind=true
 ·simp[h]
 ·simp[h]
theorem my0 {σ:W}{e:Ex}(hk:Dl e.kind=true)(hF:jw8 (Cj σ e).2):jw8 (nameOf σ e.s).2:=by
 obtain⟨kind,op,ty,n,s,l⟩:=e;simp only[Cj,Ex.kind,Ex.s]at *;have:=(Lb l _).fine hF;rw[Ad hk]at this;exact this
theorem Lik.tagged {σ τ σ1 σ2:W}(h:Lik σ τ){kind:Int}{chan:Ex}{exprs:List Ex}{rep:Rp}(hok:mr9 kind chan exprs rep)(e1:σ1.env=σ.env)(e2:σ2.env=σ.env)(h1:σ1.has=σ.has)(h2:σ2.has=σ.has)
 (hc:Sc.la τ.env (Cj σ1 chan).1.s=Sc.la σ.env chan.s\/kind≠5) (hnum:∀ s x,Sc.la σ2.env s=some x->∃ k:Nat,x.fresh=newName k/\¬σ.has (newName k)):
 Db τ.env kind (Cj σ1 chan).1 (Du (Db σ.env kind chan exprs) σ2 exprs).1=Db σ.env kind chan exprs:=by
 by_cases hk:kind=5
 ·have hc:=hc.resolve_right (fun h=>h hk);cases exprs with
  |nil=>exact absurd rfl (hok.2 hk).1
  |cons e l=>
   cases ht:Db σ.env kind chan (e::l) with
   |true=>
    simp only[Du,if_true];unfold Db at ht ⊢;rw[Ad hk]at ht ⊢;dsimp only at ht ⊢;unfold Sc.la at hc;rw[hc];exact ht
   |false=>
    rw[show(Du false σ2 (e::l)).1=(Cj σ2 e).1::(v7 Cj (Cj σ2 e).2 l).1 from rfl];unfold Db at ht ⊢;rw[Ad hk]at ht ⊢;dsimp only at ht ⊢;unfold Sc.la at hc;rw[hc,mm4];cases hx:(σ.env chan.s).getLast? with
    |none=>rw[Bo]
    |some x=>
     rw[hx]at ht;dsimp only at ht ⊢;by_cases hk4:e.kind=4
     ·rw[Eb hk4,Bi]at ht ⊢;rw[ms0,Ad (show Dl e.kind=true by rw[hk4];rfl)];unfold nameOf;cases hy:(σ2.env e.s).getLast? with
      |none=>exact ht
      |some y=>
       dsimp only;obtain⟨k,k1,k2⟩:=hnum _ y hy;rw[k1];have:(x.tags.any (isB (newName k)))=false:=by
        rw[Bool.eq_false_iff];intro ha;rw[Em]at ha;obtain⟨t,ht,e⟩:=ha;rw[Mi]at e;rw[e]at ht;exact k2 (h.env.tags _ x hx _ ht)
       rw[this,Bo]
     ·rw[Ee hk4,Bj]
 ·unfold Db;rw[Ae hk,Ae hk]
structure PBack (σ:W)(a b:PHead × W)(r:Rp):Prop where
 eq:b.1=a.1
 lik:Lik a.2 b.2
 num:Incr σ.has σ.count a.1.own a.2.count
 len:(if r.name=ByteArray.empty then [] else [r.name]).length=a.1.own.length
 names:(if a.1.rep.name=ByteArray.empty then [] else [a.1.rep.name])=a.1.own.map (·.fresh)
 tags:∀ x∈a.1.own,x.tags=[]
 none:r.name=ByteArray.empty->a.1.rep=r/\a.1.own=[]
theorem Lik.phead {σ τ:W}(h:Lik σ τ)(kind:Int)(name:ByteArray)(chan:Ex)(targets exprs:List Ex)(rep:Rp)(hok:mr9 kind chan exprs rep)(hF:jw8 (Fz σ kind name chan targets exprs rep).2):
 PBack σ (Fz σ kind name chan targets exprs rep) (Fz τ kind (Fz σ kind name chan targets exprs rep).1.name (Fz σ kind name chan targets exprs rep).1.chan (Fz σ kind name chan targets exprs rep).1.targets (Fz σ kind name chan targets exprs rep).1.exprs (Fz σ kind name chan targets exprs rep).1.rep) rep:=by
 have ga:Grow σ (if kind=17 then nameOf σ name else (name,σ)).2 1:=by
  split
  ·exact Ia σ name
  ·exact Grow.refl _ _
 have ba:jw8 (if kind=17 then nameOf σ name else (name,σ)).2->Back (if kind=17 then nameOf σ name else (name,σ)) (if kind=17 then nameOf τ (if kind=17 then nameOf σ name else (name,σ)).1 else ((if kind=17 then nameOf σ name else (name,σ)).1,τ)):=by
  intro hF;split
  ·rename_i hk;rw[Ad hk]at hF;exact h.name name hF
  ·exact⟨rfl,h⟩
 unfold Fz at *;dsimp only at *;generalize (if kind=17 then nameOf σ name else (name,σ))=a at ga ba hF ⊢;have gc:=Cy chan a.2;have gt:=Dz targets (Cj a.2 chan).2;have gx:=Ib (Db σ.env kind chan exprs) (v7 Cj (Cj a.2 chan).2 targets).2 exprs;have gr:=mq9 (Du (Db σ.env kind chan exprs) (v7 Cj (Cj a.2 chan).2 targets).2 exprs).2 rep;have F4:=gr.fine hF;have F3:=gx.fine F4;have F2:=gt.fine F3;have F1:=gc.fine F2;have ha:=ba F1;have hc:=jh3 chan _ _ ha.lik F2;have ht:=jj5 targets hc.lik F3;have htag:Db τ.env kind (Cj a.2 chan).1 (Du (Db σ.env kind chan exprs) (v7 Cj (Cj a.2 chan).2 targets).2 exprs).1=Db σ.env kind chan exprs:=by
  have e2:=(gt.env.trans gc.env).trans ga.env;refine h.tagged (rep:=rep) hok ga.env e2 (by unfold W.has;rw[ga.tk]) (by unfold W.has;rw[gt.tk,gc.tk,ga.tk]) ?_ fun s x hx=>?_
  ·by_cases hk:kind=5
   ·refine .inl ?_;have hn:=(hok.2 hk).2.1;have:=ha.lik.la chan.s (my0 hn F2);rw[ms0,Ad hn];have ht:(if kind=17 then nameOf τ a.1 else (a.1,τ)).2.env=τ.env:=by
     rw[Ae (by omega)]
    rw[ht,ga.env]at this;exact this
   ·exact .inr hk
  ·rw[e2]at hx;obtain⟨k,h1,_,h3⟩:=h.env.num s x hx;exact⟨k,h1,h3⟩
 rw[htag];have hx:=qx0 (Db σ.env kind chan exprs) exprs ht.lik F4;have hr:=hx.lik.rep rep hF;have hh:(Du (Db σ.env kind chan exprs) (v7 Cj (Cj a.2 chan).2 targets).2 exprs).2.has=σ.has:=by unfold W.has;rw[gx.tk,gt.tk,gc.tk,ga.tk]
 have hcn:σ.count<=(Du (Db σ.env kind chan exprs) (v7 Cj (Cj a.2 chan).2 targets).2 exprs).2.count:=by
  have p0:=h.pos;have p1:=ga.lo p0;have p2:=gc.lo (by omega);have p3:=gt.lo (by omega);have p4:=gx.lo (by omega);omega
 have hnum:=hr.num;rw[hh]at hnum;refine⟨?_,hr.lik,hnum.mono hcn,hr.len,hr.names,hr.tags,fun h=>by
  have:=hr.none h;rw[this];exact⟨rfl,rfl⟩⟩
 rw[ha.eq,hc.eq,ht.eq,hx.eq,hr.eq]
mutual
def Sn:Pr->Prop
 |.mk kind _ chan _ exprs rep guards l _ (.mk sk st sn se spp sf sb)=>mr9 kind chan exprs rep/\(kind≠18->Sp.mk sk st sn se spp sf sb=sp0)/\(∀ s∈sn,s≠ByteArray.empty)/\(∀ f∈sf,f.name≠ByteArray.empty)/\Qb sb/\Ry guards/\Qb l
def Qb:List Pr->Prop
 |[]=>True
 |p::l=>Sn p/\Qb l
def Wn:Gu->Prop
 |.mk _ _ _ _ _ _ _ body=>Qb body
def Ry:List Gu->Prop
 |[]=>True
 |g::l=>Wn g/\Ry l
end
mutual
def Dt:Pr->List ByteArray
 |.mk _ _ _ _ _ _ guards l _ (.mk _ _ _ _ spp _ sb)=>spp.l.map (·.tag)++(Jz sb++(Ki guards++Jz l))
def Jz:List Pr->List ByteArray
 |[]=>[]
 |p::l=>Dt p++Jz l
def Jf:Gu->List ByteArray
 |.mk _ name _ _ _ _ _ body=>name::Jz body
def Ki:List Gu->List ByteArray
 |[]=>[]
 |g::l=>Jf g++Ki l
end
theorem Lik.pushed {σ τ a b:W}(h:Lik σ τ)(hab:Lik a b){n:Nat}(g:a.tk=σ.tk){c d:Int}(hc:σ.count<=c){ns:List ByteArray}{xs:List Ent}(hl:ns.length=xs.length)(hi:Incr σ.has c xs d)(hd:d<=a.count)(ht:∀ x∈xs,∀ t∈x.tags,σ.has t):
 Lik {a with env:=Cm σ.env ns xs} {b with env:=Cm τ.env (xs.map (·.fresh)) xs}:=by
 refine⟨?_,hab.count,hab.pos,hab.ev,hab.has⟩;have:=(Qx.push ns hl (h.env.mono hc) hi ht).mono hd;show Qx a.has a.count _ _
 rwa [show a.has=σ.has by unfold W.has;rw[g]]
theorem Lik.back {σ τ a b:W}(h:Lik σ τ)(hab:Lik a b)(g:a.tk=σ.tk)(hc:σ.count<=a.count):Lik {a with env:=σ.env} {b with env:=τ.env}:=by
 refine⟨?_,hab.count,hab.pos,hab.ev,hab.has⟩;show Qx a.has a.count _ _;rw[show a.has=σ.has by unfold W.has;rw[g]];exact h.env.mono hc
mutual
theorem qg7:∀ (p:Pr) (σ τ:W),Lik σ τ->Sn p->(∀ t∈Dt p,σ.has t)->jw8 (Fx σ p).2->Back (Fx σ p) (Fx τ (Fx σ p).1)
 |.mk kind name chan targets exprs rep guards l procs (.mk sk st sn se spp sf sb),σ,τ,h,hok,htg,hF=>by
  simp only[Sn]at hok;simp only[Dt,Ap]at htg;obtain⟨hn,_,_,_,hsb,hgu,hpl⟩:=hok;have gh:=Nt σ kind name chan targets exprs rep;have bh:=h.phead kind name chan targets exprs rep hn;simp only[Fx]at hF ⊢;generalize Fz σ kind name chan targets exprs rep=a at gh bh hF ⊢;have p0:=h.pos;have q1:=gh.lo p0;by_cases hk:kind=18
  ·rw[Ad hk]at hF ⊢;simp only[Fx];rw[Ad hk];have gs:=Nh a.2 (.mk sk st sn se spp sf []);have bs:=fun(τ:W) (h:Lik a.2 τ)=>h.head sk st sn se spp sf;generalize Gl a.2 (.mk sk st sn se spp sf [])=s at gs bs hF ⊢;have q2:=gs.lo (by omega);have gb:=Gy sb {s.2 with env:=Cm σ.env (sf.map (·.name)) s.1.inner};have bb:=jw9 sb {s.2 with env:=Cm σ.env (sf.map (·.name)) s.1.inner};generalize Ga {s.2 with env:=Cm σ.env (sf.map (·.name)) s.1.inner} sb=b at gb bb hF ⊢;have q3:=gb.lo (by dsimp only;omega);have gg:=Ir guards {b.2 with env:=Cm σ.env sn s.1.own};have bg:=kv8 guards {b.2 with env:=Cm σ.env sn s.1.own};generalize Gm {b.2 with env:=Cm σ.env sn s.1.own} guards=g at gg bg hF ⊢;have q4:=gg.lo (by dsimp only at q3 ⊢;omega);have gm:=Gy l g.2;have bm:=jw9 l g.2;generalize Ga g.2 l=m at gm bm hF ⊢;have q5:=gm.lo (by dsimp only at q3 q4 ⊢;omega);have Fm:jw8 m.2:=hF;have Fg:=gm.fine Fm;have Fb:jw8 b.2:=gg.fine Fg;have Fs:jw8 s.2:=gb.fine Fb;have Fa:=gs.fine Fs;have kh:∀ (υ:W),υ.tk=σ.tk->∀ s,υ.has s↔σ.has s:=fun υ e s=>by unfold W.has;rw[e]
   have ta:=gh.tk;have ts:=gs.tk.trans ta;have tb:b.2.tk=σ.tk:=gb.tk.trans ts;have tg:g.2.tk=σ.tk:=gg.tk.trans tb;have tm:=gm.tk.trans tg;have ba:=bh Fa;generalize Fz τ kind a.1.name a.1.chan a.1.targets a.1.exprs a.1.rep=a' at ba ⊢;have bs:=bs _ ba.lik Fs fun v hv=>(kh _ ta _).2 (htg _ (.inl (Bl.2 ⟨v,hv,rfl⟩)));have hsp:Sp.mk sk s.1.type s.1.names s.1.e spp s.1.formals []=s.1.sp sk spp:=rfl;rw[hsp];generalize Gl a'.2 (s.1.sp sk spp)=s' at bs ⊢;obtain⟨c,i1,i2⟩:=bs.mid;have hha:a.2.has=σ.has:=by unfold W.has;rw[ta]
   rw[hha]at i1 i2;have hc1:=i1.le;have hc2:=i2.le;rw[bs.eq,bs.fnames,bs.names];have lb:=h.pushed (n:=0) bs.lik ts (c:=c) (by omega) (ns:=sf.map (·.name)) (by rw[Ab];exact bs.innerL) i2 (Ed _) fun x hx t ht=>(kh _ ta _).1 (bs.tags x (.inr hx) t ht);have bb:=bb _ lb hsb (fun t ht=>(kh _ ts _).2 (htg t (.inr (.inl ht)))) Fb;generalize Ga {s'.2 with env:=Cm τ.env (s.1.inner.map (·.fresh)) s.1.inner} b.1=b' at bb ⊢;have lg:=h.pushed (n:=0) bb.lik tb (c:=a.2.count) q1 (ns:=sn) bs.ownL i1 (by dsimp only at q3;omega) fun x hx t ht=>(kh _ ta _).1 (bs.tags x (.inl hx) t ht);have bg:=bg _ lg hgu (fun t ht=>(kh _ tb _).2 (htg t (.inr (.inr (.inl ht))))) Fg;generalize Gm {b'.2 with env:=Cm τ.env (s.1.own.map (·.fresh)) s.1.own} g.1=g' at bg ⊢;have bm:=bm _ bg.lik hpl (fun t ht=>(kh _ tg _).2 (htg t (.inr (.inr (.inr ht))))) Fm;generalize Ga g'.2 m.1=m' at bm ⊢;refine⟨?_,?_⟩
   ·dsimp only;rw[ba.eq,bb.eq,bg.eq,bm.eq]
   ·dsimp only at q3 q4 ⊢;exact h.back bm.lik tm (by omega)
  ·rw[Ae hk]at hF ⊢;simp only[Fx];rw[Ae hk];have gg:=Ir guards {a.2 with env:=Cm σ.env (if rep.name=ByteArray.empty then [] else [rep.name]) a.1.own};have bg:=kv8 guards {a.2 with env:=Cm σ.env (if rep.name=ByteArray.empty then [] else [rep.name]) a.1.own};generalize Gm {a.2 with env:=Cm σ.env (if rep.name=ByteArray.empty then [] else [rep.name]) a.1.own} guards=g at gg bg hF ⊢;have q4:=gg.lo (by dsimp only;omega);have gm:=Gy l g.2;have bm:=jw9 l g.2;generalize Ga g.2 l=m at gm bm hF ⊢;have q5:=gm.lo (by dsimp only at q4 ⊢;omega);have Fm:jw8 m.2:=hF;have Fg:=gm.fine Fm;have Fa:jw8 a.2:=gg.fine Fg;have kh:∀ (υ:W),υ.tk=σ.tk->∀ s,υ.has s↔σ.has s:=fun υ e s=>by unfold W.has;rw[e]
   have ta:=gh.tk;have tg:g.2.tk=σ.tk:=gg.tk.trans ta;have tm:=gm.tk.trans tg;have ba:=bh Fa;generalize Fz τ kind a.1.name a.1.chan a.1.targets a.1.exprs a.1.rep=a' at ba ⊢;rw[ba.eq,ba.names];have lg:=h.pushed (n:=0) ba.lik ta (c:=σ.count) (Ed _) ba.len ba.num (Ed _) fun x hx t ht=>(by rw[ba.tags x hx]at ht;cases ht);have bg:=bg _ lg hgu (fun t ht=>(kh _ ta _).2 (htg t (.inr (.inr (.inl ht))))) Fg;generalize Gm {a'.2 with env:=Cm τ.env (a.1.own.map (·.fresh)) a.1.own} g.1=g' at bg ⊢;have bm:=bm _ bg.lik hpl (fun t ht=>(kh _ tg _).2 (htg t (.inr (.inr (.inr ht))))) Fm;generalize Ga g'.2 m.1=m' at bm ⊢;refine⟨?_,?_⟩
   ·dsimp only;rw[bg.eq,bm.eq]
   ·dsimp only at q4 ⊢;exact h.back bm.lik tm (by omega)
theorem jw9:∀ (l:List Pr) (σ τ:W),Lik σ τ->Qb l->(∀ t∈Jz l,σ.has t)->jw8 (Ga σ l).2->Back (Ga σ l) (Ga τ (Ga σ l).1)
 |[],_,_,h,_,_,_=>by simp only[Ga];exact⟨rfl,h⟩
 |e::l,σ,τ,h,hok,htg,hF=>by
  simp only[Qb]at hok;simp only[Jz,Ap]at htg;simp only[Ga]at hF ⊢;have g1:=Ll e σ;have h1:=qg7 e σ τ h hok.1 (fun t ht=>htg t (.inl ht)) ((Gy l _).fine hF);have h2:=jw9 l _ _ h1.lik hok.2 (fun t ht=>(g1.hs t).2 (htg t (.inr ht))) hF;exact⟨by rw[h1.eq,h2.eq],h2.lik⟩
theorem rl3:∀ (p:Gu) (σ τ:W),Lik σ τ->Wn p->(∀ t∈Jf p,σ.has t)->jw8 (Iu σ p).2->Back (Iu σ p) (Iu τ (Iu σ p).1)
 |.mk kind name cond chan targets values time body,σ,τ,h,hok,htg,hF=>by
  simp only[Wn]at hok;simp only[Jf,Bc]at htg;simp only[Iu]at hF ⊢;have g1:=Nr σ cond chan targets values time;have h1:=h.ghead cond chan targets values time ((Gy body _).fine hF);have h2:=jw9 body _ _ h1.lik hok (fun t ht=>(g1.hs t).2 (htg t (.inr ht))) hF;exact⟨by rw[h1.eq,h2.eq],h2.lik⟩
theorem kv8:∀ (l:List Gu) (σ τ:W),Lik σ τ->Ry l->(∀ t∈Ki l,σ.has t)->jw8 (Gm σ l).2->Back (Gm σ l) (Gm τ (Gm σ l).1)
 |[],_,_,h,_,_,_=>by simp only[Gm];exact⟨rfl,h⟩
 |e::l,σ,τ,h,hok,htg,hF=>by
  simp only[Ry]at hok;simp only[Ki,Ap]at htg;simp only[Gm]at hF ⊢;have g1:=ml8 e σ;have h1:=rl3 e σ τ h hok.1 (fun t ht=>htg t (.inl ht)) ((Ir l _).fine hF);have h2:=kv8 l _ _ h1.lik hok.2 (fun t ht=>(g1.hs t).2 (htg t (.inr ht))) hF;exact⟨by rw[h1.eq,h2.eq],h2.lik⟩
end
end Sc
end
section
def Ke:List Nat:=[0,1,4,5,7,10,14,15,16,17]
attribute [local irreducible] TR TC
theorem kv9 (gl:List (Nat × List D))(k:Sc.Kind)(l:List Gu)(σ:Sc.W)(hl:l.length<=1000000000)
 (h1:∀ (j:Nat) (hj:j<l.length),FnE prog gl 57 [.ptr 900 0,.d (dGu l[j])] (HW k (v7 Sc.Iu σ (l.take j)).2)
   (fun v H1=>v=.d (dGu (Sc.Iu (v7 Sc.Iu σ (l.take j)).2 l[j]).1)/\H1=HW k (Sc.Iu (v7 Sc.Iu σ (l.take j)).2 l[j]).2)):
 FnE prog gl 56 [.d (.list 23 (l.map dGu)),.clo (.func 57) [.ptr 900 0] []] (HW k σ)
  (fun v H1=>v=.d (.list 23 ((v7 Sc.Iu σ l).1.map dGu))/\H1=HW k (v7 Sc.Iu σ l).2):=by
 simp only[jd7]at h1 ⊢;cases k
 all_goals dsimp only[HW,ja0,z6]at h1 ⊢
 case free=>
  (refine j2 func56 ntmps56 results56 fun w M E b0=>?_)
  (repeat' first|refine Ca 13 ?_;(refine jc1 13 ?_)|refine yyp ?_;try refine Ce ?_ ?_<;>intro hb|refine yy ?_|refine yy2 ?_ ?_<;>intro hcmp|refine at_nil ?_;refine Cc Ke ?_|refine Cb fun K hK=>?_|apply_assumption -exfalso -symm)
  ·have h0:l=[]:=Ar (by omega);subst h0
   (refine j1 (j4 ⟨?_,rfl⟩))
   rfl
  refine ji2 (fun x:Nat × Nat=>⟨[(16,.d (.int .i64 x.1)),(15,.d (.int .i64 l.length)),(14,.d (.list 23 (l.map dG))),(5,.own 13 x.2),(1,.clo (.func 57) [.ptr 900 0] [])],(13,.row 93 23 true ((v7 Sc.Iu σ (l.take x.1)).1.map dG) x.2)::HW .free (v7 Sc.Iu σ (l.take x.1)).2,gl⟩)
   (fun x=>x.1<=l.length) (fun x=>l.length - x.1) (0,0) (Ai _) k8 fun⟨j,kv⟩ hj=>?_
  dsimp only[HW,ja0,z6]at hj ⊢;have hlen:=n8 Sc.Iu (l.take j) σ;simp only[Aj]at hlen;rcases Ah j l.length with hj2|hj2
  ·have hone:=h1 j hj2
   (repeat' first|refine Ca 7 ?_;(refine j3 7 ?_)|refine Ca 23 ?_;refine Cg (hc:=hone) ?_|refine Ca 24 ?_;(refine Dn 24 ?_)|refine yyp ?_;try refine Ce ?_ ?_<;>intro hb|refine yy ?_|(refine Da ?_;first|(refine Df (fun kv=>?_))|(refine z_append_suf (fun sx sp kv hsx hsp hsl=>?_)))|refine at_nil ?_;refine Cc Ke ?_|refine Cb fun K hK=>?_|apply_assumption -exfalso -symm)
   refine⟨(j+1,kv),by dsimp only;omega,by dsimp only;omega,?_⟩;dsimp only;rw[g9 Sc.Iu l σ j hj2];simp only[As,Aq,Ax];exact k8
  (repeat' first|refine yyp ?_;try refine Ce ?_ ?_<;>intro hb|refine yy ?_|refine at_nil ?_;refine Cc Ke ?_|refine Cb fun K hK=>?_|apply_assumption -exfalso -symm)
  have hjl:j=l.length:=by omega
  subst hjl;rw[Bg]
  (refine j1 (j4 ⟨?_,rfl⟩))
  rfl
 case check ns=>
  (refine j2 func56 ntmps56 results56 fun w M E b0=>?_)
  (repeat' first|refine Ca 13 ?_;(refine jc1 13 ?_)|refine yyp ?_;try refine Ce ?_ ?_<;>intro hb|refine yy ?_|refine yy2 ?_ ?_<;>intro hcmp|refine at_nil ?_;refine Cc Ke ?_|refine Cb fun K hK=>?_|apply_assumption -exfalso -symm)
  ·have h0:l=[]:=Ar (by omega);subst h0
   (refine j1 (j4 ⟨?_,rfl⟩))
   rfl
  refine ji2 (fun x:Nat × Nat=>⟨[(16,.d (.int .i64 x.1)),(15,.d (.int .i64 l.length)),(14,.d (.list 23 (l.map dG))),(5,.own 13 x.2),(1,.clo (.func 57) [.ptr 900 0] [])],(13,.row 93 23 true ((v7 Sc.Iu σ (l.take x.1)).1.map dG) x.2)::HW (.check ns) (v7 Sc.Iu σ (l.take x.1)).2,gl⟩)
   (fun x=>x.1<=l.length) (fun x=>l.length - x.1) (0,0) (Ai _) k8 fun⟨j,kv⟩ hj=>?_
  dsimp only[HW,ja0,z6]at hj ⊢;have hlen:=n8 Sc.Iu (l.take j) σ;simp only[Aj]at hlen;rcases Ah j l.length with hj2|hj2
  ·have hone:=h1 j hj2
   (repeat' first|refine Ca 7 ?_;(refine j3 7 ?_)|refine Ca 23 ?_;refine Cg (hc:=hone) ?_|refine Ca 24 ?_;(refine Dn 24 ?_)|refine yyp ?_;try refine Ce ?_ ?_<;>intro hb|refine yy ?_|(refine Da ?_;first|(refine Df (fun kv=>?_))|(refine z_append_suf (fun sx sp kv hsx hsp hsl=>?_)))|refine at_nil ?_;refine Cc Ke ?_|refine Cb fun K hK=>?_|apply_assumption -exfalso -symm)
   refine⟨(j+1,kv),by dsimp only;omega,by dsimp only;omega,?_⟩;dsimp only;rw[g9 Sc.Iu l σ j hj2];simp only[As,Aq,Ax];exact k8
  (repeat' first|refine yyp ?_;try refine Ce ?_ ?_<;>intro hb|refine yy ?_|refine at_nil ?_;refine Cc Ke ?_|refine Cb fun K hK=>?_|apply_assumption -exfalso -symm)
  have hjl:j=l.length:=by omega
  subst hjl;rw[Bg]
  (refine j1 (j4 ⟨?_,rfl⟩))
  rfl
 case none=>
  (refine j2 func56 ntmps56 results56 fun w M E b0=>?_)
  (repeat' first|refine Ca 13 ?_;(refine jc1 13 ?_)|refine yyp ?_;try refine Ce ?_ ?_<;>intro hb|refine yy ?_|refine yy2 ?_ ?_<;>intro hcmp|refine at_nil ?_;refine Cc Ke ?_|refine Cb fun K hK=>?_|apply_assumption -exfalso -symm)
  ·have h0:l=[]:=Ar (by omega);subst h0
   (refine j1 (j4 ⟨?_,rfl⟩))
   rfl
  refine ji2 (fun x:Nat × Nat=>⟨[(16,.d (.int .i64 x.1)),(15,.d (.int .i64 l.length)),(14,.d (.list 23 (l.map dG))),(5,.own 13 x.2),(1,.clo (.func 57) [.ptr 900 0] [])],(13,.row 93 23 true ((v7 Sc.Iu σ (l.take x.1)).1.map dG) x.2)::HW .none (v7 Sc.Iu σ (l.take x.1)).2,gl⟩)
   (fun x=>x.1<=l.length) (fun x=>l.length - x.1) (0,0) (Ai _) k8 fun⟨j,kv⟩ hj=>?_
  dsimp only[HW,ja0,z6]at hj ⊢;have hlen:=n8 Sc.Iu (l.take j) σ;simp only[Aj]at hlen;rcases Ah j l.length with hj2|hj2
  ·have hone:=h1 j hj2
   (repeat' first|refine Ca 7 ?_;(refine j3 7 ?_)|refine Ca 23 ?_;refine Cg (hc:=hone) ?_|refine Ca 24 ?_;(refine Dn 24 ?_)|refine yyp ?_;try refine Ce ?_ ?_<;>intro hb|refine yy ?_|(refine Da ?_;first|(refine Df (fun kv=>?_))|(refine z_append_suf (fun sx sp kv hsx hsp hsl=>?_)))|refine at_nil ?_;refine Cc Ke ?_|refine Cb fun K hK=>?_|apply_assumption -exfalso -symm)
   refine⟨(j+1,kv),by dsimp only;omega,by dsimp only;omega,?_⟩;dsimp only;rw[g9 Sc.Iu l σ j hj2];simp only[As,Aq,Ax];exact k8
  (repeat' first|refine yyp ?_;try refine Ce ?_ ?_<;>intro hb|refine yy ?_|refine at_nil ?_;refine Cc Ke ?_|refine Cb fun K hK=>?_|apply_assumption -exfalso -symm)
  have hjl:j=l.length:=by omega
  subst hjl;rw[Bg]
  (refine j1 (j4 ⟨?_,rfl⟩))
  rfl
theorem kk1 (gl:List (Nat × List D))(k:Sc.Kind)(l:List Pr)(σ:Sc.W)(hl:l.length<=1000000000)
 (h1:∀ (j:Nat) (hj:j<l.length),FnE prog gl 31 [.ptr 900 0,.d (dPr l[j])] (HW k (v7 Sc.Fx σ (l.take j)).2)
   (fun v H1=>v=.d (dPr (Sc.Fx (v7 Sc.Fx σ (l.take j)).2 l[j]).1)/\H1=HW k (Sc.Fx (v7 Sc.Fx σ (l.take j)).2 l[j]).2)):
 FnE prog gl 58 [.d (.list 42 (l.map dPr)),.clo (.func 31) [.ptr 900 0] []] (HW k σ)
  (fun v H1=>v=.d (.list 42 ((v7 Sc.Fx σ l).1.map dPr))/\H1=HW k (v7 Sc.Fx σ l).2):=by
 simp only[j9]at h1 ⊢;cases k
 all_goals dsimp only[HW,ja0,z6]at h1 ⊢
 case free=>
  (refine j2 func58 ntmps58 results58 fun w M E b0=>?_)
  (repeat' first|refine Ca 13 ?_;(refine jc1 13 ?_)|refine yyp ?_;try refine Ce ?_ ?_<;>intro hb|refine yy ?_|refine yy2 ?_ ?_<;>intro hcmp|refine at_nil ?_;refine Cc Ke ?_|refine Cb fun K hK=>?_|apply_assumption -exfalso -symm)
  ·have h0:l=[]:=Ar (by omega);subst h0
   (refine j1 (j4 ⟨?_,rfl⟩))
   rfl
  refine ji2 (fun x:Nat × Nat=>⟨[(16,.d (.int .i64 x.1)),(15,.d (.int .i64 l.length)),(14,.d (.list 42 (l.map dP))),(5,.own 13 x.2),(1,.clo (.func 31) [.ptr 900 0] [])],(13,.row 45 42 true ((v7 Sc.Fx σ (l.take x.1)).1.map dP) x.2)::HW .free (v7 Sc.Fx σ (l.take x.1)).2,gl⟩)
   (fun x=>x.1<=l.length) (fun x=>l.length - x.1) (0,0) (Ai _) k8 fun⟨j,kv⟩ hj=>?_
  dsimp only[HW,ja0,z6]at hj ⊢;have hlen:=n8 Sc.Fx (l.take j) σ;simp only[Aj]at hlen;rcases Ah j l.length with hj2|hj2
  ·have hone:=h1 j hj2
   (repeat' first|refine Ca 7 ?_;(refine j3 7 ?_)|refine Ca 23 ?_;refine Cg (hc:=hone) ?_|refine Ca 24 ?_;(refine Dn 24 ?_)|refine yyp ?_;try refine Ce ?_ ?_<;>intro hb|refine yy ?_|(refine Da ?_;first|(refine Df (fun kv=>?_))|(refine z_append_suf (fun sx sp kv hsx hsp hsl=>?_)))|refine at_nil ?_;refine Cc Ke ?_|refine Cb fun K hK=>?_|apply_assumption -exfalso -symm)
   refine⟨(j+1,kv),by dsimp only;omega,by dsimp only;omega,?_⟩;dsimp only;rw[g9 Sc.Fx l σ j hj2];simp only[As,Aq,Ax];exact k8
  (repeat' first|refine yyp ?_;try refine Ce ?_ ?_<;>intro hb|refine yy ?_|refine at_nil ?_;refine Cc Ke ?_|refine Cb fun K hK=>?_|apply_assumption -exfalso -symm)
  have hjl:j=l.length:=by omega
  subst hjl;rw[Bg]
  (refine j1 (j4 ⟨?_,rfl⟩))
  rfl
 case check ns=>
  (refine j2 func58 ntmps58 results58 fun w M E b0=>?_)
  (repeat' first|refine Ca 13 ?_;(refine jc1 13 ?_)|refine yyp ?_;try refine Ce ?_ ?_<;>intro hb|refine yy ?_|refine yy2 ?_ ?_<;>intro hcmp|refine at_nil ?_;refine Cc Ke ?_|refine Cb fun K hK=>?_|apply_assumption -exfalso -symm)
  ·have h0:l=[]:=Ar (by omega);subst h0
   (refine j1 (j4 ⟨?_,rfl⟩))
   rfl
  refine ji2 (fun x:Nat × Nat=>⟨[(16,.d (.int .i64 x.1)),(15,.d (.int .i64 l.length)),(14,.d (.list 42 (l.map dP))),(5,.own 13 x.2),(1,.clo (.func 31) [.ptr 900 0] [])],(13,.row 45 42 true ((v7 Sc.Fx σ (l.take x.1)).1.map dP) x.2)::HW (.check ns) (v7 Sc.Fx σ (l.take x.1)).2,gl⟩)
   (fun x=>x.1<=l.length) (fun x=>l.length - x.1) (0,0) (Ai _) k8 fun⟨j,kv⟩ hj=>?_
  dsimp only[HW,ja0,z6]at hj ⊢;have hlen:=n8 Sc.Fx (l.take j) σ;simp only[Aj]at hlen;rcases Ah j l.length with hj2|hj2
  ·have hone:=h1 j hj2
   (repeat' first|refine Ca 7 ?_;(refine j3 7 ?_)|refine Ca 23 ?_;refine Cg (hc:=hone) ?_|refine Ca 24 ?_;(refine Dn 24 ?_)|refine yyp ?_;try refine Ce ?_ ?_<;>intro hb|refine yy ?_|(refine Da ?_;first|(refine Df (fun kv=>?_))|(refine z_append_suf (fun sx sp kv hsx hsp hsl=>?_)))|refine at_nil ?_;refine Cc Ke ?_|refine Cb fun K hK=>?_|apply_assumption -exfalso -symm)
   refine⟨(j+1,kv),by dsimp only;omega,by dsimp only;omega,?_⟩;dsimp only;rw[g9 Sc.Fx l σ j hj2];simp only[As,Aq,Ax];exact k8
  (repeat' first|refine yyp ?_;try refine Ce ?_ ?_<;>intro hb|refine yy ?_|refine at_nil ?_;refine Cc Ke ?_|refine Cb fun K hK=>?_|apply_assumption -exfalso -symm)
  have hjl:j=l.length:=by omega
  subst hjl;rw[Bg]
  (refine j1 (j4 ⟨?_,rfl⟩))
  rfl
 case none=>
  (refine j2 func58 ntmps58 results58 fun w M E b0=>?_)
  (repeat' first|refine Ca 13 ?_;(refine jc1 13 ?_)|refine yyp ?_;try refine Ce ?_ ?_<;>intro hb|refine yy ?_|refine yy2 ?_ ?_<;>intro hcmp|refine at_nil ?_;refine Cc Ke ?_|refine Cb fun K hK=>?_|apply_assumption -exfalso -symm)
  ·have h0:l=[]:=Ar (by omega);subst h0
   (refine j1 (j4 ⟨?_,rfl⟩))
   rfl
  refine ji2 (fun x:Nat × Nat=>⟨[(16,.d (.int .i64 x.1)),(15,.d (.int .i64 l.length)),(14,.d (.list 42 (l.map dP))),(5,.own 13 x.2),(1,.clo (.func 31) [.ptr 900 0] [])],(13,.row 45 42 true ((v7 Sc.Fx σ (l.take x.1)).1.map dP) x.2)::HW .none (v7 Sc.Fx σ (l.take x.1)).2,gl⟩)
   (fun x=>x.1<=l.length) (fun x=>l.length - x.1) (0,0) (Ai _) k8 fun⟨j,kv⟩ hj=>?_
  dsimp only[HW,ja0,z6]at hj ⊢;have hlen:=n8 Sc.Fx (l.take j) σ;simp only[Aj]at hlen;rcases Ah j l.length with hj2|hj2
  ·have hone:=h1 j hj2
   (repeat' first|refine Ca 7 ?_;(refine j3 7 ?_)|refine Ca 23 ?_;refine Cg (hc:=hone) ?_|refine Ca 24 ?_;(refine Dn 24 ?_)|refine yyp ?_;try refine Ce ?_ ?_<;>intro hb|refine yy ?_|(refine Da ?_;first|(refine Df (fun kv=>?_))|(refine z_append_suf (fun sx sp kv hsx hsp hsl=>?_)))|refine at_nil ?_;refine Cc Ke ?_|refine Cb fun K hK=>?_|apply_assumption -exfalso -symm)
   refine⟨(j+1,kv),by dsimp only;omega,by dsimp only;omega,?_⟩;dsimp only;rw[g9 Sc.Fx l σ j hj2];simp only[As,Aq,Ax];exact k8
  (repeat' first|refine yyp ?_;try refine Ce ?_ ?_<;>intro hb|refine yy ?_|refine at_nil ?_;refine Cc Ke ?_|refine Cb fun K hK=>?_|apply_assumption -exfalso -symm)
  have hjl:j=l.length:=by omega
  subst hjl;rw[Bg]
  (refine j1 (j4 ⟨?_,rfl⟩))
  rfl
end
section
def Oz:List Nat:=[0,1,4,5,7,10,14,15,16,17]
variable {mm:Int}
def ke7 (tag first:Bool)(σ:Sc.W)(e:Ex):Ex × Sc.W:=if tag=true/\first=true then (e,σ) else Cj σ e
theorem kw0 (tag:Bool)(l:List Ex)(σ:Sc.W)(j:Nat)(hj:j<l.length):
 Sc.Du tag σ (l.take (j+1))=((Sc.Du tag σ (l.take j)).1++[(ke7 tag (!(tag && decide (0<j))) (Sc.Du tag σ (l.take j)).2 l[j]).1],(ke7 tag (!(tag && decide (0<j))) (Sc.Du tag σ (l.take j)).2 l[j]).2):=by
 cases l with
 |nil=>simp at hj
 |cons e l=>
  cases tag with
  |false=>
   have e2:∀ (υ:Sc.W) (x:List Ex),Sc.Du false υ x=v7 Cj υ x:=fun _ x=>by cases x<;>rfl
   rw[e2,e2,g9 Cj (e::l) σ j hj];unfold ke7;simp
  |true=>
   cases j with
   |zero=>simp[Sc.Du,ke7,v7]
   |succ j=>
    have hj':j<l.length:=by simpa using hj
    have:=g9 Cj l σ j hj';simp only[Fc,Sc.Du,if_true,this,Ff,ke7];simp
theorem mm5 (tag:Bool)(l:List Ex)(σ:Sc.W):(Sc.Du tag σ l).1.length=l.length:=by
 cases tag with
 |false=>
  rw[show Sc.Du false σ l=v7 Cj σ l by cases l<;>rfl];exact n8 _ _ _
 |true=>
  cases l with
  |nil=>rfl
  |cons e l=>simp[Sc.Du,n8]
attribute [local irreducible] TR TC
theorem mm6 (gl:List (Nat × List D))(k:Sc.Kind)(σ:Sc.W)(tag first:Bool)(e:Ex)
 (he:FnE prog gl 48 [.ptr 900 0,.d (dEx e)] (HW k σ) (fun v H1=>v=.d (dEx (Cj σ e).1)/\H1=HW k (Cj σ e).2)):
 FnE prog gl 50 [.d (dEx e),.ptr 1005 0,.ptr 1006 0,.ptr 1002 0] ((1005,.box [.d (.bool tag)])::(1006,.box [.d (.bool first)])::(1002,.box [.ptr 900 0])::HW k σ)
  (fun v H1=>v=.d (dEx (ke7 tag first σ e).1)/\H1=(1005,.box [.d (.bool tag)])::(1006,.box [.d (.bool (first && !tag))])::(1002,.box [.ptr 900 0])::HW k (ke7 tag first σ e).2):=by
 unfold ke7;simp only[k9]at he ⊢;generalize Cj σ e=r at he ⊢;cases tag<;>cases first
 all_goals simp only[Ba,false_and,and_false,and_self,if_true,if_false,Bool.not_true,Bool.not_false,Bw,Bo,Bi,Bj]
 all_goals cases k
 all_goals dsimp only[HW,ja0,z6]at he ⊢
 all_goals (refine j2 func50 ntmps50 results50 fun w M E b0=>?_)
 all_goals (repeat' first|refine Ca 4 ?_;(refine Cq 4 ?_)|refine Ca 5 ?_;(refine j3 5 ?_)|refine Ca 13 ?_;refine Cg (hc:=he) ?_|refine yyp ?_;try refine Ce ?_ ?_<;>intro hb|refine yy ?_|refine at_nil ?_;refine Cc [0,1,2,3,4,5,6,9,28] ?_|refine Cb fun K hK=>?_|apply_assumption -exfalso -symm)
 all_goals (refine j1 (j4 ⟨?_,rfl⟩))
 all_goals rfl
theorem jb4 (gl:List (Nat × List D))(k:Sc.Kind)(tag:Bool)(l:List Ex)(σ:Sc.W)(hl:l.length<=1000000000)
 (h1:∀ (j:Nat) (hj:j<l.length),FnE prog gl 48 [.ptr 900 0,.d (dEx l[j])] (HW k (Sc.Du tag σ (l.take j)).2)
   (fun v H1=>v=.d (dEx (Cj (Sc.Du tag σ (l.take j)).2 l[j]).1)/\H1=HW k (Cj (Sc.Du tag σ (l.take j)).2 l[j]).2)):
 FnE prog gl 49 [.d (.list 6 (l.map dEx)),.clo (.func 50) [] [.ptr 1005 0,.ptr 1006 0,.ptr 1002 0]] ((1005,.box [.d (.bool tag)])::(1006,.box [.d (.bool true)])::(1002,.box [.ptr 900 0])::HW k σ)
  (fun v H1=>v=.d (.list 6 ((Sc.Du tag σ l).1.map dEx))/\H1=(1005,.box [.d (.bool tag)])::(1006,.box [.d (.bool (!(tag && decide (0<l.length))))])::(1002,.box [.ptr 900 0])::HW k (Sc.Du tag σ l).2):=by
 have h2:=fun j hj=>mm6 gl k (Sc.Du tag σ (l.take j)).2 tag (!(tag && decide (0<j))) (l[j]'hj) (h1 j hj);clear h1;have hft:∀ j,(!(tag && decide (0<j)) && !tag)=!(tag && decide (0<j+1)):=fun j=>by cases tag<;>simp
 simp only[k9,hft]at h2 ⊢;cases k
 all_goals dsimp only[HW,ja0,z6]at h2 ⊢
 case free=>
  (refine j2 func49 ntmps49 results49 fun w M E b0=>?_)
  (repeat' first|refine Ca 13 ?_;(refine jc1 13 ?_)|refine yyp ?_;try refine Ce ?_ ?_<;>intro hb|refine yy ?_|refine yy2 ?_ ?_<;>intro hcmp|refine at_nil ?_;refine Cc Oz ?_|refine Cb fun K hK=>?_|apply_assumption -exfalso -symm)
  ·have h0:l=[]:=Ar (by omega);subst h0;simp only[Av,Nat.lt_irrefl,decide_false,Bo,Bool.not_false]
   (refine j1 (j4 ⟨?_,rfl⟩))
   rfl
  refine ji2 (fun x:Nat × Nat=>⟨[(16,.d (.int .i64 x.1)),(15,.d (.int .i64 l.length)),(14,.d (.list 6 (l.map dE))),(5,.own 13 x.2),(1,.clo (.func 50) [] [.ptr 1005 0,.ptr 1006 0,.ptr 1002 0])],(13,.row 28 6 true ((Sc.Du tag σ (l.take x.1)).1.map dE) x.2)::(1005,.box [.d (.bool tag)])::(1006,.box [.d (.bool (!(tag && decide (0<x.1))))])::(1002,.box [.ptr 900 0])::HW .free (Sc.Du tag σ (l.take x.1)).2,gl⟩)
   (fun x=>x.1<=l.length) (fun x=>l.length - x.1) (0,0) (Ai _) (by simp only[Fq,Sc.Du,Nat.lt_irrefl,decide_false,Bo,Bool.not_false];exact k8) fun⟨j,kv⟩ hj=>?_
  dsimp only[HW,ja0,z6]at hj ⊢;have hlen:=mm5 tag (l.take j) σ;simp only[Aj]at hlen;rcases Ah j l.length with hj2|hj2
  ·have hone:=h2 j hj2
   (repeat' first|refine Ca 7 ?_;(refine j3 7 ?_)|refine Ca 23 ?_;refine Cg (hc:=hone) ?_|refine Ca 24 ?_;(refine Dn 24 ?_)|refine yyp ?_;try refine Ce ?_ ?_<;>intro hb|refine yy ?_|(refine Da ?_;first|(refine Df (fun kv=>?_))|(refine z_append_suf (fun sx sp kv hsx hsp hsl=>?_)))|refine at_nil ?_;refine Cc Oz ?_|refine Cb fun K hK=>?_|apply_assumption -exfalso -symm)
   refine⟨(j+1,kv),by dsimp only;omega,by dsimp only;omega,?_⟩;dsimp only;rw[kw0 tag l σ j hj2];simp only[As,Aq,Ax];exact k8
  (repeat' first|refine yyp ?_;try refine Ce ?_ ?_<;>intro hb|refine yy ?_|refine at_nil ?_;refine Cc Oz ?_|refine Cb fun K hK=>?_|apply_assumption -exfalso -symm)
  have hjl:j=l.length:=by omega
  subst hjl;rw[Bg]
  (refine j1 (j4 ⟨?_,rfl⟩))
  rfl
 case check ns=>
  (refine j2 func49 ntmps49 results49 fun w M E b0=>?_)
  (repeat' first|refine Ca 13 ?_;(refine jc1 13 ?_)|refine yyp ?_;try refine Ce ?_ ?_<;>intro hb|refine yy ?_|refine yy2 ?_ ?_<;>intro hcmp|refine at_nil ?_;refine Cc Oz ?_|refine Cb fun K hK=>?_|apply_assumption -exfalso -symm)
  ·have h0:l=[]:=Ar (by omega);subst h0;simp only[Av,Nat.lt_irrefl,decide_false,Bo,Bool.not_false]
   (refine j1 (j4 ⟨?_,rfl⟩))
   rfl
  refine ji2 (fun x:Nat × Nat=>⟨[(16,.d (.int .i64 x.1)),(15,.d (.int .i64 l.length)),(14,.d (.list 6 (l.map dE))),(5,.own 13 x.2),(1,.clo (.func 50) [] [.ptr 1005 0,.ptr 1006 0,.ptr 1002 0])],(13,.row 28 6 true ((Sc.Du tag σ (l.take x.1)).1.map dE) x.2)::(1005,.box [.d (.bool tag)])::(1006,.box [.d (.bool (!(tag && decide (0<x.1))))])::(1002,.box [.ptr 900 0])::HW (.check ns) (Sc.Du tag σ (l.take x.1)).2,gl⟩)
   (fun x=>x.1<=l.length) (fun x=>l.length - x.1) (0,0) (Ai _) (by simp only[Fq,Sc.Du,Nat.lt_irrefl,decide_false,Bo,Bool.not_false];exact k8) fun⟨j,kv⟩ hj=>?_
  dsimp only[HW,ja0,z6]at hj ⊢;have hlen:=mm5 tag (l.take j) σ;simp only[Aj]at hlen;rcases Ah j l.length with hj2|hj2
  ·have hone:=h2 j hj2
   (repeat' first|refine Ca 7 ?_;(refine j3 7 ?_)|refine Ca 23 ?_;refine Cg (hc:=hone) ?_|refine Ca 24 ?_;(refine Dn 24 ?_)|refine yyp ?_;try refine Ce ?_ ?_<;>intro hb|refine yy ?_|(refine Da ?_;first|(refine Df (fun kv=>?_))|(refine z_append_suf (fun sx sp kv hsx hsp hsl=>?_)))|refine at_nil ?_;refine Cc Oz ?_|refine Cb fun K hK=>?_|apply_assumption -exfalso -symm)
   refine⟨(j+1,kv),by dsimp only;omega,by dsimp only;omega,?_⟩;dsimp only;rw[kw0 tag l σ j hj2];simp only[As,Aq,Ax];exact k8
  (repeat' first|refine yyp ?_;try refine Ce ?_ ?_<;>intro hb|refine yy ?_|refine at_nil ?_;refine Cc Oz ?_|refine Cb fun K hK=>?_|apply_assumption -exfalso -symm)
  have hjl:j=l.length:=by omega
  subst hjl;rw[Bg]
  (refine j1 (j4 ⟨?_,rfl⟩))
  rfl
 case none=>
  (refine j2 func49 ntmps49 results49 fun w M E b0=>?_)
  (repeat' first|refine Ca 13 ?_;(refine jc1 13 ?_)|refine yyp ?_;try refine Ce ?_ ?_<;>intro hb|refine yy ?_|refine yy2 ?_ ?_<;>intro hcmp|refine at_nil ?_;refine Cc Oz ?_|refine Cb fun K hK=>?_|apply_assumption -exfalso -symm)
  ·have h0:l=[]:=Ar (by omega);subst h0;simp only[Av,Nat.lt_irrefl,decide_false,Bo,Bool.not_false]
   (refine j1 (j4 ⟨?_,rfl⟩))
   rfl
  refine ji2 (fun x:Nat × Nat=>⟨[(16,.d (.int .i64 x.1)),(15,.d (.int .i64 l.length)),(14,.d (.list 6 (l.map dE))),(5,.own 13 x.2),(1,.clo (.func 50) [] [.ptr 1005 0,.ptr 1006 0,.ptr 1002 0])],(13,.row 28 6 true ((Sc.Du tag σ (l.take x.1)).1.map dE) x.2)::(1005,.box [.d (.bool tag)])::(1006,.box [.d (.bool (!(tag && decide (0<x.1))))])::(1002,.box [.ptr 900 0])::HW .none (Sc.Du tag σ (l.take x.1)).2,gl⟩)
   (fun x=>x.1<=l.length) (fun x=>l.length - x.1) (0,0) (Ai _) (by simp only[Fq,Sc.Du,Nat.lt_irrefl,decide_false,Bo,Bool.not_false];exact k8) fun⟨j,kv⟩ hj=>?_
  dsimp only[HW,ja0,z6]at hj ⊢;have hlen:=mm5 tag (l.take j) σ;simp only[Aj]at hlen;rcases Ah j l.length with hj2|hj2
  ·have hone:=h2 j hj2
   (repeat' first|refine Ca 7 ?_;(refine j3 7 ?_)|refine Ca 23 ?_;refine Cg (hc:=hone) ?_|refine Ca 24 ?_;(refine Dn 24 ?_)|refine yyp ?_;try refine Ce ?_ ?_<;>intro hb|refine yy ?_|(refine Da ?_;first|(refine Df (fun kv=>?_))|(refine z_append_suf (fun sx sp kv hsx hsp hsl=>?_)))|refine at_nil ?_;refine Cc Oz ?_|refine Cb fun K hK=>?_|apply_assumption -exfalso -symm)
   refine⟨(j+1,kv),by dsimp only;omega,by dsimp only;omega,?_⟩;dsimp only;rw[kw0 tag l σ j hj2];simp only[As,Aq,Ax];exact k8
  (repeat' first|refine yyp ?_;try refine Ce ?_ ?_<;>intro hb|refine yy ?_|refine at_nil ?_;refine Cc Oz ?_|refine Cb fun K hK=>?_|apply_assumption -exfalso -symm)
  have hjl:j=l.length:=by omega
  subst hjl;rw[Bg]
  (refine j1 (j4 ⟨?_,rfl⟩))
  rfl
end
end Go.Proofs.YtklklgfpkpglgaaGreatDoor
