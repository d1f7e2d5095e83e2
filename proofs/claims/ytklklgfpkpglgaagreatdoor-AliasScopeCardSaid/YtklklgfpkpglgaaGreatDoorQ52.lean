/- Parts. -/
import Derived.Test.YtklklgfpkpglgaaGreatDoorQ51
import Derived.Test.YtklklgfpkpglgaaGreatDoorQ42
set_option linter.all false
set_option maxRecDepth 100000
set_option maxHeartbeats 0
namespace Go.Proofs.YtklklgfpkpglgaaGreatDoor
open Go.RowKit Go.Proofs.Tryz Lx
section
variable {mm:Int}
namespace Al
open Lx Sc
mutual
theorem qw8:∀ (e:Ex) (σ:W),(∀ s,σ.env s=[])->j5 σ e=(e,{σ with ev:=σ.ev++(Kg e).map λs=>(s,false)})
 |.mk kind op ty n s l,σ,h=>by
  have h1:aA σ s=(s,Sc.step σ s false):=by
   unfold aA;rw[h s];rfl
  simp only[j5,Kg];by_cases hk:Cz kind=true
  ·rw[Ad hk,Ad hk,h1];dsimp only;rw[Pz l (Sc.step σ s false) h];simp[Sc.step]
  ·rw[Af hk,Af hk];dsimp only;rw[Pz l σ h];simp
theorem Pz:∀ (l:List Ex) (σ:W),(∀ s,σ.env s=[])->y4 σ l=(l,{σ with ev:=σ.ev++(Ii l).map λs=>(s,false)})
 |[],σ,_=>by simp[y4,Ii]
 |e::l,σ,h=>by
  simp only[y4,Ii];rw[qw8 e σ h];dsimp only;rw[Pz l {σ with ev:=σ.ev++(Kg e).map λs=>(s,false)} h];simp
end
noncomputable def tau (tk:List (ByteArray × Int))(x:ByteArray)(e:Ex):W:=⟨Cn (λ_=>[]) [x] [⟨(Co (Sc.start tk)).1,false,[]⟩],tk,(Co (Sc.start tk)).2.count,(Kg e).map λs=>(s,false)⟩
theorem vl8 (tk:List (ByteArray × Int))(k:Int)(x:ByteArray)(e:Ex)(p:Pr)(h4:k≠4):Fz (Sc.start tk) (Gx k x e p)=(Gx k (Co (Sc.start tk)).1 e (Fz (tau tk x e) p).1,{(Fz (tau tk x e) p).2 with env:=λ_=>[]}):=by
 rw[vb0 _ _ _ _ _ h4];dsimp only;rw[qw8 e (Co (Sc.start tk)).2 (λ_=>rfl)];rfl
end Al
end
section
namespace Al
open Lx Sc
mutual
def mEx (ρ:ByteArray->ByteArray):Ex->Ex
 |.mk kind op ty n s l=>.mk kind op ty n (if Cz kind then ρ s else s) (jc2 ρ l)
def jc2 (ρ:ByteArray->ByteArray):List Ex->List Ex
 |[]=>[]
 |e::l=>mEx ρ e::jc2 ρ l
end
theorem kg4 (ρ:ByteArray->ByteArray):∀ l:List Ex,jc2 ρ l=l.map (mEx ρ)
 |[]=>by simp[jc2]
 |e::l=>by simp only[jc2,List.map_cons,kg4 ρ l]
def mTy (ρ:ByteArray->ByteArray)(t:Ty):Ty:={t with aN:=ρ t.aN}
def mFt (ρ:ByteArray->ByteArray)(f:Fo):Fo:={f with type:=mTy ρ f.type}
def mFo (ρ:ByteArray->ByteArray)(f:Fo):Fo:={f with type:=mTy ρ f.type,name:=ρ f.name}
def mRp (ρ:ByteArray->ByteArray)(r:Rp):Rp:=⟨ρ r.name,mEx ρ r.base,mEx ρ r.count⟩
def qw9 (ρ:ByteArray->ByteArray)(x:Ent):Ent:=⟨ρ x.aD,x.aN,x.tags⟩
mutual
def mPr (ρ:ByteArray->ByteArray):Pr->Pr
 |.mk kind name av aj au rep ak l ay (.mk sk st sn se spp sf sb)=>
  .mk kind (if kind=17 then ρ name else name) (mEx ρ av) (jc2 ρ aj) (jc2 ρ au) (mRp ρ rep) (jz4 ρ ak) (Jk ρ l) ay (.mk sk (mTy ρ st) (sn.map ρ) (mEx ρ se) spp (sf.map (mFo ρ)) (Jk ρ sb))
def Jk (ρ:ByteArray->ByteArray):List Pr->List Pr
 |[]=>[]
 |p::l=>mPr ρ p::Jk ρ l
def mGu (ρ:ByteArray->ByteArray):Gu->Gu
 |.mk kind name cond av aj values time body=>.mk kind name (mEx ρ cond) (mEx ρ av) (jc2 ρ aj) (jc2 ρ values) (mEx ρ time) (Jk ρ body)
def jz4 (ρ:ByteArray->ByteArray):List Gu->List Gu
 |[]=>[]
 |g::l=>mGu ρ g::jz4 ρ l
end
def qe7 (f:ByteArray->List Ent)(s:ByteArray):Bool × List ByteArray:=match (f s).getLast? with
 |some x=>(x.aN,x.tags)
 |none=>(false,[])
def atC (tk:List (ByteArray × Int))(c:Int):W:=⟨λ_=>[],tk,c,[]⟩
noncomputable def nxt (tk:List (ByteArray × Int))(c:Int):Int:=(Co (atC tk c)).2.count
structure RhoF (ρ:ByteArray->ByteArray)(tk:List (ByteArray × Int)):Prop where
 fr:∀ c:Int,0<=c->ρ (Co (atC tk c)).1=(Co (atC tk (nxt tk c))).1
 fix:∀ s,s∈tk.map (·.1)->ρ s=s
 emp:ρ ByteArray.empty=ByteArray.empty
variable {ρ:ByteArray->ByteArray}{tk:List (ByteArray × Int)}{z:ByteArray}
structure Qt (ρ:ByteArray->ByteArray)(tk:List (ByteArray × Int))(z:ByteArray)(f g:ByteArray->List Ent):Prop where
 pt:∀ s,qe7 g s=qe7 f s
 nm:∀ s x,(f s).getLast?=some x->∃ y,(g s).getLast?=some y/\y.aD=ρ x.aD
 no:∀ s,s≠z->(f s).getLast?=none->(g s).getLast?=none
 tg:∀ s,∀ t∈(qe7 f s).2,t∈tk.map (·.1)
structure Mv (ρ:ByteArray->ByteArray)(tk:List (ByteArray × Int))(z:ByteArray)(σ τ:W):Prop where
 env:Qt ρ tk z σ.env τ.env
 c0:0<=σ.count
 count:τ.count=nxt tk σ.count
 ev:τ.ev=σ.ev
 tk1:σ.tk=tk
 tk2:τ.tk=tk
theorem Mv.setEnv {σ τ:W}(h:Mv ρ tk z σ τ){e e':ByteArray->List Ent}(he:Qt ρ tk z e e'):Mv ρ tk z {σ with env:=e} {τ with env:=e'}:=⟨he,h.c0,h.count,h.ev,h.tk1,h.tk2⟩
theorem Mv.Vw {σ τ:W}(h:Mv ρ tk z σ τ){e e':List (ByteArray × Bool)}(he:e'=e):Mv ρ tk z {σ with ev:=e} {τ with ev:=e'}:=⟨h.env,h.c0,h.count,he,h.tk1,h.tk2⟩
def jh6 (tk:List (ByteArray × Int))(z:ByteArray)(σ:W):Prop:=∀ s,(s,false)∈σ.ev->s∈tk.map (·.1)/\s≠z
theorem g9 {σ τ:W}{n:Nat}(h:Sc.Grow σ τ n)(hf:jh6 tk z τ):jh6 tk z σ:=λs hs=>hf s (h.pre.subset hs)
structure Bt {α:Type}(ρ:ByteArray->ByteArray)(tk:List (ByteArray × Int))(z:ByteArray)(m:α->α)(a b:α × W):Prop where
 eq:b.1=m a.1
 mv:Mv ρ tk z a.2 b.2
theorem ko3 {σ τ:W}(h:σ.tk=τ.tk)(hc:σ.count=τ.count):(Co σ).1=(Co τ).1/\(Co σ).2.count=(Co τ).2.count:=by
 have hs:=kw7 (σ:=σ) (τ:=τ) (λs=>by unfold W.has;rw[h]);unfold Co;dsimp only;rw[hc,hs];exact⟨rfl,rfl⟩
section
variable (hρ:RhoF ρ tk)
include hρ
theorem Mv.name {σ τ:W}(h:Mv ρ tk z σ τ)(s:ByteArray)(hF:jh6 tk z (aA σ s).2):Bt ρ tk z ρ (aA σ s) (aA τ s):=by
 unfold aA at hF ⊢;cases h1:(σ.env s).getLast? with
 |some x=>
  obtain⟨y,hy,hf⟩:=h.env.nm s x h1;rw[hy];exact⟨hf,h⟩
 |none=>
  rw[h1]at hF;obtain⟨g1,g2⟩:=hF s (by show(s,false)∈σ.ev++[(s,false)];simp);rw[h.env.no s g2 h1];exact⟨(hρ.fix s g1).symm,h.Vw (by rw[h.ev])⟩
theorem Mv.aD {σ τ:W}(h:Mv ρ tk z σ τ):Bt ρ tk z ρ (Co σ) (Co τ):=by
 have h1:=ko3 (σ:=σ) (τ:=atC tk σ.count) h.tk1 rfl;have h2:=ko3 (σ:=τ) (τ:=atC tk (nxt tk σ.count)) h.tk2 h.count;have h3:(Co σ).2.count=nxt tk σ.count:=h1.2;refine⟨?_,h.env,?_,?_,h.ev,h.tk1,h.tk2⟩
 ·rw[h2.1,h1.1,hρ.fr _ h.c0]
 ·have:=(Nl σ).lo h.c0;have:=h.c0;omega
 ·rw[h3,h2.2];rfl
theorem Mv.typed {σ τ:W}(h:Mv ρ tk z σ τ)(t:Ty)(hF:jh6 tk z (Gr σ t).2):Bt ρ tk z (mTy ρ) (Gr σ t) (Gr τ t):=by
 unfold Gr at hF ⊢;split
 ·rename_i h1;refine⟨?_,h⟩;unfold mTy;rw[h1,hρ.emp,<-h1]
 ·rename_i h1;rw[Af h1]at hF;have:=h.name hρ t.aN hF;exact⟨by dsimp only;rw[this.eq];rfl,this.mv⟩
omit hρ in
theorem rq7 {α:Type}{f:W->α->α × W}{N:α->Nat}(m:α->α)(hg:∀ x σ,Sc.Grow σ (f σ x).2 (N x)):∀ (l:List α) (σ τ:W),(∀ x∈l,∀ σ τ,Mv ρ tk z σ τ->jh6 tk z (f σ x).2->Bt ρ tk z m (f σ x) (f τ x))->Mv ρ tk z σ τ->jh6 tk z (z6 f σ l).2->Bt ρ tk z (List.map m) (z6 f σ l) (z6 f τ l)
 |[],_,_,_,h,_=>⟨rfl,h⟩
 |x::l,σ,τ,hf,h,hF=>by
  simp only[z6]at hF ⊢;have h1:=hf x Aw σ τ h (g9 (Nn N hg l _) hF);have h2:=rq7 m hg l _ _ (λy hy=>hf y (Ax _ hy)) h1.mv hF;exact⟨by dsimp only;rw[h1.eq,h2.eq];rfl,h2.mv⟩
mutual
theorem jq4:∀ (e:Ex) (σ τ:W),Mv ρ tk z σ τ->jh6 tk z (j5 σ e).2->Bt ρ tk z (mEx ρ) (j5 σ e) (j5 τ e)
 |.mk kind op ty n s l,σ,τ,h,hF=>by
  simp only[j5]at hF ⊢;have h1:Bt ρ tk z (λs=>if Cz kind then ρ s else s) (if Cz kind then aA σ s else (s,σ)) (if Cz kind then aA τ s else (s,τ)):=by
   have hF1:=g9 (Mh l _) hF;by_cases hk:Cz kind=true
   ·rw[Ad hk]at hF1;rw[Ad hk,Ad hk];have:=h.name hρ s hF1;exact⟨by rw[Ad hk];exact this.eq,this.mv⟩
   ·rw[Af hk,Af hk];exact⟨by rw[Af hk],h⟩
  have hq:=mb6 l _ _ h1.mv hF;exact⟨by dsimp only;rw[h1.eq,hq.eq];simp only[mEx],hq.mv⟩
theorem mb6:∀ (l:List Ex) (σ τ:W),Mv ρ tk z σ τ->jh6 tk z (y4 σ l).2->Bt ρ tk z (jc2 ρ) (y4 σ l) (y4 τ l)
 |[],_,_,h,_=>by
  simp only[y4];exact⟨by simp[jc2],h⟩
 |e::l,σ,τ,h,hF=>by
  simp only[y4]at hF ⊢;have h1:=jq4 e σ τ h (g9 (Mh l _) hF);have h2:=mb6 l _ _ h1.mv hF;exact⟨by dsimp only;rw[h1.eq,h2.eq];simp only[jc2],h2.mv⟩
end
theorem jq5 (l:List Ex){σ τ:W}(h:Mv ρ tk z σ τ)(hF:jh6 tk z (z6 j5 σ l).2):Bt ρ tk z (jc2 ρ) (z6 j5 σ l) (z6 j5 τ l):=by
 rw[<-ja4]at hF;rw[<-ja4,<-ja4];exact mb6 hρ l σ τ h hF
omit hρ in
theorem kc1 (f:ByteArray->List Ent)(t:Ty):Cx f t=if t.kind=4/\t.aN≠ByteArray.empty then (if (qe7 f t.aN).1 then (qe7 f t.aN).2 else []) else []:=by
 unfold Cx qe7;split
 ·cases (f t.aN).getLast? with
  |none=>rfl
  |some x=>rfl
 ·rfl
omit hρ in
theorem ko4 (f:ByteArray->List Ent)(kind:Int)(av e:Ex)(l:List Ex):Dh f kind av (e::l)=if kind=5 then decide (e.kind=4) && (!(qe7 f av.s).1 && (qe7 f av.s).2.any (isB e.s)) else false:=by
 unfold Dh qe7;split
 ·dsimp only;cases (f av.s).getLast? with
  |none=>rfl
  |some x=>rfl
 ·rfl
omit hρ in
theorem Qt.carried {f g:ByteArray->List Ent}(h:Qt ρ tk z f g)(t:Ty):Cx g t=Cx f t:=by rw[kc1,kc1,h.pt]
omit hρ in
theorem Qt.tagged {f g:ByteArray->List Ent}(h:Qt ρ tk z f g)(kind:Int)(av:Ex)(l:List Ex):Dh g kind av l=Dh f kind av l:=by
 cases l with
 |nil=>unfold Dh;split<;>rfl
 |cons e l=>rw[ko4,ko4,h.pt]
omit hρ in
theorem Qt.ctags {f g:ByteArray->List Ent}(h:Qt ρ tk z f g)(t:Ty):∀ s∈Cx f t,s∈tk.map (·.1):=by
 rw[kc1];intro s hs;split at hs
 ·split at hs
  ·exact h.tg _ s hs
  ·cases hs
 ·cases hs
theorem mr2:∀ (l:List (Bool × List ByteArray)) (σ τ:W),Mv ρ tk z σ τ->Bt ρ tk z (List.map (qw9 ρ)) (Da σ l) (Da τ l)
 |[],_,_,h=>⟨rfl,h⟩
 |x::l,σ,τ,h=>by
  have h1:=h.aD hρ;have h2:=mr2 l _ _ h1.mv;simp only[Da];exact⟨by dsimp only;rw[h1.eq,h2.eq];rfl,h2.mv⟩
omit hρ in
theorem Mv.twice {σ τ:W}(h:Mv ρ tk z σ τ)(l:List ByteArray):Mv ρ tk z (Cr σ l) (Cr τ l):=h.Vw (by rw[h.ev])
omit hρ in
theorem qx0:∀ (l:List Fo) (ns:List ByteArray),named (l.map (mFt ρ)) (ns.map ρ)=(named l ns).map (mFo ρ)
 |[],_=>by simp[named]
 |_::_,[]=>by simp[named]
 |f::l,s::ns=>by
  simp only[List.map_cons,named,qx0 l ns];rfl
omit hρ in
theorem qx1 (l:List Ent):(l.map (qw9 ρ)).map (·.aD)=(l.map (·.aD)).map ρ:=by
 rw[List.map_map,List.map_map];rfl
def mHd (ρ:ByteArray->ByteArray)(h:Head):Head:=⟨h.names.map ρ,mTy ρ h.type,h.ax.map (mFo ρ),mEx ρ h.e,h.own.map (qw9 ρ),h.inner.map (qw9 ρ)⟩
theorem Mv.head {σ τ:W}(h:Mv ρ tk z σ τ)(s:Sp)(htg:∀ v∈s.aN.l,v.tag∈tk.map (·.1))(hF:jh6 tk z (Fw σ s).2):
 Bt ρ tk z (mHd ρ) (Fw σ s) (Fw τ s)/\(∀ x∈(Fw σ s).1.own,∀ t∈x.tags,t∈tk.map (·.1))/\∀ x∈(Fw σ s).1.inner,∀ t∈x.tags,t∈tk.map (·.1):=by
 have hown:Dx τ.env s=Dx σ.env s:=by
  unfold Dx;rw[h.env.carried]
 have hcr:(s.ax.map λf=>(false,Cx τ.env f.type))=s.ax.map λf=>(false,Cx σ.env f.type):=List.map_congr_left λf _=>by rw[h.env.carried]
 have to:∀ x∈(s.names.map λ_=>Dx σ.env s),∀ t∈x.2,t∈tk.map (·.1):=λx hx=>by
  obtain⟨_,_,rfl⟩:=Br.1 hx;unfold Dx;split
  ·dsimp only;unfold Oo;split
   ·intro t ht;obtain⟨v,hv,rfl⟩:=Br.1 ht;exact htg v hv
   ·intro t ht;cases ht
  ·exact h.env.ctags _
 have ti:∀ x∈(s.ax.map λf=>(false,Cx σ.env f.type)),∀ t∈x.2,t∈tk.map (·.1):=λx hx=>by
  obtain⟨f,_,rfl⟩:=Br.1 hx;exact h.env.ctags _
 unfold Fw at hF ⊢;rw[hown,hcr];dsimp only at hF ⊢;have bo:=mr2 hρ (s.names.map λ_=>Dx σ.env s) _ _ (h.twice s.names);have o1:=kj3 (has:=λt=>t∈tk.map (·.1)) _ (Cr σ s.names) to;generalize Da (Cr σ s.names) (s.names.map λ_=>Dx σ.env s)=o at bo o1 hF ⊢;generalize Da (Cr τ s.names) (s.names.map λ_=>Dx σ.env s)=o' at bo ⊢;have bi:=mr2 hρ (s.ax.map λf=>(false,Cx σ.env f.type)) _ _ (bo.mv.twice (s.ax.map (·.name)));have i1:=kj3 (has:=λt=>t∈tk.map (·.1)) _ (Cr o.2 (s.ax.map (·.name))) ti;generalize Da (Cr o.2 (s.ax.map (·.name))) (s.ax.map λf=>(false,Cx σ.env f.type))=i at bi i1 hF ⊢;generalize Da (Cr o'.2 (s.ax.map (·.name))) (s.ax.map λf=>(false,Cx σ.env f.type))=i' at bi ⊢;have g6:=Nn (λ_=>1) (λf σ=>Ko σ f) s.ax (Gr i.2 s.type).2;have g7:=Dk s.e (z6 Fq (Gr i.2 s.type).2 s.ax).2;have F6:=g9 g7 hF;have F5:=g9 g6 F6;have bt:=bi.mv.typed hρ s.type F5;have bf:=rq7 (mFt ρ) (λf σ=>Ko σ f) s.ax _ _ (λf _ σ τ h hF=>by
  have:=h.typed hρ f.type hF;exact⟨by simp only[Fq,this.eq];rfl,this.mv⟩) bt.mv F6
 have be:=jq4 hρ s.e _ _ bf.mv hF;refine⟨⟨?_,be.mv⟩,o1,i1⟩;dsimp only[mHd];rw[bo.eq,bi.eq,bt.eq,bf.eq,be.eq,qx1,qx1,qx0]
omit hρ in
theorem Qt.push1 {f g:ByteArray->List Ent}(h:Qt ρ tk z f g)(s:ByteArray)(x:Ent)(ht:∀ t∈x.tags,t∈tk.map (·.1)):
 Qt ρ tk z (λt=>if t=s then f t++[x] else f t) (λt=>if t=s then g t++[qw9 ρ x] else g t):=by
 have e1:∀ (υ:ByteArray->List Ent) (x:Ent) t,((λt=>if t=s then υ t++[x] else υ t) t).getLast?=if t=s then some x else (υ t).getLast?:=λυ x t=>by
  dsimp only;split
  ·exact List.getLast?_concat
  ·rfl
 have e2:∀ (υ:ByteArray->List Ent) (x:Ent) t,qe7 (λt=>if t=s then υ t++[x] else υ t) t=if t=s then (x.aN,x.tags) else qe7 υ t:=λυ x t=>by
  unfold qe7;rw[e1];by_cases h:t=s
  ·rw[Ad h,Ad h]
  ·rw[Af h,Af h]
 refine⟨λt=>?_,λt y hy=>?_,λt h1 h2=>?_,λt u hu=>?_⟩
 ·rw[e2,e2,h.pt];rfl
 ·rw[e1]at hy;rw[e1];split
  ·rename_i hts;rw[Ad hts]at hy;cases hy;exact⟨_,rfl,rfl⟩
  ·rename_i hts;rw[Af hts]at hy;exact h.nm t y hy
 ·rw[e1]at h2;rw[e1];split
  ·rename_i hts;rw[Ad hts]at h2;cases h2
  ·rename_i hts;rw[Af hts]at h2;exact h.no t h1 h2
 ·rw[e2]at hu;split at hu
  ·exact ht u hu
  ·exact h.tg t u hu
omit hρ in
theorem Qt.push:∀ (ns:List ByteArray) (xs:List Ent) {f g:ByteArray->List Ent},Qt ρ tk z f g->(∀ x∈xs,∀ t∈x.tags,t∈tk.map (·.1))->Qt ρ tk z (Cn f ns xs) (Cn g ns (xs.map (qw9 ρ)))
 |[],xs,f,g,h,_=>by simpa [Cn]using h
 |_::_,[],f,g,h,_=>by simpa [Cn]using h
 |s::ns,x::xs,f,g,h,ht=>by
  simp only[Cn,List.map_cons];exact Qt.push ns xs (h.push1 s x (ht x Aw)) λy hy=>ht y (Ax _ hy)
theorem vl9 (tag:Bool)(l:List Ex){σ τ:W}(h:Mv ρ tk z σ τ)(hF:jh6 tk z (Gg tag σ l).2)(ht:tag=true->∀ e∈l.head?,mEx ρ e=e):Bt ρ tk z (jc2 ρ) (Gg tag σ l) (Gg tag τ l):=by
 cases tag with
 |false=>
  rw[jn0]at hF;rw[jn0,jn0];exact jq5 hρ l h hF
 |true=>
  cases l with
  |nil=>exact⟨by simp[Gg,jc2],h⟩
  |cons x l=>
   simp only[Gg,if_true]at hF ⊢;have:=jq5 hρ l h hF;exact⟨by dsimp only;rw[this.eq,jc2,ht rfl x (by simp)],this.mv⟩
theorem qx2:mEx ρ ex0=ex0:=by simp[ex0,mEx,jc2,Cz]
theorem vc1:mRp ρ rp0=rp0:=by
 unfold mRp rp0;rw[hρ.emp,qx2 hρ]
theorem Mv.rep {σ τ:W}(h:Mv ρ tk z σ τ)(r:Rp)(hF:jh6 tk z (Iq σ r).2)(h0:r.name=ByteArray.empty->r=rp0):Bt ρ tk z (λa:Rp × List Ent=>(mRp ρ a.1,a.2.map (qw9 ρ))) (Iq σ r) (Iq τ r)/\∀ x∈(Iq σ r).1.2,x.tags=[]:=by
 by_cases hr:r.name=ByteArray.empty
 ·rw[h0 hr];unfold Iq;rw[Ad (show rp0.name=ByteArray.empty from rfl),Ad (show rp0.name=ByteArray.empty from rfl)];exact⟨⟨by rw[vc1 hρ];rfl,h⟩,λx hx=>by cases hx⟩
 ·unfold Iq at hF ⊢;rw[Af hr]at hF;rw[Af hr,Af hr];dsimp only at hF ⊢;have h1:=h.aD hρ;have g3:=Dk r.count (j5 (Co σ).2 r.base).2;have h2:=jq4 hρ r.base _ _ h1.mv (g9 g3 hF);have h3:=jq4 hρ r.count _ _ h2.mv hF;exact⟨⟨by rw[h1.eq,h2.eq,h3.eq];rfl,h3.mv⟩,λx hx=>by rw[Bs.1 hx]⟩
def mGh (ρ:ByteArray->ByteArray)(h:GHead):GHead:=⟨mEx ρ h.cond,mEx ρ h.av,jc2 ρ h.aj,jc2 ρ h.values,mEx ρ h.time⟩
theorem Mv.ghead {σ τ:W}(h:Mv ρ tk z σ τ)(cond av:Ex)(aj values:List Ex)(time:Ex)(hF:jh6 tk z (Hy σ cond av aj values time).2):
 Bt ρ tk z (mGh ρ) (Hy σ cond av aj values time) (Hy τ cond av aj values time):=by
 unfold Hy at *;dsimp only at *;have F4:=g9 (Dk time (z6 j5 (z6 j5 (j5 (j5 σ cond).2 av).2 aj).2 values).2) hF;have F3:=g9 (Gf values (z6 j5 (j5 (j5 σ cond).2 av).2 aj).2) F4;have F2:=g9 (Gf aj (j5 (j5 σ cond).2 av).2) F3;have F1:=g9 (Dk av (j5 σ cond).2) F2;have ha:=jq4 hρ cond _ _ h F1;have hb:=jq4 hρ av _ _ ha.mv F2;have hc:=jq5 hρ aj hb.mv F3;have hd:=jq5 hρ values hc.mv F4;have he:=jq4 hρ time _ _ hd.mv hF;exact⟨by rw[ha.eq,hb.eq,hc.eq,hd.eq,he.eq];rfl,he.mv⟩
def mPh (ρ:ByteArray->ByteArray)(kind:Int)(h:PHead):PHead:=⟨if kind=17 then ρ h.name else h.name,mEx ρ h.av,jc2 ρ h.aj,jc2 ρ h.au,mRp ρ h.rep,h.own.map (qw9 ρ)⟩
theorem Mv.phead {σ τ:W}(h:Mv ρ tk z σ τ)(kind:Int)(name:ByteArray)(av:Ex)(aj au:List Ex)(rep:Rp)(hok:ql2 kind av au rep)(hF:jh6 tk z (Gh σ kind name av aj au rep).2):
 Bt ρ tk z (mPh ρ kind) (Gh σ kind name av aj au rep) (Gh τ kind name av aj au rep)/\∀ x∈(Gh σ kind name av aj au rep).1.own,x.tags=[]:=by
 have ba:jh6 tk z (if kind=17 then aA σ name else (name,σ)).2->Bt ρ tk z (λs=>if kind=17 then ρ s else s) (if kind=17 then aA σ name else (name,σ)) (if kind=17 then aA τ name else (name,τ)):=by
  intro hF;by_cases hk:kind=17
  ·rw[Ad hk]at hF;rw[Ad hk,Ad hk];have:=h.name hρ name hF;exact⟨by rw[Ad hk];exact this.eq,this.mv⟩
  ·rw[Af hk,Af hk];exact⟨by rw[Af hk],h⟩
 unfold Gh at *;rw[h.env.tagged];dsimp only at *;generalize (if kind=17 then aA σ name else (name,σ))=a at ba hF ⊢;generalize (if kind=17 then aA τ name else (name,τ))=a' at ba ⊢;have F4:=g9 (ms7 (Gg (Dh σ.env kind av au) (z6 j5 (j5 a.2 av).2 aj).2 au).2 rep) hF;have F3:=g9 (Lb (Dh σ.env kind av au) (z6 j5 (j5 a.2 av).2 aj).2 au) F4;have F2:=g9 (Gf aj (j5 a.2 av).2) F3;have F1:=g9 (Dk av a.2) F2;have ha:=ba F1;have hc:=jq4 hρ av _ _ ha.mv F2;have ht:=jq5 hρ aj hc.mv F3;have hx:=vl9 hρ (Dh σ.env kind av au) au ht.mv F4 (λhtt e he=>by
  cases au with
  |nil=>cases he
  |cons y l=>
   simp only[List.head?_cons,Option.mem_def,Bi]at he;subst he;rw[ko4]at htt;split at htt
   ·rename_i hk;have hl:=(hok.2 hk).2.2 y (by simp);simp only[Aa,Ah,Ek]at htt;obtain⟨h4,_,t,ht1,ht2⟩:=htt;rw[Ml]at ht2;subst ht2;have h6:=hρ.fix _ (h.env.tg _ _ ht1);have h7:=hl h4;obtain⟨yk,yo,yt,yn,ys,yl⟩:=y;simp only[Ex.l,Ex.s,Ex.kind]at h7 h6 h4;subst h7;subst h4;simp only[mEx,jc2,h6,ite_self]
   ·cases htt)
 have hr:=hx.mv.rep hρ rep hF hok.1.2;refine⟨⟨?_,hr.1.mv⟩,hr.2⟩;have e5:=hr.1.eq;rw[ha.eq,hc.eq,ht.eq,hx.eq,e5];rfl
mutual
theorem vm0:∀ (p:Pr) (σ τ:W),Mv ρ tk z σ τ->Tj p->(∀ t∈Dm p,t∈tk.map (·.1))->jh6 tk z (Fz σ p).2->Bt ρ tk z (mPr ρ) (Fz σ p) (Fz τ p)
 |.mk kind name av aj au rep ak l ay (.mk sk st sn se spp sf sb),σ,τ,h,hok,htg,hF=>by
  simp only[Tj]at hok;simp only[Dm,Au]at htg;obtain⟨hn,hsp,_,_,hsb,hgu,hpl⟩:=hok;have bh:=h.phead hρ kind name av aj au rep hn;simp only[Fz]at hF ⊢;generalize Gh σ kind name av aj au rep=a at bh hF ⊢;generalize Gh τ kind name av aj au rep=a' at bh ⊢;by_cases hk:kind=18
  ·rw[Ad hk]at hF;rw[Ad hk,Ad hk];dsimp only at hF ⊢;have gs:=Nc a.2 (.mk sk st sn se spp sf []);have bs:=λ(τ:W) (h:Mv ρ tk z a.2 τ)=>h.head hρ (.mk sk st sn se spp sf []);generalize Fw a.2 (.mk sk st sn se spp sf [])=s at gs bs hF ⊢;have gb:=Gz sb {s.2 with env:=Cn σ.env (sf.map (·.name)) s.1.inner};have bb:=λ(τ:W)=>mk3 sb {s.2 with env:=Cn σ.env (sf.map (·.name)) s.1.inner} τ;generalize Fx {s.2 with env:=Cn σ.env (sf.map (·.name)) s.1.inner} sb=b at gb bb hF ⊢;have gg:=Il ak {b.2 with env:=Cn σ.env sn s.1.own};have bg:=λ(τ:W)=>qx3 ak {b.2 with env:=Cn σ.env sn s.1.own} τ;generalize Gl {b.2 with env:=Cn σ.env sn s.1.own} ak=g at gg bg hF ⊢;have gm:=Gz l g.2;have F4:jh6 tk z (Fx g.2 l).2:=hF;have F3:=g9 gm F4;have F2:jh6 tk z b.2:=λs hs=>g9 gg F3 s hs;have F1:jh6 tk z s.2:=λs hs=>g9 gb F2 s hs;have F0:=g9 gs F1;have h1:=bh F0;have h2:=bs _ h1.1.mv (λv hv=>htg _ (.inl (Br.2 ⟨v,hv,rfl⟩))) F1;have h3:=bb _ (h2.1.mv.setEnv (h.env.push (sf.map (·.name)) s.1.inner h2.2.2)) hsb (λt ht=>htg t (.inr (.inl ht))) F2;have e2:=h2.1.eq;have h4:=bg _ (h3.mv.setEnv (h.env.push sn s.1.own h2.2.1)) hgu (λt ht=>htg t (.inr (.inr (.inl ht)))) F3;have h5:=mk3 l g.2 _ h4.mv hpl (λt ht=>htg t (.inr (.inr (.inr ht)))) F4;have ei:(Fw a'.2 (.mk sk st sn se spp sf [])).1.inner=s.1.inner.map (qw9 ρ):=by rw[e2];rfl
   have eo:(Fw a'.2 (.mk sk st sn se spp sf [])).1.own=s.1.own.map (qw9 ρ):=by rw[e2];rfl
   rw[ei,eo];refine⟨?_,h5.mv.setEnv h.env⟩;dsimp only;rw[h5.eq,h4.eq,h3.eq,e2,h1.1.eq];simp only[mPr,mPh,mHd]
  ·rw[Af hk]at hF;rw[Af hk,Af hk];dsimp only at hF ⊢;have gg:=Il ak {a.2 with env:=Cn σ.env (if rep.name=ByteArray.empty then [] else [rep.name]) a.1.own};have bg:=λ(τ:W)=>qx3 ak {a.2 with env:=Cn σ.env (if rep.name=ByteArray.empty then [] else [rep.name]) a.1.own} τ;generalize Gl {a.2 with env:=Cn σ.env (if rep.name=ByteArray.empty then [] else [rep.name]) a.1.own} ak=g at gg bg hF ⊢;have gm:=Gz l g.2;have F4:jh6 tk z (Fx g.2 l).2:=hF;have F3:=g9 gm F4;have F2:jh6 tk z a.2:=λs hs=>g9 gg F3 s hs;have h1:=bh F2;have h4:=bg _ (h1.1.mv.setEnv (h.env.push (if rep.name=ByteArray.empty then [] else [rep.name]) a.1.own λx hx t ht=>by rw[h1.2 x hx]at ht;cases ht)) hgu (λt ht=>htg t (.inr (.inr (.inl ht)))) F3;have h5:=mk3 l g.2 _ h4.mv hpl (λt ht=>htg t (.inr (.inr (.inr ht)))) F4;have eo:a'.1.own=a.1.own.map (qw9 ρ):=by rw[h1.1.eq];rfl
   rw[eo];refine⟨?_,h5.mv.setEnv h.env⟩;have hs:=hsp hk;simp only[sp0,Sp.mk.injEq]at hs;obtain⟨rfl,rfl,rfl,rfl,rfl,rfl,rfl⟩:=hs;dsimp only;rw[h5.eq,h4.eq,h1.1.eq];simp only[mPr,mPh,mTy,ty0,hρ.emp,qx2 hρ,Bj,Jk]
theorem mk3:∀ (l:List Pr) (σ τ:W),Mv ρ tk z σ τ->Qd l->(∀ t∈Jl l,t∈tk.map (·.1))->jh6 tk z (Fx σ l).2->Bt ρ tk z (Jk ρ) (Fx σ l) (Fx τ l)
 |[],_,_,h,_,_,_=>by
  simp only[Fx];exact⟨by simp[Jk],h⟩
 |p::l,σ,τ,h,hok,htg,hF=>by
  simp only[Qd]at hok;simp only[Jl,Au]at htg;simp only[Fx]at hF ⊢;have h1:=vm0 p σ τ h hok.1 (λt ht=>htg t (.inl ht)) (g9 (Gz l _) hF);have h2:=mk3 l _ _ h1.mv hok.2 (λt ht=>htg t (.inr ht)) hF;exact⟨by dsimp only;rw[h1.eq,h2.eq];simp only[Jk],h2.mv⟩
theorem vs3:∀ (p:Gu) (σ τ:W),Mv ρ tk z σ τ->Yb p->(∀ t∈Jc p,t∈tk.map (·.1))->jh6 tk z (Ju σ p).2->Bt ρ tk z (mGu ρ) (Ju σ p) (Ju τ p)
 |.mk kind name cond av aj values time body,σ,τ,h,hok,htg,hF=>by
  simp only[Yb]at hok;simp only[Jc,Bc]at htg;simp only[Ju]at hF ⊢;have h1:=h.ghead hρ cond av aj values time (g9 (Gz body _) hF);have h2:=mk3 body _ _ h1.mv hok (λt ht=>htg t (.inr ht)) hF;exact⟨by dsimp only;rw[h1.eq,h2.eq];simp only[mGu,mGh],h2.mv⟩
theorem qx3:∀ (l:List Gu) (σ τ:W),Mv ρ tk z σ τ->Sz l->(∀ t∈Kc l,t∈tk.map (·.1))->jh6 tk z (Gl σ l).2->Bt ρ tk z (jz4 ρ) (Gl σ l) (Gl τ l)
 |[],_,_,h,_,_,_=>by
  simp only[Gl];exact⟨by simp[jz4],h⟩
 |p::l,σ,τ,h,hok,htg,hF=>by
  simp only[Sz]at hok;simp only[Kc,Au]at htg;simp only[Gl]at hF ⊢;have h1:=vs3 p σ τ h hok.1 (λt ht=>htg t (.inl ht)) (g9 (Il l _) hF);have h2:=qx3 l _ _ h1.mv hok.2 (λt ht=>htg t (.inr ht)) hF;exact⟨by dsimp only;rw[h1.eq,h2.eq];simp only[jz4],h2.mv⟩
end
end
end Al
end
section
namespace Al
open Lx Sc
variable {ρ:ByteArray->ByteArray}
mutual
theorem vm1 (ρ:ByteArray->ByteArray):∀ e:Ex,Kg (mEx ρ e)=(Kg e).map ρ
 |.mk kind op ty n s l=>by
  simp only[mEx,Kg,mb7 ρ l,Av];split<;>rfl
theorem mb7 (ρ:ByteArray->ByteArray):∀ l:List Ex,Ii (jc2 ρ l)=(Ii l).map ρ
 |[]=>by simp[jc2,Ii]
 |e::l=>by simp only[jc2,Ii,vm1 ρ e,mb7 ρ l,Av]
end
theorem mx6 (ρ:ByteArray->ByteArray)(e:Ex):(mEx ρ e).kind=e.kind:=by cases e;simp only[mEx,Ex.kind]
theorem vs4 (ρ:ByteArray->ByteArray)(e:Ex):(mEx ρ e).l=jc2 ρ e.l:=by cases e;simp only[mEx,Ex.l]
theorem qe8 (ρ:ByteArray->ByteArray){e:Ex}(h:Cz e.kind=true):(mEx ρ e).s=ρ e.s:=by
 cases e;simp only[Ex.kind]at h;simp only[mEx,Ex.s,h,if_true]
theorem js4 (ρ:ByteArray->ByteArray)(a b:List Ex):jc2 ρ (a++b)=jc2 ρ a++jc2 ρ b:=by rw[kg4,kg4,kg4,Av]
theorem mk4 (ρ:ByteArray->ByteArray)(e:Ex):ja2 (mEx ρ e)=ja2 e:=by unfold ja2;rw[mx6]
def mPc (ρ:ByteArray->ByteArray)(q:Pc):Pc:=⟨q.ax.map (mFo ρ),q.occ.map ρ,q.wr.map ρ⟩
structure MW (ρ:ByteArray->ByteArray)(w v:Wd):Prop where
 known:∀ s,ρ s∈v.known↔s∈w.known
 is:v.is=w.is.map λx=>(ρ x.1,ρ x.2)
 ay:v.ay=w.ay.map λx=>(ρ x.1,mPc ρ x.2)
section
variable (hi:∀ s t,ρ s=ρ t->s=t)
include hi
theorem qe9 {α:Type}(g:α->α)(s:ByteArray):∀ l:List (ByteArray × α),at1 (ρ s) (l.map λx=>(ρ x.1,g x.2))=(at1 s l).map g
 |[]=>rfl
 |(x,v)::l=>by
  simp only[List.map_cons,at1];by_cases h:x=s
  ·rw[Ad h,Ad (by rw[h])];rfl
  ·rw[Af h,Af (λe=>h (hi _ _ e))];exact qe9 g s l
theorem vc2 {α:Type}(g:α->α)(s:ByteArray)(u:α):∀ l:List (ByteArray × α),up1 (ρ s) (g u) (l.map λx=>(ρ x.1,g x.2))=(up1 s u l).map λx=>(ρ x.1,g x.2)
 |[]=>rfl
 |(x,v)::l=>by
  simp only[List.map_cons,up1];by_cases h:x=s
  ·rw[Ad h,Ad (by rw[h])];rfl
  ·rw[Af h,Af (λe=>h (hi _ _ e)),vc2 g s u l];rfl
theorem ke9 {s:ByteArray}{l:List ByteArray}:ρ s∈l.map ρ↔s∈l:=by
 rw[Br];exact⟨λ⟨t,ht,e⟩=>hi _ _ e ▸ ht,λh=>⟨s,h,rfl⟩⟩
theorem rq8 (l:List ByteArray)(s:ByteArray):addN (l.map ρ) (ρ s)=(addN l s).map ρ:=by
 unfold addN;by_cases h:s∈l
 ·rw[Ad h,Ad ((ke9 hi).2 h)]
 ·rw[Af h,Af (λe=>h ((ke9 hi).1 e)),Av];rfl
theorem mr3 (A l:List ByteArray):jb9 (A.map ρ) (l.map ρ)=jb9 A l:=by
 unfold jb9;rw[List.any_map];congr 1;funext s;simp only[Function.comp];rw[decide_eq_decide];exact ke9 hi
theorem rq9 {is:List (ByteArray × ByteArray)}{s b:ByteArray}(h:Base is s b):Base (is.map λx=>(ρ x.1,ρ x.2)) (ρ s) (ρ b):=by
 induction h with
 |done h=>exact .done (by rw[qe9 hi,h];rfl)
 |step h _ ih=>exact .step (by rw[qe9 hi,h];rfl) ih
theorem qf0 {is:List (ByteArray × ByteArray)}{a c:ByteArray}(h:Base (is.map λx=>(ρ x.1,ρ x.2)) a c):∀ s,a=ρ s->∃ b,Base is s b/\c=ρ b:=by
 induction h with
 |done h=>
  intro s e;subst e;rw[qe9 hi]at h;refine⟨s,.done ?_,rfl⟩;cases ha:at1 s is with
  |none=>rfl
  |some v=>rw[ha]at h;cases h
 |step h _ ih=>
  intro s e;subst e;rw[qe9 hi]at h;cases ha:at1 s is with
  |none=>rw[ha]at h;cases h
  |some v=>
   rw[ha]at h;cases h;obtain⟨b,hb,e⟩:=ih v rfl;exact⟨b,.step ha hb,e⟩
theorem mb8 (is:List (ByteArray × ByteArray))(s:ByteArray):Db (is.map λx=>(ρ x.1,ρ x.2)) (ρ s)=ρ (Db is s):=by
 unfold Db;by_cases h:∃ b,Base is s b
 ·have h2:∃ b,Base (is.map λx=>(ρ x.1,ρ x.2)) (ρ s) b:=⟨_,rq9 hi (Classical.choose_spec h)⟩;rw[dif_pos h,dif_pos h2];exact(Classical.choose_spec h2).det (rq9 hi (Classical.choose_spec h))
 ·have h2:¬∃ b,Base (is.map λx=>(ρ x.1,ρ x.2)) (ρ s) b:=λ⟨c,hc⟩=>h (by
   obtain⟨b,hb,_⟩:=qf0 hi hc s rfl;exact⟨b,hb⟩)
  rw[dif_neg h,dif_neg h2]
theorem vc3 {w v:Wd}(h:MW ρ w v)(s:ByteArray):Db v.is (ρ s)=ρ (Db w.is s):=by rw[h.is];exact mb8 hi _ _
theorem vm2 {w v:Wd}(h:MW ρ w v)(kind:Int)(l:List Ex):jt4 v.known kind (jc2 ρ l)=jc2 ρ (jt4 w.known kind l):=by
 unfold jt4;split
 ·cases l with
  |nil=>rfl
  |cons e l=>
   simp only[jc2,mx6];by_cases hk:e.kind=4
   ·rw[qe8 ρ (by rw[hk];rfl)];by_cases hs:e.s∈w.known
    ·rw[Af (λc=>c.2 ((h.known _).2 hs)),Af (λc=>c.2 hs)];rfl
    ·rw[Ad ⟨hk,λc=>hs ((h.known _).1 c)⟩,Ad ⟨hk,hs⟩]
   ·rw[Af (λc=>hk c.1),Af (λc=>hk c.1)];rfl
 ·rfl
omit hi in
theorem qx4:∀ l:List Gu,jb4 (jz4 ρ l)=jc2 ρ (jb4 l)
 |[]=>by simp[jz4,jb4,jc2]
 |.mk _ _ cond av aj values time _::l=>by
  simp only[jz4,mGu,jb4,ve3,js4,qx4 l,jc2]
theorem vm3 {w v:Wd}(h:MW ρ w v)(kind:Int)(av base count e:Ex)(aj au:List Ex)(ak:List Gu):
 qf7 v.known kind (mEx ρ av) (mEx ρ base) (mEx ρ count) (mEx ρ e) (jc2 ρ aj) (jc2 ρ au) (jz4 ρ ak)=jc2 ρ (qf7 w.known kind av base count e aj au ak):=by
 unfold qf7;rw[vm2 hi h,qx4];simp only[js4,jc2]
theorem qx5 {w v:Wd}(h:MW ρ w v)(name:ByteArray):at1 (ρ name) v.ay=(at1 name w.ay).map (mPc ρ):=by
 rw[h.ay];exact qe9 hi (mPc ρ) name w.ay
omit hi in
theorem vm4 (q:Option Pc):ri3 (q.map (mPc ρ))=(ri3 q).map ρ:=by cases q<;>rfl
omit hi in
theorem vs5 (q:Option Pc):wrO (q.map (mPc ρ))=(wrO q).map ρ:=by cases q<;>rfl
omit hi in
theorem vs6 (q:Option Pc):foO (q.map (mPc ρ))=(foO q).map (mFo ρ):=by cases q<;>rfl
mutual
theorem rk7 {w v:Wd}(h:MW ρ w v):∀ p:Pr,jb5 v (mPr ρ p)=(jb5 w p).map ρ
 |.mk kind name av aj au rep ak l _ (.mk _ _ _ se _ _ sb)=>by
  simp only[mPr,jb5,mRp,vm3 hi h,mb7,mx7 h sb,rr0 h ak,mx7 h l,Av];by_cases hk:kind=17
  ·simp only[Ad hk,qx5 hi h,vm4]
  ·simp only[Af hk,Bj]
theorem mx7 {w v:Wd}(h:MW ρ w v):∀ l:List Pr,jm1 v (Jk ρ l)=(jm1 w l).map ρ
 |[]=>by simp[Jk,jm1]
 |p::l=>by simp only[Jk,jm1,rk7 h p,mx7 h l,Av]
theorem rr0 {w v:Wd}(h:MW ρ w v):∀ l:List Gu,jp8 v (jz4 ρ l)=(jp8 w l).map ρ
 |[]=>by simp[jz4,jp8]
 |.mk _ _ _ _ _ _ _ body::l=>by simp only[jz4,mGu,jp8,mx7 h body,rr0 h l,Av]
end
omit hi in
theorem mx8 (q:Option Pc):∀ (l:List Ex) (fs:List Fo),Jp (q.map (mPc ρ)) (jc2 ρ l) (fs.map (mFo ρ))=jc2 ρ (Jp q l fs)
 |[],_=>by simp[jc2,Jp]
 |e::l,fs=>by
  have h1:Qr (fs.map (mFo ρ))=Qr fs:=by cases fs<;>rfl
  have h2:=mx8 q l (fs.drop 1);rw[List.map_drop]at h2;simp only[jc2,Jp,mk4,h1,h2,js4,Option.isNone_map];split<;>simp[jc2]
omit hi in
theorem qx6:∀ l:List Gu,jc6 (jz4 ρ l)=jc2 ρ (jc6 l)
 |[]=>by simp[jz4,jc6,jc2]
 |.mk _ _ _ _ aj _ _ _::l=>by simp only[jz4,mGu,jc6,qx6 l,js4]
theorem mx9 {w v:Wd}(h:MW ρ w v):∀ l:List Ex,jh5 l->((jc2 ρ l).map λe=>Db v.is e.s)=(l.map λe=>Db w.is e.s).map ρ
 |[],_=>by simp[jc2]
 |e::l,hn=>by
  have h1:=mx9 h l λx hx=>hn x (Ax _ hx);have h2:=hn e Aw;simp only[jc2,List.map_cons,h1,qe8 ρ h2,vc3 hi h]
omit hi in
theorem qx7:∀ l:List Gu,jo1 l->jh5 (jc6 l):=λl h e he=>(mi6 he h).1
mutual
theorem vm5 {w v:Wd}(h:MW ρ w v):∀ p:Pr,kt2 p->jt1 v (mPr ρ p)=(jt1 w p).map ρ
 |.mk kind name av aj au rep ak l _ (.mk _ _ _ se _ _ sb),ht=>by
  simp only[kt2]at ht;obtain⟨t1,_,t2,t3,t4⟩:=ht;have hl:jh5 (aj++jc6 ak++(if kind=17 then Jp (at1 name w.ay) au (foO (at1 name w.ay)) else [])):=λe he=>by
   simp only[Au]at he;rcases he with (he|he)|he
   ·exact t1 e he
   ·exact qx7 _ t3 e he
   ·split at he
    ·exact jy0 (kt3 he).2
    ·cases he
  have hb:=mx9 hi h _ hl;simp only[mPr,jt1,rk8 h sb t2,vm6 h ak t3,rk8 h l t4,Av,qx6];by_cases hk:kind=17
  ·simp only[Ad hk,js4,Av]at hb;simp only[Ad hk,qx5 hi h,vs6,mx8,vs5];rw[hb]
  ·simp only[Af hk,js4,Av,jc2,Bj,Ey]at hb;simp only[Af hk,Bj,Ey];rw[hb]
theorem rk8 {w v:Wd}(h:MW ρ w v):∀ l:List Pr,jj1 l->kb6 v (Jk ρ l)=(kb6 w l).map ρ
 |[],_=>by simp[Jk,kb6]
 |p::l,ht=>by
  simp only[jj1]at ht;simp only[Jk,kb6,vm5 h p ht.1,rk8 h l ht.2,Av]
theorem vm6 {w v:Wd}(h:MW ρ w v):∀ l:List Gu,jo1 l->km4 v (jz4 ρ l)=(km4 w l).map ρ
 |[],_=>by simp[jz4,km4]
 |.mk _ _ _ _ _ _ _ body::l,ht=>by
  simp only[jo1]at ht;simp only[jz4,mGu,km4,rk8 h body ht.2.1,vm6 h l ht.2.2,Av]
end
variable (he:ρ ByteArray.empty=ByteArray.empty)
include he
theorem rk9 {w v:Wd}(h:MW ρ w v)(rep:ByteArray)(sk:Int)(sn:List ByteArray)(se:Ex)(sf:List Fo)(hs:sk=3->Cz se.kind=true):MW ρ (Im w rep sk sn se.s sf) (Im v (ρ rep) sk (sn.map ρ) (mEx ρ se).s (sf.map (mFo ρ))):=by
 have hr:ρ rep=ByteArray.empty↔rep=ByteArray.empty:=⟨λe=>hi _ _ (e.trans he.symm),λe=>by rw[e,he]⟩;have hk:∀ s,ρ s∈Ic (if ρ rep=ByteArray.empty then Ic v.known (sn.map ρ) else addN (Ic v.known (sn.map ρ)) (ρ rep)) ((sf.map (mFo ρ)).map (·.name))↔s∈Ic (if rep=ByteArray.empty then Ic w.known sn else addN (Ic w.known sn) rep) (sf.map (·.name)):=λs=>by
  have e1:(sf.map (mFo ρ)).map (·.name)=(sf.map (·.name)).map ρ:=by
   rw[List.map_map,List.map_map];rfl
  rw[e1,jd3,jd3,ke9 hi];refine or_congr ?_ .rfl;by_cases hc:rep=ByteArray.empty
  ·rw[Ad hc,Ad (hr.2 hc),jd3,jd3,ke9 hi,h.known]
  ·rw[Af hc,Af (λe=>hc (hr.1 e)),ji1,ji1,jd3,jd3,ke9 hi,h.known];exact or_congr .rfl ⟨λe=>hi _ _ e,λe=>by rw[e]⟩
 unfold Im;dsimp only;by_cases h3:sk=3
 ·rw[Ad h3,Ad h3,qe8 ρ (hs h3)];cases sn with
  |nil=>exact⟨hk,h.is,h.ay⟩
  |cons s l=>
   refine⟨hk,?_,h.ay⟩;dsimp only[List.map_cons];rw[h.is];exact vc2 hi ρ s se.s w.is
 ·rw[Af h3,Af h3];exact⟨hk,h.is,h.ay⟩
omit he in
theorem rl0 {w v:Wd}(h:MW ρ w v)(sk:Int)(sn:List ByteArray)(sf:List Fo)(occ wr:List ByteArray):MW ρ (Js w sk sn sf occ wr) (Js v sk (sn.map ρ) (sf.map (mFo ρ)) (occ.map ρ) (wr.map ρ)):=by
 unfold Js;by_cases h5:sk=5
 ·rw[Ad h5,Ad h5];cases sn with
  |nil=>exact h
  |cons s l=>
   refine⟨h.known,h.is,?_⟩;dsimp only[List.map_cons];rw[h.ay];exact vc2 hi (mPc ρ) s ⟨sf,occ,wr⟩ w.ay
 ·rw[Af h5,Af h5];exact h
mutual
theorem qx8:∀ (p:Pr) {w v:Wd},MW ρ w v->kt2 p->MW ρ (z1 w p) (z1 v (mPr ρ p))
 |.mk kind name av aj au rep ak l ay (.mk sk st sn se spp sf sb),w,v,h,ht=>by
  simp only[kt2]at ht;obtain⟨_,t1,t2,t3,t4⟩:=ht;have h1:=kg5 sb (rk9 hi he h rep.name sk sn se sf t1) t2;rw[jm4,jm4];simp only[mPr,mRp,Pr.rep,Pr.spec,Sp.kind,Sp.names,Sp.e,Sp.ax,Sp.body,Pr.ak,Pr.l];have h2:=rl0 hi h1 sk sn sf (Ut (Df (Im w rep.name sk sn se.s sf) sb) sb) (wrB (Df (Im w rep.name sk sn se.s sf) sb) sb);have eo:(Ut (Df (Im w rep.name sk sn se.s sf) sb) sb).map ρ=Ut (Df (Im v (ρ rep.name) sk (sn.map ρ) (mEx ρ se).s (sf.map (mFo ρ))) (Jk ρ sb)) (Jk ρ sb):=by
   cases sb with
   |nil=>simp[Ut,Jk]
   |cons b r=>simp only[Jk]at h1 ⊢;simp only[Ut];exact(rk7 hi h1 b).symm
  have ew:(wrB (Df (Im w rep.name sk sn se.s sf) sb) sb).map ρ=wrB (Df (Im v (ρ rep.name) sk (sn.map ρ) (mEx ρ se).s (sf.map (mFo ρ))) (Jk ρ sb)) (Jk ρ sb):=by
   cases sb with
   |nil=>simp[wrB,Jk]
   |cons b r=>simp only[jj1]at t2;simp only[Jk]at h1 ⊢;simp only[wrB];exact(vm5 hi h1 b t2.1).symm
  rw[eo,ew]at h2;exact kg5 l (my0 ak h2 t3) t4
theorem kg5:∀ (l:List Pr) {w v:Wd},MW ρ w v->jj1 l->MW ρ (Df w l) (Df v (Jk ρ l))
 |[],w,v,h,_=>by simpa [Df,Jk]using h
 |p::l,w,v,h,ht=>by
  simp only[jj1]at ht;simp only[Jk,Df];exact kg5 l (qx8 p h ht.1) ht.2
theorem my0:∀ (l:List Gu) {w v:Wd},MW ρ w v->jo1 l->MW ρ (Gp w l) (Gp v (jz4 ρ l))
 |[],w,v,h,_=>by simpa [Gp,jz4]using h
 |.mk _ _ _ _ _ _ _ body::l,w,v,h,ht=>by
  simp only[jo1]at ht;simp only[jz4,mGu,Gp];exact my0 l (kg5 body h ht.2.1) ht.2.2
end
omit he
theorem mr4 {w v:Wd}(h:MW ρ w v)(l:List Ex):Ib v (jc2 ρ l)=(Ib w l).map ρ:=by
 unfold Ib;rw[mb7,List.map_map,List.map_map,h.is];exact List.map_congr_left λs _=>mb8 hi _ s
theorem qx9 {w v:Wd}(h:MW ρ w v)(sk:Int)(se:Ex)(p:Pr)(hs:sk=3->Cz se.kind=true)(ht:kt2 p):Ik v sk (mEx ρ se) (mPr ρ p)=Ik w sk se p:=by
 have h1:=mr4 hi h [se];have h2:=mr4 hi h se.l;simp only[jc2]at h1;unfold Ik;by_cases a:sk=2
 ·rw[Ad a,Ad a,vm5 hi h p ht,h1,mr3 hi]
 ·rw[Af a,Af a];by_cases b:sk=3
  ·rw[Ad b,Ad b,vm5 hi h p ht,vs4,h2,mr3 hi,qe8 ρ (hs b),rk7 hi h];congr 2;rw[decide_eq_decide];exact ke9 hi
  ·rw[Af b,Af b]
theorem kg6 {w v:Wd}(h:MW ρ w v):∀ (fs:List Fo) (l:List Ex) (vars vals:List ByteArray),Iu v (fs.map (mFo ρ)) (jc2 ρ l) (vars.map ρ) (vals.map ρ)=(Iu w fs l vars vals).map λx=>(x.1.map ρ,x.2.map ρ)
 |[],l,vars,vals=>by
  cases l with
  |nil=>simp only[Bj,jc2,Iu];rfl
  |cons e l=>simp only[Bj,jc2,Iu];rfl
 |f::fs,[],vars,vals=>by simp only[List.map_cons,jc2,Iu];rfl
 |f::fs,e::l,vars,vals=>by
  have h1:=mr4 hi h [e];simp only[jc2]at h1;simp only[List.map_cons,jc2,Iu,mk4];have hv:(mFo ρ f).val=f.val:=rfl;rw[hv];by_cases hf:f.val=true
  ·rw[Ad hf,Ad hf,h1,<-Av];exact kg6 h fs l vars _
  ·rw[Af hf,Af hf];by_cases hel:ja2 e=true
   ·rw[Ad hel,Ad hel,qe8 ρ (jy0 hel),vc3 hi h];by_cases hm:Db w.is e.s∈vars
    ·rw[Ad hm,Ad ((ke9 hi).2 hm)];rfl
    ·rw[Af hm,Af (λc=>hm ((ke9 hi).1 c)),rq8 hi];exact kg6 h fs l _ vals
   ·rw[Af hel,Af hel];exact kg6 h fs l vars vals
theorem rr1 {w v:Wd}(h:MW ρ w v)(name:ByteArray)(au:List Ex):Li v (ρ name) (jc2 ρ au)=Li w name au:=by
 unfold Li;rw[qx5 hi h];cases at1 name w.ay with
 |none=>rfl
 |some q=>
  have h1:=kg6 hi h q.ax au [] [];simp only[Bj]at h1;simp only[Er,mPc,h1];cases Iu w q.ax au [] []with
  |none=>rfl
  |some x=>
   obtain⟨vars,vals⟩:=x;have e1:(q.occ.map ρ).map (Db v.is)=(q.occ.map (Db w.is)).map ρ:=by
    rw[List.map_map,List.map_map,h.is];exact List.map_congr_left λs _=>mb8 hi _ s
   simp only[Er,e1,mr3 hi]
theorem qy0 {w v:Wd}(h:MW ρ w v):∀ (l:List Ex) (met:List ByteArray),jh5 l->Ih v (met.map ρ) (jc2 ρ l)=Ih w met l
 |[],_,_=>by simp[jc2,Ih]
 |e::l,met,hn=>by
  have h2:=hn e Aw;simp only[jc2,Ih,qe8 ρ h2,vc3 hi h];by_cases hm:Db w.is e.s∈met
  ·rw[Ad hm,Ad ((ke9 hi).2 hm)]
  ·rw[Af hm,Af (λc=>hm ((ke9 hi).1 c)),rq8 hi];rw[qy0 h l _ λx hx=>hn x (Ax _ hx)]
theorem vc4 {w v:Wd}(h:MW ρ w v){l:List Ex}(hn:jh5 l):Ih v [] (jc2 ρ l)=Ih w [] l:=qy0 hi h l [] hn
theorem ku6 {w v:Wd}(h:MW ρ w v){l:List Ex}(hn:jh5 l):Mc v (jc2 ρ l)=Mc w l:=by
 unfold Mc;rw[vc4 hi h hn]
include he
omit hi in
theorem qy1:mPr ρ pr0=pr0:=by simp[pr0,mPr,mRp,mEx,jc2,jz4,Jk,mTy,he,ex0,rp0,sp0,ty0,Cz]
mutual
theorem vm7 {w v:Wd}(h:MW ρ w v):∀ p:Pr,kt2 p->brB v (mPr ρ p)=brB w p
 |.mk kind name av aj au rep ak l _ (.mk sk _ _ se _ _ sb),ht=>by
  simp only[kt2]at ht;obtain⟨t1,t5,t2,t3,t4⟩:=ht;have hl:=rl1 h l t4;have hg:=vm8 h ak t3;have hb:=rl1 h sb t2;have ht:=ku6 hi h t1;have hc:(kind == 17 && !Li v (if kind=17 then ρ name else name) (jc2 ρ au))=(kind == 17 && !Li w name au):=by
   by_cases hk:kind=17
   ·rw[Ad hk,rr1 hi h]
   ·have:(kind == 17)=false:=by simpa using hk
    rw[this,As,As]
  cases l with
  |nil=>
   have ha:=qx9 hi h sk se pr0 t5 (by simp[pr0,sp0,kt2,jj1,jo1,jh5]);rw[qy1 he]at ha;simp only[Jk]at hl;simp only[mPr,Jk,brB,ha,hl,hg,hb,ht,hc]
  |cons a l=>
   simp only[jj1]at t4;have ha:=qx9 hi h sk se a t5 t4.1;simp only[Jk]at hl;simp only[mPr,Jk,brB,ha,hl,hg,hb,ht,hc]
theorem rl1 {w v:Wd}(h:MW ρ w v):∀ l:List Pr,jj1 l->Ru v (Jk ρ l)=Ru w l
 |[],_=>by simp[Jk,Ru]
 |p::l,ht=>by
  simp only[jj1]at ht;simp only[Jk,Ru,vm7 h p ht.1,rl1 h l ht.2]
theorem vm8 {w v:Wd}(h:MW ρ w v):∀ l:List Gu,jo1 l->Te v (jz4 ρ l)=Te w l
 |[],_=>by simp[jz4,Te]
 |.mk _ _ _ _ aj _ _ body::l,ht=>by
  simp only[jo1]at ht;simp only[jz4,mGu,Te,ku6 hi h ht.1,rl1 h body ht.2.1,vm8 h l ht.2.2]
end
end
end Al
end
section
namespace Al
open Lx Sc
variable {ρ:ByteArray->ByteArray}
theorem my1 (p:Pr):(mPr ρ p).kind=p.kind:=by obtain⟨kind,name,av,aj,au,rep,ak,l,ay,⟨sk,st,sn,se,spp,sf,sb⟩⟩:=p;simp only[mPr,Pr.kind]
theorem rl2 (p:Pr):(mPr ρ p).name=if p.kind=17 then ρ p.name else p.name:=by obtain⟨kind,name,av,aj,au,rep,ak,l,ay,⟨sk,st,sn,se,spp,sf,sb⟩⟩:=p;simp only[mPr,Pr.kind,Pr.name];rfl
theorem jv2 (p:Pr):(mPr ρ p).aj=jc2 ρ p.aj:=by obtain⟨kind,name,av,aj,au,rep,ak,l,ay,⟨sk,st,sn,se,spp,sf,sb⟩⟩:=p;simp only[mPr,Pr.aj]
theorem qy2 (p:Pr):(mPr ρ p).au=jc2 ρ p.au:=by obtain⟨kind,name,av,aj,au,rep,ak,l,ay,⟨sk,st,sn,se,spp,sf,sb⟩⟩:=p;simp only[mPr,Pr.au]
theorem js5 (p:Pr):(mPr ρ p).ak=jz4 ρ p.ak:=by obtain⟨kind,name,av,aj,au,rep,ak,l,ay,⟨sk,st,sn,se,spp,sf,sb⟩⟩:=p;simp only[mPr,Pr.ak]
theorem vm9 (p:Pr):(mPr ρ p).l=Jk ρ p.l:=by obtain⟨kind,name,av,aj,au,rep,ak,l,ay,⟨sk,st,sn,se,spp,sf,sb⟩⟩:=p;simp only[mPr,Pr.l]
theorem vn0 (p:Pr):(mPr ρ p).spec.kind=p.spec.kind:=by obtain⟨kind,name,av,aj,au,rep,ak,l,ay,⟨sk,st,sn,se,spp,sf,sb⟩⟩:=p;simp only[mPr,Pr.spec,Sp.kind]
theorem vn1 (p:Pr):(mPr ρ p).spec.e=mEx ρ p.spec.e:=by obtain⟨kind,name,av,aj,au,rep,ak,l,ay,⟨sk,st,sn,se,spp,sf,sb⟩⟩:=p;simp only[mPr,Pr.spec,Sp.e]
theorem vn2 (p:Pr):(mPr ρ p).spec.body=Jk ρ p.spec.body:=by obtain⟨kind,name,av,aj,au,rep,ak,l,ay,⟨sk,st,sn,se,spp,sf,sb⟩⟩:=p;simp only[mPr,Pr.spec,Sp.body]
theorem kg7:∀ l:List Pr,Jk ρ l=l.map (mPr ρ)
 |[]=>by simp[Jk]
 |p::l=>by simp only[Jk,List.map_cons,kg7 l]
theorem jz5:∀ l:List Gu,jz4 ρ l=l.map (mGu ρ)
 |[]=>by simp[jz4]
 |p::l=>by simp only[jz4,List.map_cons,jz5 l]
theorem rl3 (g:Gu):(mGu ρ g).body=Jk ρ g.body:=by cases g;simp only[mGu,Gu.body]
theorem jv3 (g:Gu):(mGu ρ g).aj=jc2 ρ g.aj:=by cases g;simp only[mGu,Gu.aj]
theorem mr5 (p:Pr):aB (mPr ρ p)=(aB p).map (mPr ρ):=by
 unfold aB;rw[vn2,js5,vm9,kg7,kg7,jz5,Av,Av,List.flatMap_map,List.map_flatMap];congr 2;refine congrArg (λf=>List.flatMap f p.ak) ?_;funext g;rw[rl3,kg7]
theorem jv4 {p:Pr}(h:kt2 p):jh5 p.aj/\(p.spec.kind=3->Cz p.spec.e.kind=true)/\jj1 p.spec.body/\jo1 p.ak/\jj1 p.l:=by
 obtain⟨kind,name,av,aj,au,rep,ak,l,ay,⟨sk,st,sn,se,spp,sf,sb⟩⟩:=p;simp only[kt2]at h;exact h
theorem jq6:∀ {l:List Pr},jj1 l->∀ p∈l,kt2 p
 |[],_,p,h=>by cases h
 |q::l,h,p,hp=>by
  simp only[jj1]at h;rcases Bc.1 hp with rfl|hp
  ·exact h.1
  ·exact jq6 h.2 p hp
theorem jq7:∀ {l:List Gu},jo1 l->∀ g∈l,jh5 g.aj/\jj1 g.body
 |[],_,p,h=>by cases h
 |.mk _ _ _ _ aj _ _ body::l,h,p,hp=>by
  simp only[jo1]at h;rcases Bc.1 hp with rfl|hp
  ·exact⟨h.1,h.2.1⟩
  ·exact jq7 h.2.2 p hp
theorem kc2 {p q:Pr}(h:kt2 p)(hq:q∈aB p):kt2 q:=by
 obtain⟨_,_,h1,h2,h3⟩:=jv4 h;unfold aB at hq;simp only[Au,List.mem_flatMap]at hq;rcases hq with (hq|⟨g,hg,hq⟩)|hq
 ·exact jq6 h1 q hq
 ·exact jq6 (jq7 h2 g hg).2 q hq
 ·exact jq6 h3 q hq
theorem vs7 {l:List Pr}(h:jj1 l):kt2 (hdP l):=by
 cases l with
 |nil=>simp[hdP,pr0,sp0,kt2,jj1,jo1,jh5]
 |cons a l=>exact jq6 h a Aw
section
variable (hi:∀ s t,ρ s=ρ t->s=t)(he:ρ ByteArray.empty=ByteArray.empty)
include hi he
omit hi in
theorem vv3 (l:List Pr):hdP (Jk ρ l)=mPr ρ (hdP l):=by
 cases l with
 |nil=>simp only[Jk,hdP];exact(qy1 he).symm
 |cons a l=>simp only[Jk,hdP]
theorem vn3 {w v:Wd}(h:MW ρ w v)(q:Pr)(ht:kt2 q):((mPr ρ q).kind=18/\Ik v (mPr ρ q).spec.kind (mPr ρ q).spec.e (hdP (mPr ρ q).l)=false)↔(q.kind=18/\Ik w q.spec.kind q.spec.e (hdP q.l)=false):=by
 have a:=jv4 ht;rw[my1,vn0,vn1,vm9,vv3 he,qx9 hi h _ _ _ a.2.1 (vs7 a.2.2.2.2)]
omit he in
theorem vp0 {w v:Wd}(h:MW ρ w v)(q:Pr):((mPr ρ q).kind=17/\Li v (mPr ρ q).name (mPr ρ q).au=false)↔(q.kind=17/\Li w q.name q.au=false):=by
 rw[my1,rl2,qy2];refine and_congr_right λh1=>?_;rw[Ad h1,rr1 hi h]
theorem vv4 {w v:Wd}(h:MW ρ w v){p q:Pr}{n:ByteArray}(k:Nm w p q n):kt2 q->Nm v p (mPr ρ q) n:=by
 induction k with
 |@spec p q n h1 hn=>exact λht=>.spec ((vn3 hi he h q ht).2 h1) hn
 |@call p q h1 h2=>exact λht=>.call (λc=>h1 ((vn3 hi he h q ht).1 c)) ((vp0 hi h q).2 h2)
 |@tgt p q k e h1 h2 h3 he'=>exact λht=>.tgt (λc=>h1 ((vn3 hi he h q ht).1 c)) (λc=>h2 ((vp0 hi h q).1 c)) (by rw[jv2,vc4 hi h (jv4 ht).1];exact h3) he'
 |@gu p q k m g g' e h1 h2 h3 hy hg e1 e2 e3 e4=>
  intro ht;have hgs:=(jv4 ht).2.2.2.1;refine .gu (g:=mGu ρ g) (λc=>h1 ((vn3 hi he h q ht).1 c)) (λc=>h2 ((vp0 hi h q).1 c)) (by rw[jv2,ku6 hi h (jv4 ht).1];exact h3) (λy hm=>?_) (λj g2 hj hq=>?_) (by rw[js5,jz5,Bp,e1];rfl) ?_ e3 e4
  ·rw[mr5,<-Fc]at hm;obtain⟨x,hx,rfl⟩:=Br.1 hm;rw[vm7 hi he h x (kc2 ht (List.mem_of_mem_take hx))];exact hy x hx
  ·rw[js5,jz5,Bp]at hq;cases hq2:q.ak[j]? with
   |none=>rw[hq2]at hq;cases hq
   |some g3=>
    rw[hq2]at hq;cases hq;rw[jv3,ku6 hi h (jq7 hgs g3 (Ea hq2)).1];exact hg j g3 hj hq2
  ·rw[jv3,vc4 hi h (jq7 hgs g (Ea e1)).1];exact e2
 |@part p q x y i n h1 h2 h3 hy hg e1 e2 hb _ ih=>
  intro ht;have hgs:=(jv4 ht).2.2.2.1;have hty:=kc2 ht (Ea e2);refine .part (λc=>h1 ((vn3 hi he h q ht).1 c)) (λc=>h2 ((vp0 hi h q).1 c)) (by rw[jv2,ku6 hi h (jv4 ht).1];exact h3) (λy hm=>?_) (λj g2 hj hq=>?_) e1 (y:=mPr ρ y) (by rw[mr5,Bp,e2];rfl) (by rw[vm7 hi he h y hty];exact hb) (ih hty)
  ·rw[mr5,<-Fc]at hm;obtain⟨x,hx,rfl⟩:=Br.1 hm;rw[vm7 hi he h x (kc2 ht (List.mem_of_mem_take hx))];exact hy x hx
  ·rw[js5,jz5,Bp]at hq;cases hq2:q.ak[j]? with
   |none=>rw[hq2]at hq;cases hq
   |some g3=>
    rw[hq2]at hq;cases hq;rw[jv3,ku6 hi h (jq7 hgs g3 (Ea hq2)).1];exact hg j g3 hj hq2
end
theorem jq8 {w:Wd}{l:List Ex}{k:Nat}(h:Ih w [] l=some k)(h2:Mc w l=false):False:=by
 unfold Mc at h2;rw[h]at h2;cases h2
theorem kg8 {l:List Pr}{i j:Nat}{y:Pr}(h:l[i]? =some y)(hij:i<j):y∈l.take j:=by
 obtain⟨h1,rfl⟩:=Ay.1 h;exact List.mem_take_iff_getElem.2 ⟨i,by omega,rfl⟩
theorem vn4 {w:Wd}{p q:Pr}{n:ByteArray}(k:Nm w p q n):∀ {m:ByteArray},Nm w p q m->n=m:=by
 induction k with
 |spec h1 hn=>
  intro m k;cases k with
  |spec _ hm=>rw[hn]at hm;exact Option.some.inj hm
  |call a _=>exact absurd h1 a
  |tgt a=>exact absurd h1 a
  |gu a=>exact absurd h1 a
  |part a=>exact absurd h1 a
 |call h1 h2=>
  intro m k;cases k with
  |spec a _=>exact absurd a h1
  |call=>rfl
  |tgt _ a=>exact absurd h2 a
  |gu _ a=>exact absurd h2 a
  |part _ a=>exact absurd h2 a
 |tgt h1 h2 h3 he=>
  intro m k;cases k with
  |spec a _=>exact absurd a h1
  |call _ a=>exact absurd a h2
  |tgt _ _ a b=>rw[h3]at a;cases a;rw[he]at b;cases b;rfl
  |gu _ _ a=>exact(jq8 h3 a).elim
  |part _ _ a=>exact(jq8 h3 a).elim
 |@gu p q k m1 g g' e h1 h2 h3 hy hg e1 e2 e3 e4=>
  intro m k';cases k' with
  |spec a _=>exact absurd a h1
  |call _ a=>exact absurd a h2
  |tgt _ _ a b=>exact(jq8 a h3).elim
  |@gu _ _ j m2 f f' e' _ _ _ _ hg' f1 f2 f3 f4=>
   rcases Fp k j with hlt|rfl|hlt
   ·exact(jq8 e2 (hg' k g hlt e1)).elim
   ·rw[e1]at f1;cases f1;rw[e2]at f2;cases f2;rw[e3]at f3;cases f3;rw[e4]at f4;cases f4;rfl
   ·exact(jq8 f2 (hg j f hlt f1)).elim
  |@part _ _ x y i _ _ _ _ _ hg' f1 f2 hb _=>
   rcases Ai i (p.spec.body.length+k) with hlt|hge
   ·rw[hy y (kg8 f2 hlt)]at hb;cases hb
   ·exact(jq8 e2 (hg' k g hge e1)).elim
 |@part p q x y i n h1 h2 h3 hy hg e1 e2 hb _ ih=>
  intro m k';cases k' with
  |spec a _=>exact absurd a h1
  |call _ a=>exact absurd a h2
  |tgt _ _ a b=>exact(jq8 a h3).elim
  |@gu _ _ j m2 f f' e' _ _ _ hy' hg' f1 f2 f3 f4=>
   rcases Ai i (p.spec.body.length+j) with hlt|hge
   ·rw[hy' y (kg8 e2 hlt)]at hb;cases hb
   ·exact(jq8 f2 (hg j f hge f1)).elim
  |@part _ _ x' y' i' _ _ _ _ hy' hg' f1 f2 hb' hn'=>
   rcases Fp i i' with hlt|rfl|hlt
   ·rw[hy' y (kg8 e2 hlt)]at hb;cases hb
   ·rw[e1]at f1;cases f1;rw[e2]at f2;cases f2;exact ih hn'
   ·rw[hy y' (kg8 f2 hlt)]at hb';cases hb'
end Al
end
section
namespace Al
open Lx Sc
variable {mm:Int}{tk:List (ByteArray × Int)}
theorem js6 (tk:List (ByteArray × Int))(c:Int)(h0:0<=c):∃ k:Nat,(Co (atC tk c)).1=aC k/\c<k/\aC k∉tk.map (·.1)/\(Co (atC tk c)).2.count=k/\∀ j:Nat,c<j->j<k->aC j∈tk.map (·.1):=by
 obtain⟨k,h1,h2,h3,h4⟩:=jo7 (atC tk c) h0;refine⟨k,h1,h2,h3,h4,λj hj hk=>?_⟩;have h5:((c.toNat+1+skip (atC tk c) (tk.length+1) (c.toNat+1):Nat):Int)=k:=h4;have h6:=Oq (atC tk c) (tk.length+1) (c.toNat+1) (j - (c.toNat+1)) (by omega);rw[show c.toNat+1+(j - (c.toNat+1))=j by omega]at h6;exact h6
open Classical in
noncomputable def Sq (tk:List (ByteArray × Int))(s:ByteArray):ByteArray:=if (∃ k:Nat,1<=k/\s=aC k)/\s∉tk.map (·.1) then (Co (atC tk ((num s:Int) - 1))).1 else s
theorem ko5 {k:Nat}(h1:1<=k)(h2:aC k∉tk.map (·.1)):Sq tk (aC k)=(Co (atC tk k)).1:=by
 unfold Sq;rw[Ad ⟨⟨k,h1,rfl⟩,h2⟩,qs3];rw[show(((k+1:Nat):Int) - 1)=k by omega]
theorem kc3 {s:ByteArray}(h:¬((∃ k:Nat,1<=k/\s=aC k)/\s∉tk.map (·.1))):Sq tk s=s:=by
 unfold Sq;rw[Af h]
theorem vs8 (tk:List (ByteArray × Int)):RhoF (Sq tk) tk:=by
 refine⟨λc hc=>?_,λs hs=>kc3 λh=>h.2 hs,kc3 λh=>?_⟩
 ·obtain⟨k,h1,h2,h3,h4,_⟩:=js6 tk c hc;unfold nxt;rw[h1,h4,ko5 (by omega) h3]
 ·obtain⟨⟨k,_,hk⟩,_⟩:=h;exact mz9 k hk.symm
theorem vc5 (tk:List (ByteArray × Int)):∀ s t,Sq tk s=Sq tk t->s=t:=by
 intro s t h;by_cases hs:(∃ k:Nat,1<=k/\s=aC k)/\s∉tk.map (·.1)
 ·obtain⟨⟨j,hj,rfl⟩,hs2⟩:=hs;obtain⟨a,a1,a2,a3,_,a5⟩:=js6 tk j (by omega);rw[ko5 hj hs2,a1]at h;by_cases ht:(∃ k:Nat,1<=k/\t=aC k)/\t∉tk.map (·.1)
  ·obtain⟨⟨k,hk,rfl⟩,ht2⟩:=ht;obtain⟨b,b1,b2,b3,_,b5⟩:=js6 tk k (by omega);rw[ko5 hk ht2,b1]at h;have hab:=Oa h;subst hab;rcases Fp j k with hlt|rfl|hlt
   ·exact absurd (a5 k (by omega) (by omega)) ht2
   ·rfl
   ·exact absurd (b5 j (by omega) (by omega)) hs2
  ·rw[kc3 ht]at h;exact absurd ⟨⟨a,by omega,h.symm⟩,by rw[<-h];exact a3⟩ ht
 ·rw[kc3 hs]at h;by_cases ht:(∃ k:Nat,1<=k/\t=aC k)/\t∉tk.map (·.1)
  ·obtain⟨⟨k,hk,rfl⟩,ht2⟩:=ht;obtain⟨b,b1,b2,b3,_,b5⟩:=js6 tk k (by omega);rw[ko5 hk ht2,b1]at h;exact absurd ⟨⟨b,by omega,h⟩,by rw[h];exact b3⟩ hs
  ·rw[kc3 ht]at h;exact h
theorem qy3 (tk:List (ByteArray × Int))(s:ByteArray):Sq tk s≠(Co (Sc.start tk)).1:=by
 obtain⟨b,b1,b2,b3,_,b5⟩:=js6 tk 0 (by omega);have e:(Co (Sc.start tk)).1=aC b:=b1;rw[e];intro h;by_cases hs:(∃ k:Nat,1<=k/\s=aC k)/\s∉tk.map (·.1)
 ·obtain⟨⟨j,hj,rfl⟩,hs2⟩:=hs;obtain⟨a,a1,a2,a3,_,a5⟩:=js6 tk j (by omega);rw[ko5 hj hs2,a1]at h;have:=Oa h;subst this;exact absurd (b5 j (by omega) (by omega)) hs2
 ·rw[kc3 hs]at h;exact hs ⟨⟨b,by omega,h⟩,by rw[h];exact b3⟩
theorem rl4 (tk:List (ByteArray × Int))(z:ByteArray):Mv (Sq tk) tk z (Sc.start tk) (tau tk z ex0):=by
 have hl:∀ s,((tau tk z ex0).env s)=if s=z then [⟨(Co (Sc.start tk)).1,false,[]⟩] else []:=λs=>by
  simp only[tau,Cn];split<;>simp
 refine⟨⟨λs=>?_,(λs x h=>by cases h),(λs hs _=>by rw[hl,Af hs];rfl),(λs t h=>by cases h)⟩,Eu 0,rfl,?_,rfl,rfl⟩
 ·unfold qe7;rw[hl];by_cases h:s=z
  ·rw[Ad h];rfl
  ·rw[Af h];rfl
 ·simp[tau,ex0,Kg,Ii,Cz,Sc.start]
structure Unused (p:Pr)(z:ByteArray):Prop where
 err:Gn (Gx 1 z ex0 p)=Gn p
 reads:jq3 (Gx 1 z ex0 p)=jq3 p
 writes:jl1 (Gx 1 z ex0 p)=jl1 p
 alias:jh1 (Gx 1 z ex0 p)=jh1 p
 name:∀ n m,Gn p=0->jh1 p=150->Nm (mk1 p) p (Dg p) n->Nm (mk1 (Gx 1 z ex0 p)) (Gx 1 z ex0 p) (Dg (Gx 1 z ex0 p)) m->m=n
theorem rl5 (w:Wd)(f:ByteArray)(e:Ex)(p:Pr):z1 w (Gx 1 f e p)=z1 {w with known:=addN w.known f} p:=by
 simp[Gx,z1,Df,Gp,Im,Js,rp0,Ic]
theorem vn5 (w:Wd)(f:ByteArray)(p:Pr):jb5 w (Gx 1 f ex0 p)=jb5 w p:=by
 simp[Gx,jb5,jm1,jp8,qf7,jt4,jb4,Ii,Kg,Cz,ex0,rp0]
theorem vs9 (w:Wd)(f:ByteArray)(e:Ex)(p:Pr):jt1 w (Gx 1 f e p)=jt1 w p:=by
 simp[Gx,jt1,kb6,km4,jc6]
theorem rr2 {ρ:ByteArray->ByteArray}(hi:∀ s t,ρ s=ρ t->s=t){A ns:List ByteArray}(h:∀ s∈ns,ρ s=s):je6 (A.map ρ) ns=je6 A ns:=by
 unfold je6;refine List.filter_congr λs hs=>?_;rw[decide_eq_decide];have:=ke9 hi (s:=s) (l:=A)
 rwa [h s hs]at this
theorem vn6 {p:Pr}{z:ByteArray}(hp:Gq p=true)(hq:Gq (Gx 1 z ex0 p)=true)(hz:z∉Cy p):Unused p z:=by
 have hi:=vc5 (Di p);have hr:=vs8 (Di p);have hgood:jh6 (Di p) z (Fz (Sc.start (Di p)) p).2:=λs hs=>by
  rw[Rh _ []]at hs;have hf:=ky4.2 hs;exact⟨jx3.2 (.inl hf),λe=>hz (e ▸ hf)⟩
 have key:=vm0 hr p _ _ (rl4 (Di p) z) (qp3 p (je8 hp).1) (λt ht=>jx3.2 (.inr ht)) hgood;have hev:(Fz (Sc.start []) (Gx 1 z ex0 p)).2.ev=(Fz (Sc.start []) p).2.ev:=by
  rw[Rh [] (Di p),Rh [] (Di p),vl8 _ _ _ _ _ (by decide)];exact key.mv.ev
 have hfree:Cy (Gx 1 z ex0 p)=Cy p:=by
  unfold Cy;rw[hev]
 have herr:Gn (Gx 1 z ex0 p)=Gn p:=by
  unfold Gn;rw[Ad hp,Ad hq,hfree];unfold Ja;rw[hev]
 have htk:Di (Gx 1 z ex0 p)=Di p:=by
  unfold Di;rw[hfree];congr 1;simp[Dm,Gx,Jl,Kc,pt0]
 have hu:Dg (Gx 1 z ex0 p)=Gx 1 (Co (Sc.start (Di p))).1 ex0 (mPr (Sq (Di p)) (Dg p)):=by
  unfold Dg;rw[htk,vl8 _ _ _ _ _ (by decide)];exact congrArg (Gx 1 (Co (Sc.start (Di p))).1 ex0) key.eq
 by_cases h0:Gn p=0
 ·have na:=jy7 h0;have hfx:∀ s∈Cy p,Sq (Di p) s=s:=λs hs=>hr.fix s (jx3.2 (.inl hs));have ht:=rq5 _ (je8 na.mayq).1;have hw:MW (Sq (Di p)) (mk1 p) (mk1 (Gx 1 z ex0 p)):=by
   have e:mk1 (Gx 1 z ex0 p)=z1 {w0 p with known:=addN (w0 p).known (Co (Sc.start (Di p))).1} (mPr (Sq (Di p)) (Dg p)):=by
    unfold mk1;rw[hu,rl5];unfold w0;rw[hfree]
   rw[e];refine qx8 hi hr.emp (Dg p) ⟨λs=>?_,rfl,rfl⟩ ht;dsimp only[w0];rw[ji1,jd3,jd3];constructor
   ·rintro((h|h)|h)
    ·cases h
    ·have h2:=hfx _ h;rw[hi _ _ h2]at h;exact .inr h
    ·exact absurd h (qy3 _ s)
   ·rintro(h|h)
    ·cases h
    ·exact .inl (.inr (by rw[hfx s h];exact h))
  have hbr:brB (mk1 (Gx 1 z ex0 p)) (Dg (Gx 1 z ex0 p))=brB (mk1 p) (Dg p):=by
   rw[hu,vb4,jz3,vm7 hi hr.emp hw _ ht];rfl
  refine⟨herr,?_,?_,?_,λn m _ _ hn hm=>?_⟩
  ·show(if Gn (Gx 1 z ex0 p)=0 then je6 (jb5 (mk1 (Gx 1 z ex0 p)) (Dg (Gx 1 z ex0 p))) (Cy (Gx 1 z ex0 p)) else [])=if Gn p=0 then je6 (jb5 (mk1 p) (Dg p)) (Cy p) else [];rw[herr,Ad h0,Ad h0,hfree,hu,vn5,rk7 hi hw,rr2 hi hfx]
  ·show(if Gn (Gx 1 z ex0 p)=0 then je6 (jt1 (mk1 (Gx 1 z ex0 p)) (Dg (Gx 1 z ex0 p))) (Cy (Gx 1 z ex0 p)) else [])=if Gn p=0 then je6 (jt1 (mk1 p) (Dg p)) (Cy p) else [];rw[herr,Ad h0,Ad h0,hfree,hu,vs9,vm5 hi hw _ ht,rr2 hi hfx]
  ·show(if Gn (Gx 1 z ex0 p)=0 then (if brB (mk1 (Gx 1 z ex0 p)) (Dg (Gx 1 z ex0 p))=true then 150 else 0) else Gn (Gx 1 z ex0 p))=if Gn p=0 then (if brB (mk1 p) (Dg p)=true then (150:Int) else 0) else Gn p;rw[herr,Ad h0,Ad h0,hbr]
  ·have h2:=vv4 hi hr.emp hw hn ht;rw[hu]at hm;rcases vb6 hm with h|h
   ·rw[jz3]at h;cases h.1
   ·exact vn4 h.2 h2
 ·refine⟨herr,?_,?_,?_,λn m h=>absurd h h0⟩
  ·unfold jq3;rw[herr,Af h0,Af h0]
  ·unfold jl1;rw[herr,Af h0,Af h0]
  ·unfold jh1;rw[herr,Af h0,Af h0]
end Al
end
section
def Sb:List Nat:=[0,1,2,3,4,5,6,7,8,9,16,36]
def ku7:Plan:=lin [0,4,8,12,16,20,24,28,32,37,45,42,50,54,56,60,65,73,70,78,82,84,88,94,96,100]
variable {mm:Int}
namespace Al
open Lx Sc
def nZ:ByteArray:=⟨#[122,122,46,122,122]⟩
theorem vn7 {k:Int}{x:ByteArray}{e:Ex}{p:Pr}(h:Lx.kPr p):Lx.kPr (Gx k x e p):=by
 simp only[Gx,Lx.kPr,Pw,Ud];simp[h]
theorem qy4 {p:Pr}(h:jh1 p=150):Gn p=0:=by
 unfold jh1 at h;split at h
 ·assumption
 ·rename_i h0;rcases qo2 p h0 with h2|h2<;>omega
attribute [local irreducible] TR TC
theorem qf1 (p:Pr)(hk:Lx.kPr p)(hh:FnD prog (glS mm) 7 [] (λv=>v=.d (.bool true))):
 FnD prog (glS mm) 5 [.d (dPr p)] (λv=>v=.d (.bool true)):=by
 have c1:=qe5 (glS mm) p;have c2:=kt1 (glS mm) p hk;have c4:=rf9 (mm:=mm) p;have c5:=qw3 (glS mm) 1 nZ ex0 p;have c6:=kt1 (glS mm) (Gx 1 nZ ex0 p) (vn7 hk);simp only[v7,r8]at c1 c2 c4 c5 c6 ⊢;by_cases hl:120<IntKind.i64.wrap (Sc.Kb p)
 ·rw[Bm hl]at c1
  (refine j4 func5 ntmps5 results5 λw M=>?_)
  (repeat' first|apply Ca 1;(refine Ck 1 ?_)|refine yyp ?_;try refine Ce ?_ ?_<;>intro hb|refine yy ?_|apply Cf 6;refine Ci (hc:=(by exact c1)) ?_;try refine Ce ?_ ?_<;>intro hb|apply Cf 7;refine Ci (hc:=(by exact hh)) ?_;try refine Ce ?_ ?_<;>intro hb|apply ah;refine Cc Sb ?_|refine Cb λK hK=>?_|apply Cg 9;refine j0 [] ku7 ?_|apply_assumption -exfalso -symm)
  (refine j1 (j7 ?_))
  rfl
 rw[Bl hl]at c1;by_cases hm:Gq p=true;rotate_left
 ·rw[show Gq p=false by simpa using hm]at c2
  (refine j4 func5 ntmps5 results5 λw M=>?_)
  (repeat' first|apply Ca 1;(refine Ck 1 ?_)|refine yyp ?_;try refine Ce ?_ ?_<;>intro hb|refine yy ?_|apply Cf 6;refine Ci (hc:=(by exact c1)) ?_;try refine Ce ?_ ?_<;>intro hb|apply Cf 15;refine Ci (hc:=(by exact c2)) ?_;try refine Ce ?_ ?_<;>intro hb|apply Cf 7;refine Ci (hc:=(by exact hh)) ?_;try refine Ce ?_ ?_<;>intro hb|apply ah;refine Cc Sb ?_|refine Cb λK hK=>?_|apply Cg 9;refine j0 [] ku7 ?_|apply_assumption -exfalso -symm)
  (refine j1 (j7 ?_))
  rfl
 rw[hm]at c2;rw[Ad hm,Ad hm]at c4;have cin:=vj0 (glS mm) (Cy p) nZ;by_cases hz:nZ∈Cy p
 ·rw[vk9 hz]at cin
  (refine j4 func5 ntmps5 results5 λw M=>?_)
  (repeat' first|apply Ca 1;(refine Ck 1 ?_)|apply Ca 5;(refine j2 5 ?_)|refine yyp ?_;try refine Ce ?_ ?_<;>intro hb|refine yy ?_|apply Cf 6;refine Ci (hc:=(by exact c1)) ?_;try refine Ce ?_ ?_<;>intro hb|apply Cf 15;refine Ci (hc:=(by exact c2)) ?_;try refine Ce ?_ ?_<;>intro hb|apply Cf 10;refine Ci (hc:=(by exact c4)) ?_|apply Cf 17;refine Ci (hc:=(by exact c5)) ?_|apply Cf 11;refine Ci (hc:=(by exact cin)) ?_;try refine Ce ?_ ?_<;>intro hb|apply Cf 7;refine Ci (hc:=(by exact hh)) ?_;try refine Ce ?_ ?_<;>intro hb|apply ah;refine Cc Sb ?_|refine Cb λK hK=>?_|apply Cg 9;refine j0 [] ku7 ?_|apply_assumption -exfalso -symm)
  (refine j1 (j7 ?_))
  rfl
 rw[show(Cy p).any (isB nZ)=false by rw[Bool.eq_false_iff];intro h;obtain⟨t,ht,e⟩:=Ek.1 h;rw[Ml]at e;exact hz (e ▸ ht)]at cin;by_cases hmq:Gq (Gx 1 nZ ex0 p)=true;rotate_left
 ·rw[show Gq (Gx 1 nZ ex0 p)=false by simpa using hmq]at c6
  (refine j4 func5 ntmps5 results5 λw M=>?_)
  (repeat' first|apply Ca 1;(refine Ck 1 ?_)|apply Ca 5;(refine j2 5 ?_)|refine yyp ?_;try refine Ce ?_ ?_<;>intro hb|refine yy ?_|apply Cf 6;refine Ci (hc:=(by exact c1)) ?_;try refine Ce ?_ ?_<;>intro hb|apply Cf 15;refine Ci (hc:=(by exact c2)) ?_;try refine Ce ?_ ?_<;>intro hb|apply Cf 10;refine Ci (hc:=(by exact c4)) ?_|apply Cf 17;refine Ci (hc:=(by exact c5)) ?_|apply Cf 11;refine Ci (hc:=(by exact cin)) ?_;try refine Ce ?_ ?_<;>intro hb|apply Cf 15;refine Ci (hc:=(by exact c6)) ?_;try refine Ce ?_ ?_<;>intro hb|apply Cf 7;refine Ci (hc:=(by exact hh)) ?_;try refine Ce ?_ ?_<;>intro hb|apply ah;refine Cc Sb ?_|refine Cb λK hK=>?_|apply Cg 9;refine j0 [] ku7 ?_|apply_assumption -exfalso -symm)
  (refine j1 (j7 ?_))
  rfl
 rw[hmq]at c6;have u:=vn6 hm hmq hz;have d1:=jm5 (mm:=mm) p;have d2:=jm5 (mm:=mm) (Gx 1 nZ ex0 p);have r1:=ko2 (mm:=mm) p;have r2:=ko2 (mm:=mm) (Gx 1 nZ ex0 p);have w1:=kc0 (mm:=mm) p;have w2:=kc0 (mm:=mm) (Gx 1 nZ ex0 p);rw[u.reads]at r2;rw[u.writes]at w2;rw[u.err,u.alias]at d2;have hname:=u.name;have hal:=qy4 (p:=p);clear u;generalize jq3 p=rd at r1 r2;generalize jl1 p=wt at w1 w2;have s1:=jr4 (glS mm) rd rd;have s2:=jr4 (glS mm) wt wt;rw[show eqB rd rd=true from j9.2 rfl]at s1;rw[show eqB wt wt=true from j9.2 rfl]at s2;simp only[v7]at d1 d2 r1 r2 w1 w2;generalize jh1 p=ae at d1 d2 hname hal;have hone:∀ n m,((ae=150->Gn p=0->Nm (mk1 p) p (Dg p) n)/\(ae≠150->n=ByteArray.empty))->((ae=150->Gn p=0->Nm (mk1 (Gx 1 nZ ex0 p)) (Gx 1 nZ ex0 p) (Dg (Gx 1 nZ ex0 p)) m)/\(ae≠150->m=ByteArray.empty))->m=n:=λn m h1 h2=>by
  by_cases ha:ae=150
  ·exact hname n m (hal ha) ha (h1.1 ha (hal ha)) (h2.1 ha (hal ha))
  ·rw[h1.2 ha,h2.2 ha]
 clear hname hal
 (refine j4 func5 ntmps5 results5 λw M=>?_)
 (repeat' first|apply Ca 1;(refine Ck 1 ?_)|apply Ca 5;(refine j2 5 ?_)|refine yyp ?_;try refine Ce ?_ ?_<;>intro hb|refine yy ?_|apply Cf 6;refine Ci (hc:=(by exact c1)) ?_;try refine Ce ?_ ?_<;>intro hb|apply Cf 15;refine Ci (hc:=(by exact c2)) ?_;try refine Ce ?_ ?_<;>intro hb|apply Cf 10;refine Ci (hc:=(by exact c4)) ?_|apply Cf 17;refine Ci (hc:=(by exact c5)) ?_|apply Cf 11;refine Ci (hc:=(by exact cin)) ?_;try refine Ce ?_ ?_<;>intro hb|apply Cf 15;refine Ci (hc:=(by exact c6)) ?_;try refine Ce ?_ ?_<;>intro hb|apply ah;refine Cc Sb ?_|refine Cb λK hK=>?_|apply Cg 9;refine j0 [] ku7 ?_|apply_assumption -exfalso -symm)
 (repeat' first|apply Ca 40;(refine qg0 (hc:=d1) ?_;rintro _ ⟨n1,ha1,rfl⟩)|apply Ca 45;(refine qg0 (hc:=d2) ?_;rintro _ ⟨n2,ha2,rfl⟩;obtain rfl:=hone n1 n2 ha1 ha2)|refine yyp ?_;try refine Ce ?_ ?_<;>intro hb|refine yy ?_|refine yy2 ?_ ?_<;>intro hcmp|apply Cf 8;refine Ci (hc:=(by exact r1)) ?_|apply Cf 8;refine Ci (hc:=(by exact r2)) ?_|apply Cf 14;refine Ci (hc:=(by exact s1)) ?_;try refine Ce ?_ ?_<;>intro hb|apply Cf 9;refine Ci (hc:=(by exact w1)) ?_|apply Cf 9;refine Ci (hc:=(by exact w2)) ?_|apply Cf 14;refine Ci (hc:=(by exact s2)) ?_;try refine Ce ?_ ?_<;>intro hb|apply Cf 7;refine Ci (hc:=(by exact hh)) ?_;try refine Ce ?_ ?_<;>intro hb|apply ah;refine Cc Sb ?_|refine Cb λK hK=>?_|apply Cg 9;refine j0 [] ku7 ?_|apply_assumption -exfalso -symm)
 all_goals first
  |((refine j1 (j7 ?_))
    rfl)
  |(exfalso;exact hcmp rfl)
  |(exfalso;simp at hcmp;done)
  |(exfalso;simp_all;done)
theorem Uc (p:Pr)(hk:Lx.kPr p):FnD prog (glS mm) 5 [.d (dPr p)] (λv=>v=.d (.bool true)):=qf1 p hk qw7
end Al
end
end Go.Proofs.YtklklgfpkpglgaaGreatDoor
