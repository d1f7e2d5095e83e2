/- Parts. -/
import Derived.Test.YtklklgfpkpglgaaGreatDoorW39
import Derived.Test.YtklklgfpkpglgaaGreatDoorW34
set_option linter.all false
set_option maxRecDepth 100000
set_option maxHeartbeats 0
namespace Go.Proofs.YtklklgfpkpglgaaGreatDoor
open Go.RowKit Go.Proofs.Tryz
section
namespace Sc
open Lx
mutual
theorem kq7:∀ (e:Ex) (deep left:Int),(Dn deep left e).1=true->(exN e:Int)+(Dn deep left e).2<=left/\0<=(Dn deep left e).2
 |.mk kind op ty n s l,deep,left,h=>by
  rw[Dn]at h ⊢;split at h
  ·cases h
  ·rename_i hc;rw[Af hc];have:=kj9 l (deep+1) (left - 1) (by simp only[not_or]at hc;omega) h;simp only[exN];omega
theorem kj9:∀ (l:List Ex) (deep left:Int),0<=left->(Fx deep left l).1=true->(Gb l:Int)+(Fx deep left l).2<=left/\0<=(Fx deep left l).2
 |[],deep,left,h0,h=>by
  rw[Fx];simp only[Gb];omega
 |e::l,deep,left,h0,h=>by
  rw[Fx]at h ⊢;split at h
  ·rename_i hc;rw[Ae hc];have h1:=kq7 e deep left hc;have h2:=kj9 l deep _ h1.2 h;simp only[Gb];omega
  ·rename_i hc;exact absurd h hc
end
theorem ji8 {e:Ex}(h:Gc e=true):exN e<=256:=by
 have:=kq7 e 1 256 h;omega
theorem jd2 {e:Ex}(h:Iy e=true):exN e<=256:=by
 unfold Iy at h;rw[r8]at h;subst h;simp[ex0,exN,Gb]
theorem jq4 {e:Ex}(h:Gd e=true):exN e<=256:=by
 unfold Gd at h;rw[Ab]at h;exact ji8 h.2
theorem me0:∀ {l:List Ex},(∀ x∈l,exN x<=256)->Gb l<=256 * l.length
 |[],_=>Au _
 |e::l,h=>by
  have h1:=h e (Be ..);have h2:=me0 (l:=l) λx hx=>h x (Bh _ hx);simp only[Gb,An];omega
theorem jx4 {l:List Ex}{a b:Int}{f:Ex->Bool}{m:Nat}(h:Co l a b f=true)(hf:∀ e,f e=true->exN e<=256)(hb:b<=m):Gb l<=256 * m:=by
 unfold Co hasB at h;simp only[Ab,Aj,By]at h;have h1:=me0 λx hx=>hf x (h.2 x hx);omega
theorem qh7 (k:Int):(Gx k).1.t1<=8/\(Gx k).1.e1<=9/\(Gx k).1.g1<=16:=by
 unfold Gx;by_cases c0:k=1\/k=2
 ·rw[Ae c0];simp[Gj]
 rw[Af c0];by_cases c1:k=3
 ·rw[Ae c1];simp[Gj]
 rw[Af c1];by_cases c2:k=4
 ·rw[Ae c2];simp[Gj]
 rw[Af c2];by_cases c3:k=5
 ·rw[Ae c3];simp[Gj]
 rw[Af c3];by_cases c4:k=6
 ·rw[Ae c4];simp[Gj]
 rw[Af c4];by_cases c5:k=7
 ·rw[Ae c5];simp[Gj]
 rw[Af c5];by_cases c6:k=8\/k=9
 ·rw[Ae c6];simp[Gj]
 rw[Af c6];by_cases c7:k=10
 ·rw[Ae c7];simp[Gj]
 rw[Af c7];by_cases c8:k=11
 ·rw[Ae c8];simp[Gj]
 rw[Af c8];by_cases c9:k=12\/k=13
 ·rw[Ae c9];simp[Gj]
 rw[Af c9];by_cases c10:k=14
 ·rw[Ae c10];simp[Gj]
 rw[Af c10];by_cases c11:k=15
 ·rw[Ae c11];simp[Gj]
 rw[Af c11];by_cases c12:k=16
 ·rw[Ae c12];simp[Gj]
 rw[Af c12];by_cases c13:k=17
 ·rw[Ae c13];simp[Gj]
 rw[Af c13];by_cases c14:k=18
 ·rw[Ae c14];simp[Gj]
 rw[Af c14];simp[Gj]
theorem me1 (u:Uses)(r:ByteArray)(h:u.t1<=8/\u.e1<=9/\u.g1<=16):(Ig u r).t1<=8/\(Ig u r).e1<=9/\(Ig u r).g1<=16:=by
 unfold Ig
 repeat' split
 all_goals simp_all
theorem qh8 {g:Gu}(h:Jw g=true):Qm g.cond g.av g.aj g.values g.time<=4864:=by
 unfold Jw at h;simp only[Ab]at h;obtain⟨⟨⟨⟨⟨⟨⟨_,_⟩,h2⟩,_⟩,h3⟩,h4⟩,h5⟩,h6⟩:=h;have a1:exN g.cond<=256:=by
  split at h2
  ·simp only[Bq,Ab]at h2;rcases h2 with h2|h2
   ·exact ji8 h2
   ·exact jd2 h2.2
  ·exact jd2 h2
 have a2:exN g.av<=256:=by
  split at h3
  ·exact jq4 h3
  ·exact jd2 h3
 have a3:exN g.time<=256:=by
  split at h4
  ·exact ji8 h4
  ·exact jd2 h4
 have a4:=jx4 (m:=8) h5 (λe=>jq4) (by split<;>decide);have a5:=jx4 (m:=8) h6 (λe=>ji8) (by split<;>decide);unfold Qm;omega
theorem rm9 {a b:Int}{n:Nat}(h:hasB a b n=true):(n:Int)<=b:=by
 unfold hasB at h;simp only[Ab,Aj]at h;exact h.2
theorem jl1 {α:Type}{l:List α}{a b:Int}{f:α->Bool}(h:Co l a b f=true):(l.length:Int)<=b:=by
 unfold Co at h;rw[Ab]at h;exact rm9 h.1
theorem qh9 {s:Sp}(h:Ic s=true):s.names.length<=8/\s.ax.length<=8/\exN s.e<=256/\s.aN.l.length<=16:=by
 unfold Ic at h;by_cases k1:s.kind=1
 ·rw[Ae k1]at h;simp only[Ab,Aj,r8]at h;obtain⟨⟨⟨⟨⟨h1,h2⟩,h3⟩,h4⟩,h5⟩,h6⟩:=h;have:=jl1 h2;refine⟨by omega,by omega,jd2 h3,?_⟩;rw[h4];simp[pt0]
 rw[Af k1]at h;by_cases k2:s.kind=2
 ·rw[Ae k2]at h;simp only[Ab,Aj,r8]at h;obtain⟨⟨⟨⟨⟨h1,h2⟩,h3⟩,h4⟩,h5⟩,h6⟩:=h;have:=jl1 h3;refine⟨by omega,by omega,ji8 h2,?_⟩;rw[h4];simp[pt0]
 rw[Af k2]at h;by_cases k3:s.kind=3
 ·rw[Ae k3]at h;simp only[Ab,Aj,r8]at h;obtain⟨⟨⟨⟨⟨h1,h2⟩,h3⟩,h4⟩,h5⟩,h6⟩:=h;have:=jl1 h3;refine⟨by omega,by omega,jq4 h2,?_⟩;rw[h4];simp[pt0]
 rw[Af k3]at h;by_cases k4:s.kind=4
 ·rw[Ae k4]at h;simp only[Ab,Aj,r8]at h;obtain⟨⟨⟨⟨⟨h1,h2⟩,h3⟩,h4⟩,h5⟩,h6⟩:=h;have:=jl1 h2;refine⟨by omega,by omega,jd2 h4,?_⟩;unfold Ny at h1;split at h1
  ·simp only[Ab,Aj]at h1;omega
  ·split at h1
   ·rename_i hv;rw[hv];simp
   ·cases h1
 rw[Af k4]at h;by_cases k5:s.kind=5
 ·rw[Ae k5]at h;simp only[Ab,Aj,r8]at h;obtain⟨⟨⟨⟨⟨h1,h2⟩,h3⟩,h4⟩,h5⟩,h6⟩:=h;have:=jl1 h3;have:=jl1 h2;refine⟨by omega,by omega,jd2 h5,?_⟩;rw[h6];simp[pt0]
 rw[Af k5]at h;cases h
theorem qx9:sp0.names.length<=8/\sp0.ax.length<=8/\exN sp0.e<=256/\sp0.aN.l.length<=16:=by
 refine⟨by decide,by decide,?_,by decide⟩;simp[sp0,Sp.e,ex0,exN,Gb]
theorem kb4 {p:Pr}(h:Gv p=true):Gz p.av p.aj p.au p.rep<=6000/\(p.spec.names.length<=8/\p.spec.ax.length<=8/\exN p.spec.e<=256/\p.spec.aN.l.length<=16)/\p.ak.length<=16/\(∀ g∈p.ak,Jw g=true)/\p.ay.length<=p.l.length:=by
 unfold Gv at h;have hu:=me1 _ p.rep.name (qh7 p.kind);simp only[Ab]at h;obtain⟨⟨⟨_,h2⟩,_⟩,⟨⟨⟨⟨⟨⟨⟨_,h5⟩,_⟩,h7⟩,h8⟩,h9⟩,h10⟩,h11⟩⟩:=h;have a1:Na p.rep<=513:=by
  unfold Ii at h2;unfold Na;split at h2
  ·simp only[Ab]at h2;have:=jd2 h2.1;have:=jd2 h2.2;omega
  ·simp only[Ab]at h2;have:=ji8 h2.1.2;have:=ji8 h2.2;omega
 have a2:exN p.av<=256:=by
  split at h7
  ·exact jq4 h7
  ·exact jd2 h7
 have a3:=jx4 (m:=8) h8 (λe=>jq4) (by omega);have a4:=jx4 (m:=9) h9 (λe=>ji8) (by omega);refine⟨by unfold Gz;omega,?_,?_,?_,?_⟩
 ·split at h11
  ·exact qh9 h11
  ·rw[r8]at h11;rw[h11];exact qx9
 ·have:=jl1 h5;omega
 ·intro g hg;unfold Co at h5;simp only[Ab,By]at h5;exact(h5.2 g hg).2
 ·have:=jl1 h10;split at this<;>omega
end Sc
end
section
namespace Sc
open Lx
mutual
theorem kv9:∀ p:Pr,Iw p->prN p<=90000 * Kh p/\(Dr p).length<=32 * Kh p
 |.mk kind name av aj au rep ak l ay (.mk sk st sn se spp sf sb),h=>by
  simp only[Iw]at h;obtain⟨h1,h2,h3,h4⟩:=h;obtain⟨a1,⟨a2,a3,a4,a5⟩,a6,a7,_⟩:=kb4 h1;simp only[Pr.av,Pr.aj,Pr.au,Pr.rep,Pr.spec,Pr.ak,Sp.names,Sp.ax,Sp.e,Sp.aN]at a1 a2 a3 a4 a5 a6 a7;have b1:=kf5 sb h2;have b2:=mr1 ak a7 h3;have b3:=kf5 l h4;simp only[prN,Dr,Kh,Ag,Aa];omega
theorem kf5:∀ l:List Pr,jc3 l->Kw l<=90000 * Gl l/\(Kr l).length<=32 * Gl l
 |[],_=>⟨Au _,Au _⟩
 |p::l,h=>by
  simp only[jc3]at h;have h1:=kv9 p h.1;have h2:=kf5 l h.2;simp only[Kw,Kr,Gl,Ag];omega
theorem mr1:∀ l:List Gu,(∀ g∈l,Jw g=true)->ji4 l->Ms l<=4864 * l.length+90000 * Jd l/\(Lc l).length<=l.length+32 * Jd l
 |[],_,_=>⟨Au _,Au _⟩
 |.mk kind name cond av aj values time body::l,hm,h=>by
  simp only[ji4]at h;have h0:=qh8 (hm _ (Be ..));simp only[Gu.cond,Gu.av,Gu.aj,Gu.values,Gu.time]at h0;have h1:=kf5 body h.1;have h2:=mr1 l (λg hg=>hm g (Bh _ hg)) h.2;simp only[Ms,guN,Lc,Jt,Jd,Ag,An];omega
end
theorem me2:∀ (pre l:List Va),Ot pre l=true->∀ v∈l,v.items.length<=8
 |_,[],_,v,hv=>by cases hv
 |pre,w::l,h,v,hv=>by
  simp only[Ot,Ab]at h;rcases Bg.1 hv with rfl|hv
  ·have:=h.1.1.2;unfold Lh at this;simp only[Ab,Aj]at this;omega
  ·exact me2 _ l h.2 v hv
theorem qy0 {p:Pt}(h:Ny p=true):∀ v∈p.l,v.items.length<=8:=by
 unfold Ny at h;split at h
 ·rw[Ab]at h;exact me2 _ _ h.2
 ·split at h
  ·rename_i v hv;intro w hw;rw[hv,Bu]at hw;subst hw;unfold Lh at h;simp only[Ab,Aj]at h;omega
  ·cases h
theorem qy1 {s:Sp}(h:Ic s=true):∀ v∈s.aN.l,v.items.length<=8:=by
 have key:s.aN=pt0\/Ny s.aN=true:=by
  unfold Ic at h;by_cases k1:s.kind=1
  ·rw[Ae k1]at h;simp only[Ab,Aj,r8]at h;exact .inl h.1.1.2
  rw[Af k1]at h;by_cases k2:s.kind=2
  ·rw[Ae k2]at h;simp only[Ab,Aj,r8]at h;exact .inl h.1.1.2
  rw[Af k2]at h;by_cases k3:s.kind=3
  ·rw[Ae k3]at h;simp only[Ab,Aj,r8]at h;exact .inl h.1.1.2
  rw[Af k3]at h;by_cases k4:s.kind=4
  ·rw[Ae k4]at h;simp only[Ab,Aj,r8]at h;exact .inr h.1.1.1.1.1
  rw[Af k4]at h;by_cases k5:s.kind=5
  ·rw[Ae k5]at h;simp only[Ab,Aj,r8]at h;exact .inl h.2
  rw[Af k5]at h;cases h
 rcases key with e|e
 ·rw[e];intro v hv;cases hv
 ·exact qy0 e
theorem ml4 {p:Pr}(h:Gv p=true):∀ v∈p.spec.aN.l,v.items.length<=8:=by
 unfold Gv at h;simp only[Ab]at h;obtain⟨_,⟨_,h11⟩⟩:=h;split at h11
 ·exact qy1 h11
 ·rw[r8]at h11;rw[h11];intro v hv;cases hv
theorem qi0:∀ l:List Pr,l.length<=Gl l
 |[]=>Au _
 |p::l=>by
  have:=qi0 l;have:1<=Kh p:=by
   obtain⟨_,_,_,_,_,_,_,_,_,⟨_,_,_,_,_,_,_⟩⟩:=p;simp only[Kh];omega
  simp only[Gl,An];omega
mutual
theorem rg3:∀ p:Pr,Iw p->Kh p<=2048->kv4 p
 |.mk kind name av aj au rep ak l ay (.mk sk st sn se spp sf sb),h,hs=>by
  simp only[Iw]at h;obtain⟨h1,h2,h3,h4⟩:=h;obtain⟨_,⟨_,_,_,a5⟩,_,_,a8⟩:=kb4 h1;have a9:=ml4 h1;simp only[Pr.spec,Sp.aN,Pr.ay,Pr.l]at a5 a8 a9;simp only[Kh]at hs;have:=qi0 l;simp only[kv4];exact⟨⟨by omega,by omega,λv hv=>by have:=a9 v hv;omega⟩,kw0 sb h2 (by omega),qi1 ak h3 (by omega),kw0 l h4 (by omega)⟩
theorem kw0:∀ l:List Pr,jc3 l->Gl l<=2048->jt9 l
 |[],_,_=>by simp only[jt9]
 |p::l,h,hs=>by
  simp only[jc3]at h;simp only[Gl]at hs;simp only[jt9];exact⟨rg3 p h.1 (by omega),kw0 l h.2 (by omega)⟩
theorem qi1:∀ l:List Gu,ji4 l->Jd l<=2048->kj7 l
 |[],_,_=>by simp only[kj7]
 |.mk _ _ _ _ _ _ _ body::l,h,hs=>by
  simp only[ji4]at h;simp only[Jd]at hs;simp only[kj7];exact⟨kw0 body h.1 (by omega),qi1 l h.2 (by omega)⟩
end
theorem qy2 (s:ByteArray):∀ l:List ByteArray,(md1 l s).length<=l.length+1:=λl=>by
 induction l with
 |nil=>simp[md1]
 |cons x l ih=>
  simp only[md1]
  repeat' split
  all_goals simp only[An]at *
  all_goals omega
theorem kw1 (l:List ByteArray):(once l).length<=l.length:=by
 have:∀ (l m:List ByteArray),(l.foldl md1 m).length<=m.length+l.length:=by
  intro l
  induction l with
  |nil=>intro m;simp
  |cons x l ih=>
   intro m;have h1:=ih (md1 m x);have h2:=qy2 x m;simp only[List.foldl_cons,An];omega
 simpa [once]using this l []
theorem mr2:∀ (tk:List (ByteArray × Int)) (s:ByteArray),(Nb tk s).length<=tk.length+1
 |[],s=>by simp[Nb]
 |x::l,s=>by
  have:=mr2 l s;simp only[Nb];split<;>simp only[An]<;>omega
theorem jq5:∀ (l:List ByteArray) (tk:List (ByteArray × Int)),(Dv tk l).length<=tk.length+l.length
 |[],tk=>by simp[Dv]
 |s::l,tk=>by
  have h1:=jq5 l (Nb tk s);have h2:=mr2 tk s;have h3:Dv tk (s::l)=Dv (Nb tk s) l:=rfl;rw[h3,An];omega
theorem me3 {tk:List (ByteArray × Int)}{m:Nat}(h1:∀ x∈tk,x.2≠0)(h2:tk.length<=300000000)(h3:m<=300000000):(start tk).fit m:=by
 refine⟨h1,⟨Ez _,?_⟩,?_,λs=>?_⟩
 ·show(0:Int)+m * (tk.length+1)<1000000000000000000;have h4:m * (tk.length+1)<=300000000 * (300000000+1):=Nat.mul_le_mul h3 (by omega);have h5:((m * (tk.length+1):Nat):Int)=(m:Int) * (tk.length+1):=by
   rw[Int.natCast_mul];rfl
  omega
 ·unfold W.room start;simp only[Av];omega
 ·unfold start;simp only[Av];omega
theorem Xc {p:Pr}(h:Gr p=true):Can p:=by
 obtain⟨h1,h2⟩:=jj8 h;have h3:=kv9 p h1;have f0:(start []).fit (prN p+1):=me3 (λx hx=>by cases hx) (by simp) (by omega);have hg:=(Me p (start [])).ev;have hlen:=Lm (Dp (start []) p).2.ev;have ho:=kw1 (Hr (Dp (start []) p).2.ev);have hs:(start []).ev.length=0:=rfl;have hf:(Db p).length<=prN p:=by unfold Db;omega
 have hin0:Vk ([]:List (ByteArray × Int)) 0:=λx hx=>by cases hx
 have hin:=Og (Dr p) (by omega) (Og (Db p) (Ez 0) hin0);have l1:=jq5 (Db p) [];have l2:=jq5 (Dr p) (Dv [] (Db p));rw[Av]at l1;refine⟨rg7 p h1,rg3 p h1 h2,f0,me3 (λx hx=>?_) ?_ (by omega),by omega⟩
 ·have:=(hin x hx).1;omega
 ·show(Dv (Dv [] (Db p)) (Dr p)).length<=_;omega
end Sc
end
section
namespace Sc
variable {ds:List ByteArray}
theorem js6 {s:ByteArray}:∀ {ev:List (ByteArray × Bool)},s∈Hr ev↔(s,false)∈ev
 |[]=>by simp[Hr]
 |(x,true)::l=>by simp[Hr,js6 (ev:=l)]
 |(x,false)::l=>by simp[Hr,js6 (ev:=l)]
theorem rn0 {ns:List ByteArray}{s:ByteArray}:ns.any (isB s)=true↔s∈ns:=by
 rw[Et];exact⟨λ⟨x,hx,e⟩=>(ka4.1 e) ▸ hx,λh=>⟨s,h,ka4.2 rfl⟩⟩
theorem me4 (ns:List ByteArray):∀ ev:List (ByteArray × Bool),(∀ s,(s,false)∈ev->s∈ns)->Hz ns ev=(ByteArray.empty,0)\/∃ s,(s,true)∈ev/\Hz ns ev=(s,121)
 |[],_=>.inl rfl
 |(x,true)::l,_=>.inr ⟨x,Be,by simp[Hz]⟩
 |(x,false)::l,h=>by
  have hx:=rn0.2 (h x Be);simp only[Hz,hx,if_true,Az,if_false];rcases me4 ns l λs hs=>h s (Bh _ hs) with h1|⟨s,h1,h2⟩
  ·exact .inl h1
  ·exact .inr ⟨s,Bh _ h1,h2⟩
theorem mr3 {p:Pr}{s:ByteArray}:s∈Db p↔(s,false)∈(Dp (start []) p).2.ev:=by
 unfold Db;rw[kf0,js6]
end Sc
end
section
variable {mm:Int}
theorem kq8 (p:Pr):FnD prog (glS mm) 12 [.d (dPr p)] (λv=>v=.tup [.d (dPr (Sc.Yh p)),.d (.int .i64 (Sc.Im p))]):=mv9 p λh=>Sc.Xc h
end
end Go.Proofs.YtklklgfpkpglgaaGreatDoor
