/- Parts. -/
import Derived.Test.YtklklgfpkpglgaaGreatDoorQ40
import Derived.Test.YtklklgfpkpglgaaGreatDoorQ35
set_option linter.all false
set_option maxRecDepth 100000
set_option maxHeartbeats 0
namespace Go.Proofs.YtklklgfpkpglgaaGreatDoor
open Go.RowKit Go.Proofs.Tryz Sc Lx
section
namespace Sc
open Lx
mutual
theorem kr7:∀ (e:Ex) (deep left:Int),(Dp deep left e).1=true->(exN e:Int)+(Dp deep left e).2<=left/\0<=(Dp deep left e).2
 |.mk kind op ty n s l,deep,left,h=>by
  rw[Dp]at h ⊢;split at h
  ·cases h
  ·rename_i hc;rw[Af hc];have:=kk4 l (deep+1) (left - 1) (by simp only[not_or]at hc;omega) h;simp only[exN];omega
theorem kk4:∀ (l:List Ex) (deep left:Int),0<=left->(Fs deep left l).1=true->(Gw l:Int)+(Fs deep left l).2<=left/\0<=(Fs deep left l).2
 |[],deep,left,h0,h=>by
  rw[Fs];simp only[Gw];omega
 |e::l,deep,left,h0,h=>by
  rw[Fs]at h ⊢;split at h
  ·rename_i hc;rw[Ad hc];have h1:=kr7 e deep left hc;have h2:=kk4 l deep _ h1.2 h;simp only[Gw];omega
  ·rename_i hc;exact absurd h hc
end
theorem jk1 {e:Ex}(h:Gd e=true):exN e<=256:=by
 have:=kr7 e 1 256 h;omega
theorem jc7 {e:Ex}(h:Ip e=true):exN e<=256:=by
 unfold Ip at h;rw[j9]at h;subst h;simp[ex0,exN,Gw]
theorem jp3 {e:Ex}(h:Ga e=true):exN e<=256:=by
 unfold Ga at h;rw[Aa]at h;exact jk1 h.2
theorem mg6:∀ {l:List Ex},(∀ x∈l,exN x<=256)->Gw l<=256 * l.length
 |[],_=>Ap _
 |e::l,h=>by
  have h1:=h e (Aw ..);have h2:=mg6 (l:=l) λx hx=>h x (Ax _ hx);simp only[Gw,Aj];omega
theorem jw9 {l:List Ex}{a b:Int}{f:Ex->Bool}{m:Nat}(h:Cq l a b f=true)(hf:∀ e,f e=true->exN e<=256)(hb:b<=m):Gw l<=256 * m:=by
 unfold Cq hasB at h;simp only[Aa,Ah,By]at h;have h1:=mg6 λx hx=>hf x (h.2 x hx);omega
theorem qm7 (k:Int):(Hf k).1.t1<=8/\(Hf k).1.e1<=9/\(Hf k).1.g1<=16:=by
 unfold Hf;by_cases c0:k=1\/k=2
 ·rw[Ad c0];simp[Gi]
 rw[Af c0];by_cases c1:k=3
 ·rw[Ad c1];simp[Gi]
 rw[Af c1];by_cases c2:k=4
 ·rw[Ad c2];simp[Gi]
 rw[Af c2];by_cases c3:k=5
 ·rw[Ad c3];simp[Gi]
 rw[Af c3];by_cases c4:k=6
 ·rw[Ad c4];simp[Gi]
 rw[Af c4];by_cases c5:k=7
 ·rw[Ad c5];simp[Gi]
 rw[Af c5];by_cases c6:k=8\/k=9
 ·rw[Ad c6];simp[Gi]
 rw[Af c6];by_cases c7:k=10
 ·rw[Ad c7];simp[Gi]
 rw[Af c7];by_cases c8:k=11
 ·rw[Ad c8];simp[Gi]
 rw[Af c8];by_cases c9:k=12\/k=13
 ·rw[Ad c9];simp[Gi]
 rw[Af c9];by_cases c10:k=14
 ·rw[Ad c10];simp[Gi]
 rw[Af c10];by_cases c11:k=15
 ·rw[Ad c11];simp[Gi]
 rw[Af c11];by_cases c12:k=16
 ·rw[Ad c12];simp[Gi]
 rw[Af c12];by_cases c13:k=17
 ·rw[Ad c13];simp[Gi]
 rw[Af c13];by_cases c14:k=18
 ·rw[Ad c14];simp[Gi]
 rw[Af c14];simp[Gi]
theorem mg7 (u:Uses)(r:ByteArray)(h:u.t1<=8/\u.e1<=9/\u.g1<=16):(Ht u r).t1<=8/\(Ht u r).e1<=9/\(Ht u r).g1<=16:=by
 unfold Ht
 repeat' split
 all_goals simp_all
theorem qm8 {g:Gu}(h:Jr g=true):Qb g.cond g.av g.aj g.values g.time<=4864:=by
 unfold Jr at h;simp only[Aa]at h;obtain⟨⟨⟨⟨⟨⟨⟨_,_⟩,h2⟩,_⟩,h3⟩,h4⟩,h5⟩,h6⟩:=h;have a1:exN g.cond<=256:=by
  split at h2
  ·simp only[Bn,Aa]at h2;rcases h2 with h2|h2
   ·exact jk1 h2
   ·exact jc7 h2.2
  ·exact jc7 h2
 have a2:exN g.av<=256:=by
  split at h3
  ·exact jp3 h3
  ·exact jc7 h3
 have a3:exN g.time<=256:=by
  split at h4
  ·exact jk1 h4
  ·exact jc7 h4
 have a4:=jw9 (m:=8) h5 (λe=>jp3) (by split<;>decide);have a5:=jw9 (m:=8) h6 (λe=>jk1) (by split<;>decide);unfold Qb;omega
theorem rw5 {a b:Int}{n:Nat}(h:hasB a b n=true):(n:Int)<=b:=by
 unfold hasB at h;simp only[Aa,Ah]at h;exact h.2
theorem jk2 {α:Type}{l:List α}{a b:Int}{f:α->Bool}(h:Cq l a b f=true):(l.length:Int)<=b:=by
 unfold Cq at h;rw[Aa]at h;exact rw5 h.1
theorem qm9 {s:Sp}(h:Hr s=true):s.names.length<=8/\s.ax.length<=8/\exN s.e<=256/\s.aN.l.length<=16:=by
 unfold Hr at h;by_cases k1:s.kind=1
 ·rw[Ad k1]at h;simp only[Aa,Ah,j9]at h;obtain⟨⟨⟨⟨⟨h1,h2⟩,h3⟩,h4⟩,h5⟩,h6⟩:=h;have:=jk2 h2;refine⟨by omega,by omega,jc7 h3,?_⟩;rw[h4];simp[pt0]
 rw[Af k1]at h;by_cases k2:s.kind=2
 ·rw[Ad k2]at h;simp only[Aa,Ah,j9]at h;obtain⟨⟨⟨⟨⟨h1,h2⟩,h3⟩,h4⟩,h5⟩,h6⟩:=h;have:=jk2 h3;refine⟨by omega,by omega,jk1 h2,?_⟩;rw[h4];simp[pt0]
 rw[Af k2]at h;by_cases k3:s.kind=3
 ·rw[Ad k3]at h;simp only[Aa,Ah,j9]at h;obtain⟨⟨⟨⟨⟨h1,h2⟩,h3⟩,h4⟩,h5⟩,h6⟩:=h;have:=jk2 h3;refine⟨by omega,by omega,jp3 h2,?_⟩;rw[h4];simp[pt0]
 rw[Af k3]at h;by_cases k4:s.kind=4
 ·rw[Ad k4]at h;simp only[Aa,Ah,j9]at h;obtain⟨⟨⟨⟨⟨h1,h2⟩,h3⟩,h4⟩,h5⟩,h6⟩:=h;have:=jk2 h2;refine⟨by omega,by omega,jc7 h4,?_⟩;unfold Ns at h1;split at h1
  ·simp only[Aa,Ah]at h1;omega
  ·split at h1
   ·rename_i hv;rw[hv];simp
   ·cases h1
 rw[Af k4]at h;by_cases k5:s.kind=5
 ·rw[Ad k5]at h;simp only[Aa,Ah,j9]at h;obtain⟨⟨⟨⟨⟨h1,h2⟩,h3⟩,h4⟩,h5⟩,h6⟩:=h;have:=jk2 h3;have:=jk2 h2;refine⟨by omega,by omega,jc7 h5,?_⟩;rw[h6];simp[pt0]
 rw[Af k5]at h;cases h
theorem rf3:sp0.names.length<=8/\sp0.ax.length<=8/\exN sp0.e<=256/\sp0.aN.l.length<=16:=by
 refine⟨by decide,by decide,?_,by decide⟩;simp[sp0,Sp.e,ex0,exN,Gw]
theorem ka8 {p:Pr}(h:Gy p=true):Lu p.av p.aj p.au p.rep<=6000/\(p.spec.names.length<=8/\p.spec.ax.length<=8/\exN p.spec.e<=256/\p.spec.aN.l.length<=16)/\p.ak.length<=16/\(∀ g∈p.ak,Jr g=true)/\p.ay.length<=p.l.length:=by
 unfold Gy at h;have hu:=mg7 _ p.rep.name (qm7 p.kind);simp only[Aa]at h;obtain⟨⟨⟨_,h2⟩,_⟩,⟨⟨⟨⟨⟨⟨⟨_,h5⟩,_⟩,h7⟩,h8⟩,h9⟩,h10⟩,h11⟩⟩:=h;have a1:Tz p.rep<=513:=by
  unfold Hw at h2;unfold Tz;split at h2
  ·simp only[Aa]at h2;have:=jc7 h2.1;have:=jc7 h2.2;omega
  ·simp only[Aa]at h2;have:=jk1 h2.1.2;have:=jk1 h2.2;omega
 have a2:exN p.av<=256:=by
  split at h7
  ·exact jp3 h7
  ·exact jc7 h7
 have a3:=jw9 (m:=8) h8 (λe=>jp3) (by omega);have a4:=jw9 (m:=9) h9 (λe=>jk1) (by omega);refine⟨by unfold Lu;omega,?_,?_,?_,?_⟩
 ·split at h11
  ·exact qm9 h11
  ·rw[j9]at h11;rw[h11];exact rf3
 ·have:=jk2 h5;omega
 ·intro g hg;unfold Cq at h5;simp only[Aa,By]at h5;exact(h5.2 g hg).2
 ·have:=jk2 h10;split at this<;>omega
end Sc
end
section
namespace Sc
open Lx
mutual
theorem ky0:∀ p:Pr,Hz p->prN p<=90000 * Kb p/\(Dm p).length<=32 * Kb p
 |.mk kind name av aj au rep ak l ay (.mk sk st sn se spp sf sb),h=>by
  simp only[Hz]at h;obtain⟨h1,h2,h3,h4⟩:=h;obtain⟨a1,⟨a2,a3,a4,a5⟩,a6,a7,_⟩:=ka8 h1;simp only[Pr.av,Pr.aj,Pr.au,Pr.rep,Pr.spec,Pr.ak,Sp.names,Sp.ax,Sp.e,Sp.aN]at a1 a2 a3 a4 a5 a6 a7;have b1:=kf5 sb h2;have b2:=mu2 ak a7 h3;have b3:=kf5 l h4;simp only[prN,Dm,Kb,Ag,Ab];omega
theorem kf5:∀ l:List Pr,ja1 l->Kt l<=90000 * Gm l/\(Jl l).length<=32 * Gm l
 |[],_=>⟨Ap _,Ap _⟩
 |p::l,h=>by
  simp only[ja1]at h;have h1:=ky0 p h.1;have h2:=kf5 l h.2;simp only[Kt,Jl,Gm,Ag];omega
theorem mu2:∀ l:List Gu,(∀ g∈l,Jr g=true)->je2 l->Mi l<=4864 * l.length+90000 * Jb l/\(Kc l).length<=l.length+32 * Jb l
 |[],_,_=>⟨Ap _,Ap _⟩
 |.mk kind name cond av aj values time body::l,hm,h=>by
  simp only[je2]at h;have h0:=qm8 (hm _ (Aw ..));simp only[Gu.cond,Gu.av,Gu.aj,Gu.values,Gu.time]at h0;have h1:=kf5 body h.1;have h2:=mu2 l (λg hg=>hm g (Ax _ hg)) h.2;simp only[Mi,guN,Kc,Jc,Jb,Ag,Aj];omega
end
theorem mg8:∀ (pre l:List Va),Oi pre l=true->∀ v∈l,v.items.length<=8
 |_,[],_,v,hv=>by cases hv
 |pre,w::l,h,v,hv=>by
  simp only[Oi,Aa]at h;rcases Bc.1 hv with rfl|hv
  ·have:=h.1.1.2;unfold Lc at this;simp only[Aa,Ah]at this;omega
  ·exact mg8 _ l h.2 v hv
theorem rf4 {p:Pt}(h:Ns p=true):∀ v∈p.l,v.items.length<=8:=by
 unfold Ns at h;split at h
 ·rw[Aa]at h;exact mg8 _ _ h.2
 ·split at h
  ·rename_i v hv;intro w hw;rw[hv,Bs]at hw;subst hw;unfold Lc at h;simp only[Aa,Ah]at h;omega
  ·cases h
theorem rf5 {s:Sp}(h:Hr s=true):∀ v∈s.aN.l,v.items.length<=8:=by
 have key:s.aN=pt0\/Ns s.aN=true:=by
  unfold Hr at h;by_cases k1:s.kind=1
  ·rw[Ad k1]at h;simp only[Aa,Ah,j9]at h;exact .inl h.1.1.2
  rw[Af k1]at h;by_cases k2:s.kind=2
  ·rw[Ad k2]at h;simp only[Aa,Ah,j9]at h;exact .inl h.1.1.2
  rw[Af k2]at h;by_cases k3:s.kind=3
  ·rw[Ad k3]at h;simp only[Aa,Ah,j9]at h;exact .inl h.1.1.2
  rw[Af k3]at h;by_cases k4:s.kind=4
  ·rw[Ad k4]at h;simp only[Aa,Ah,j9]at h;exact .inr h.1.1.1.1.1
  rw[Af k4]at h;by_cases k5:s.kind=5
  ·rw[Ad k5]at h;simp only[Aa,Ah,j9]at h;exact .inl h.2
  rw[Af k5]at h;cases h
 rcases key with e|e
 ·rw[e];intro v hv;cases hv
 ·exact rf4 e
theorem mo3 {p:Pr}(h:Gy p=true):∀ v∈p.spec.aN.l,v.items.length<=8:=by
 unfold Gy at h;simp only[Aa]at h;obtain⟨_,⟨_,h11⟩⟩:=h;split at h11
 ·exact rf5 h11
 ·rw[j9]at h11;rw[h11];intro v hv;cases hv
theorem qn0:∀ l:List Pr,l.length<=Gm l
 |[]=>Ap _
 |p::l=>by
  have:=qn0 l;have:1<=Kb p:=by
   obtain⟨_,_,_,_,_,_,_,_,_,⟨_,_,_,_,_,_,_⟩⟩:=p;simp only[Kb];omega
  simp only[Gm,Aj];omega
mutual
theorem ro9:∀ p:Pr,Hz p->Kb p<=2048->kx5 p
 |.mk kind name av aj au rep ak l ay (.mk sk st sn se spp sf sb),h,hs=>by
  simp only[Hz]at h;obtain⟨h1,h2,h3,h4⟩:=h;obtain⟨_,⟨_,_,_,a5⟩,_,_,a8⟩:=ka8 h1;have a9:=mo3 h1;simp only[Pr.spec,Sp.aN,Pr.ay,Pr.l]at a5 a8 a9;simp only[Kb]at hs;have:=qn0 l;simp only[kx5];exact⟨⟨by omega,by omega,λv hv=>by have:=a9 v hv;omega⟩,ky1 sb h2 (by omega),qn1 ak h3 (by omega),ky1 l h4 (by omega)⟩
theorem ky1:∀ l:List Pr,ja1 l->Gm l<=2048->jt3 l
 |[],_,_=>by simp only[jt3]
 |p::l,h,hs=>by
  simp only[ja1]at h;simp only[Gm]at hs;simp only[jt3];exact⟨ro9 p h.1 (by omega),ky1 l h.2 (by omega)⟩
theorem qn1:∀ l:List Gu,je2 l->Jb l<=2048->kk2 l
 |[],_,_=>by simp only[kk2]
 |.mk _ _ _ _ _ _ _ body::l,h,hs=>by
  simp only[je2]at h;simp only[Jb]at hs;simp only[kk2];exact⟨ky1 body h.1 (by omega),qn1 l h.2 (by omega)⟩
end
theorem rf6 (s:ByteArray):∀ l:List ByteArray,(mf3 l s).length<=l.length+1:=λl=>by
 induction l with
 |nil=>simp[mf3]
 |cons x l ih=>
  simp only[mf3]
  repeat' split
  all_goals simp only[Aj]at *
  all_goals omega
theorem ky2 (l:List ByteArray):(once l).length<=l.length:=by
 have:∀ (l m:List ByteArray),(l.foldl mf3 m).length<=m.length+l.length:=by
  intro l
  induction l with
  |nil=>intro m;simp
  |cons x l ih=>
   intro m;have h1:=ih (mf3 m x);have h2:=rf6 x m;simp only[List.foldl_cons,Aj];omega
 simpa [once]using this l []
theorem mu3:∀ (tk:List (ByteArray × Int)) (s:ByteArray),(Mr tk s).length<=tk.length+1
 |[],s=>by simp[Mr]
 |x::l,s=>by
  have:=mu3 l s;simp only[Mr];split<;>simp only[Aj]<;>omega
theorem jp4:∀ (l:List ByteArray) (tk:List (ByteArray × Int)),(Dt tk l).length<=tk.length+l.length
 |[],tk=>by simp[Dt]
 |s::l,tk=>by
  have h1:=jp4 l (Mr tk s);have h2:=mu3 tk s;have h3:Dt tk (s::l)=Dt (Mr tk s) l:=rfl;rw[h3,Aj];omega
theorem mg9 {tk:List (ByteArray × Int)}{m:Nat}(h1:∀ x∈tk,x.2≠0)(h2:tk.length<=300000000)(h3:m<=300000000):(start tk).fit m:=by
 refine⟨h1,⟨Eu _,?_⟩,?_,λs=>?_⟩
 ·show(0:Int)+m * (tk.length+1)<1000000000000000000;have h4:m * (tk.length+1)<=300000000 * (300000000+1):=Nat.mul_le_mul h3 (by omega);have h5:((m * (tk.length+1):Nat):Int)=(m:Int) * (tk.length+1):=by
   rw[Int.natCast_mul];rfl
  omega
 ·unfold W.room start;simp only[Az];omega
 ·unfold start;simp only[Az];omega
theorem Rk {p:Pr}(h:Gq p=true):Can p:=by
 obtain⟨h1,h2⟩:=je8 h;have h3:=ky0 p h1;have f0:(start []).fit (prN p+1):=mg9 (λx hx=>by cases hx) (by simp) (by omega);have hg:=(Nb p (start [])).ev;have hlen:=Le (Fz (start []) p).2.ev;have ho:=ky2 (Ho (Fz (start []) p).2.ev);have hs:(start []).ev.length=0:=rfl;have hf:(Cy p).length<=prN p:=by unfold Cy;omega
 have hin0:Vk ([]:List (ByteArray × Int)) 0:=λx hx=>by cases hx
 have hin:=Nw (Dm p) (by omega) (Nw (Cy p) (Eu 0) hin0);have l1:=jp4 (Cy p) [];have l2:=jp4 (Dm p) (Dt [] (Cy p));rw[Az]at l1;refine⟨qp3 p h1,ro9 p h1 h2,f0,mg9 (λx hx=>?_) ?_ (by omega),by omega⟩
 ·have:=(hin x hx).1;omega
 ·show(Dt (Dt [] (Cy p)) (Dm p)).length<=_;omega
end Sc
end
section
namespace Sc
def Adds (ds:List ByteArray)(σ τ:W):Prop:=∀ e∈τ.ev,e∈σ.ev\/e.2=false\/e.1∈ds
variable {ds:List ByteArray}
theorem Adds.Rw {σ τ:W}(h:τ.ev=σ.ev):Adds ds σ τ:=λe he=>.inl (h ▸ he)
theorem Adds.trans {σ τ υ:W}(h:Adds ds σ τ)(h2:Adds ds τ υ):Adds ds σ υ:=λe he=>by
 rcases h2 e he with h3|h3
 ·exact h e h3
 ·exact .inr h3
theorem kk5 (σ:W)(s:ByteArray):Adds ds σ (aA σ s).2:=by
 unfold aA;split
 ·exact .Rw rfl
 ·intro e he;simp only[step,Au,Bs]at he;rcases he with he|rfl
  ·exact .inl he
  ·exact .inr (.inl rfl)
theorem mu4 {α:Type}{f:W->α->α × W}(hf:∀ (x:α) (σ:W),Adds ds σ (f σ x).2):∀ (l:List α) (σ:W),Adds ds σ (z6 f σ l).2
 |[],σ=>.Rw rfl
 |x::l,σ=>by
  simp only[z6];exact(hf x σ).trans (mu4 hf l _)
mutual
theorem jg6:∀ (e:Ex) (σ:W),Adds ds σ (j5 σ e).2
 |.mk kind op ty n s l,σ=>by
  have hr:Adds ds σ (if Cz kind then aA σ s else (s,σ)).2:=by
   split
   ·exact kk5 σ s
   ·exact .Rw rfl
  simp only[j5];exact hr.trans (ka9 l _)
theorem ka9:∀ (l:List Ex) (σ:W),Adds ds σ (y4 σ l).2
 |[],σ=>by simp only[y4];exact .Rw rfl
 |e::l,σ=>by
  simp only[y4];exact(jg6 e σ).trans (ka9 l _)
end
theorem ji7 (l:List Ex)(σ:W):Adds ds σ (z6 j5 σ l).2:=by rw[<-ja4];exact ka9 l σ
theorem kr8 (σ:W)(t:Ty):Adds ds σ (Gr σ t).2:=by
 unfold Gr;split
 ·exact .Rw rfl
 ·exact kk5 σ _
theorem kr9 (σ:W)(l:List ByteArray)(h:∀ x∈l,x∈ds):Adds ds σ (Cr σ l):=λe he=>by
 unfold Cr at he;rw[Au]at he;refine he.imp id λhe=>.inr ?_;obtain⟨i,hi,rfl⟩:=Br.1 he;have:=Fh.1 (List.mem_filter.1 hi).1;dsimp only;rw[List.getD_eq_getElem?_getD,Ar this];exact h _ (Ao this)
theorem kk6:∀ (l:List (Bool × List ByteArray)) (σ:W),Adds ds σ (Da σ l).2
 |[],σ=>.Rw rfl
 |x::l,σ=>by
  simp only[Da];exact Adds.trans (τ:=(Co σ).2) (.Rw rfl) (kk6 l _)
theorem qn2 (σ:W)(s:Sp)(h1:∀ x∈s.names,x∈ds)(h2:∀ f∈s.ax,f.name∈ds):Adds ds σ (Fw σ s).2:=by
 unfold Fw;dsimp only;refine Adds.trans ?_ (jg6 _ _);refine Adds.trans ?_ (mu4 (f:=Fq) (λf σ=>kr8 σ f.type) _ _);refine Adds.trans ?_ (kr8 _ _);refine Adds.trans ?_ (kk6 _ _);refine Adds.trans ?_ (kr9 _ _ ?_)
 ·refine Adds.trans ?_ (kk6 _ _);exact kr9 _ _ h1
 ·intro x hx;obtain⟨f,hf,rfl⟩:=Br.1 hx;exact h2 f hf
theorem rf7 (tag:Bool)(σ:W)(l:List Ex):Adds ds σ (Gg tag σ l).2:=by
 cases tag with
 |false=>rw[jn0];exact ji7 l σ
 |true=>
  cases l with
  |nil=>exact .Rw rfl
  |cons e l=>exact ji7 l σ
theorem rf8 (σ:W)(r:Rp):Adds ds σ (Iq σ r).2:=by
 unfold Iq;split
 ·exact .Rw rfl
 ·exact(Adds.trans (τ:=(Co σ).2) (.Rw rfl) (jg6 r.base _)).trans (jg6 r.count _)
theorem qa3 (σ:W)(cond av:Ex)(aj values:List Ex)(time:Ex):Adds ds σ (Hy σ cond av aj values time).2:=
 ((((jg6 cond σ).trans (jg6 av _)).trans (ji7 aj _)).trans (ji7 values _)).trans (jg6 time _)
theorem qa4 (σ:W)(kind:Int)(name:ByteArray)(av:Ex)(aj au:List Ex)(rep:Rp):Adds ds σ (Gh σ kind name av aj au rep).2:=by
 have ha:Adds ds σ (if kind=17 then aA σ name else (name,σ)).2:=by
  split
  ·exact kk5 σ name
  ·exact .Rw rfl
 exact(((ha.trans (jg6 av _)).trans (ji7 aj _)).trans (rf7 _ _ au)).trans (rf8 _ rep)
mutual
theorem qn3:∀ (p:Pr) (σ:W),(∀ x∈jt2 p,x∈ds)->Adds ds σ (Fz σ p).2
 |.mk kind name av aj au rep ak l ay (.mk sk st sn se spp sf sb),σ,hd=>by
  simp only[jt2,Au]at hd;have hh:=qa4 (ds:=ds) σ kind name av aj au rep;simp only[Fz];generalize Gh σ kind name av aj au rep=a at hh ⊢;split
  ·have hs:=qn2 a.2 (.mk sk st sn se spp sf []) (λx hx=>hd x (.inr (.inl hx))) (λf hf=>hd _ (.inr (.inr (.inl (Br.2 ⟨f,hf,rfl⟩)))));generalize Fw a.2 (.mk sk st sn se spp sf [])=s at hs ⊢;have hb:=jx0 sb {s.2 with env:=Cn σ.env (sf.map (·.name)) s.1.inner} (λx hx=>hd x (.inr (.inr (.inr (.inl hx)))));generalize Fx {s.2 with env:=Cn σ.env (sf.map (·.name)) s.1.inner} sb=b at hb ⊢;have hg:=ky3 ak {b.2 with env:=Cn σ.env sn s.1.own} (λx hx=>hd x (.inr (.inr (.inr (.inr (.inl hx))))));generalize Gl {b.2 with env:=Cn σ.env sn s.1.own} ak=g at hg ⊢;have hm:=jx0 l g.2 (λx hx=>hd x (.inr (.inr (.inr (.inr (.inr hx))))));exact(((hh.trans hs).trans (υ:=b.2) hb).trans (υ:=g.2) hg).trans hm
  ·have hg:=ky3 ak {a.2 with env:=Cn σ.env (if rep.name=ByteArray.empty then [] else [rep.name]) a.1.own} (λx hx=>hd x (.inr (.inr (.inr (.inr (.inl hx))))));generalize Gl {a.2 with env:=Cn σ.env (if rep.name=ByteArray.empty then [] else [rep.name]) a.1.own} ak=g at hg ⊢;have hm:=jx0 l g.2 (λx hx=>hd x (.inr (.inr (.inr (.inr (.inr hx))))));exact(hh.trans (υ:=g.2) hg).trans hm
theorem jx0:∀ (l:List Pr) (σ:W),(∀ x∈jd4 l,x∈ds)->Adds ds σ (Fx σ l).2
 |[],σ,_=>by simp only[Fx];exact .Rw rfl
 |e::l,σ,hd=>by
  simp only[jd4,Au]at hd;simp only[Fx];exact(qn3 e σ λx hx=>hd x (.inl hx)).trans (jx0 l _ λx hx=>hd x (.inr hx))
theorem rw6:∀ (p:Gu) (σ:W),(∀ x∈kd3 p,x∈ds)->Adds ds σ (Ju σ p).2
 |.mk kind name cond av aj values time body,σ,hd=>by
  simp only[kd3]at hd;simp only[Ju];exact(qa3 σ cond av aj values time).trans (jx0 body _ hd)
theorem ky3:∀ (l:List Gu) (σ:W),(∀ x∈jf8 l,x∈ds)->Adds ds σ (Gl σ l).2
 |[],σ,_=>by simp only[Gl];exact .Rw rfl
 |e::l,σ,hd=>by
  simp only[jf8,Au]at hd;simp only[Gl];exact(rw6 e σ λx hx=>hd x (.inl hx)).trans (ky3 l _ λx hx=>hd x (.inr hx))
end
mutual
theorem ks0:∀ (p:Pr),Hz p->∀ x∈jt2 p,Cw x=true
 |.mk kind name av aj au rep ak l ay (.mk sk st sn se spp sf sb),h,x,hx=>by
  simp only[Hz]at h;obtain⟨h1,h2,h3,h4⟩:=h;rw[Je,Aa]at h1;simp only[jt2,Au]at hx;have hk:=jn4 _ h1.1;simp only[Pr.kind,Pr.rep,Pr.spec]at hk;have hsp:(∀ x∈sn,Cw x=true)/\∀ f∈sf,Cw f.name=true:=by
   by_cases h18:kind=18
   ·have:=mv2 _ (Nr _ h1.1 h18);exact⟨this.1,this.2.1⟩
   ·have hz:=hk.2.1 h18;simp only[sp0,Sp.mk.injEq]at hz;obtain⟨rfl,rfl,rfl,rfl,rfl,rfl,rfl⟩:=hz;exact⟨λx hx=>(by cases hx),λx hx=>(by cases hx)⟩
  rcases hx with hx|hx|hx|hx|hx|hx
  ·split at hx
   ·cases hx
   ·rename_i hr;rw[Bs]at hx;subst hx;have:=hk.2.2.2;unfold Hw at this;rw[Af hr]at this;simp only[Aa]at this;exact this.1.1
  ·exact hsp.1 x hx
  ·obtain⟨f,hf,rfl⟩:=Br.1 hx;exact hsp.2 f hf
  ·exact jn1 sb h2 x hx
  ·exact kk7 ak h3 x hx
  ·exact jn1 l h4 x hx
theorem jn1:∀ (l:List Pr),ja1 l->∀ x∈jd4 l,Cw x=true
 |[],_,x,hx=>by simp[jd4]at hx
 |p::l,h,x,hx=>by
  simp only[ja1]at h;simp only[jd4,Au]at hx;rcases hx with hx|hx
  ·exact ks0 p h.1 x hx
  ·exact jn1 l h.2 x hx
theorem kk7:∀ (l:List Gu),je2 l->∀ x∈jf8 l,Cw x=true
 |[],_,x,hx=>by simp[jf8]at hx
 |.mk kind name cond av aj values time body::l,h,x,hx=>by
  simp only[je2]at h;simp only[jf8,kd3,Au]at hx;rcases hx with hx|hx
  ·exact jn1 body h.1 x hx
  ·exact kk7 l h.2 x hx
end
theorem kb0 {s:ByteArray}:∀ {ev:List (ByteArray × Bool)},s∈Ho ev↔(s,false)∈ev
 |[]=>by simp[Ho]
 |(x,true)::l=>by simp[Ho,kb0 (ev:=l)]
 |(x,false)::l=>by simp[Ho,kb0 (ev:=l)]
theorem rw7 {ns:List ByteArray}{s:ByteArray}:ns.any (isB s)=true↔s∈ns:=by
 rw[Ek];exact⟨λ⟨x,hx,e⟩=>(Ml.1 e) ▸ hx,λh=>⟨s,h,Ml.2 rfl⟩⟩
theorem mh0 (ns:List ByteArray):∀ ev:List (ByteArray × Bool),(∀ s,(s,false)∈ev->s∈ns)->Hq ns ev=(ByteArray.empty,0)\/∃ s,(s,true)∈ev/\Hq ns ev=(s,121)
 |[],_=>.inl rfl
 |(x,true)::l,_=>.inr ⟨x,Aw,by simp[Hq]⟩
 |(x,false)::l,h=>by
  have hx:=rw7.2 (h x Aw);simp only[Hq,hx,if_true,Bb,if_false];rcases mh0 ns l λs hs=>h s (Ax _ hs) with h1|⟨s,h1,h2⟩
  ·exact .inl h1
  ·exact .inr ⟨s,Ax _ h1,h2⟩
theorem ky4 {p:Pr}{s:ByteArray}:s∈Cy p↔(s,false)∈(Fz (start []) p).2.ev:=by
 unfold Cy;rw[mt2,kb0]
theorem qa5 {p:Pr}(h:Gq p=true):Ja p (Cy p)=(ByteArray.empty,0)\/∃ s,s≠ByteArray.empty/\Ja p (Cy p)=(s,121):=by
 unfold Ja;refine(mh0 (Cy p) _ λs hs=>ky4.2 hs).imp id λ⟨s,h1,h2⟩=>⟨s,?_,h2⟩;have ha:=qn3 p (start []) (λx hx=>hx) _ h1;rcases ha with ha|ha|ha
 ·cases ha
 ·cases ha
 ·exact jp7 (ks0 p (je8 h).1 s ha)
end Sc
end
section
variable {mm:Int}
theorem rf9 (p:Pr):FnD prog (glS mm) 10 [.d (dPr p)] (λv=>v=.tup [.d (.list 1 (if Gq p=true then (Cy p).map .str else [])),.d (.int .i64 (if Gq p=true then 0 else 2))]):=
 qm4 p λh=>⟨(Rk h).ok,(Rk h).cap,(Rk h).fit0⟩
theorem ks1 (p:Pr):FnD prog (glS mm) 12 [.d (dPr p)] (λv=>v=.tup [.d (dPr (Yn p)),.d (.int .i64 (Gn p))]):=qa2 p λh=>Rk h
end
end Go.Proofs.YtklklgfpkpglgaaGreatDoor
