/- Parts: S47, S48, S50, S49. -/
import Derived.Test.YtklklgfpkpglgaaGreatDoorP38
import Derived.Test.YtklklgfpkpglgaaGreatDoorP30
set_option linter.all false
set_option maxRecDepth 100000
set_option maxHeartbeats 16000000
namespace Go.Proofs.YtklklgfpkpglgaaGreatDoor
open Go.RowKit Go.Proofs.Tryz
section
namespace Sc
open Lx
mutual
theorem kr4:∀ (e:Ex) (deep left:Int),(Dy deep left e).1=true->(exN e:Int)+(Dy deep left e).2<=left/\0<=(Dy deep left e).2
 |.mk kind op ty n s l,deep,left,h=>by
  rw[Dy]at h ⊢;split at h
  ·cases h
  ·rename_i hc;rw[Ae hc];have:=kk9 l (deep+1) (left - 1) (by simp only[not_or]at hc;omega) h;simp only[exN];omega
theorem kk9:∀ (l:List Ex) (deep left:Int),0<=left->(Gf deep left l).1=true->(Gj l:Int)+(Gf deep left l).2<=left/\0<=(Gf deep left l).2
 |[],deep,left,h0,h=>by
  rw[Gf];simp only[Gj];omega
 |e::l,deep,left,h0,h=>by
  rw[Gf]at h ⊢;split at h
  ·rename_i hc;rw[Ad hc];have h1:=kr4 e deep left hc;have h2:=kk9 l deep _ h1.2 h;simp only[Gj];omega
  ·rename_i hc;exact absurd h hc
end
theorem jl1 {e:Ex}(h:Ja e=true):exN e<=256:=by
 have:=kr4 e 1 256 h;omega
theorem jc5 {e:Ex}(h:Ka e=true):exN e<=256:=by
 unfold Ka at h;rw[r8]at h;subst h;simp[ex0,exN,Gj]
theorem jq4 {e:Ex}(h:Iw e=true):exN e<=256:=by
 unfold Iw at h;rw[Aa]at h;exact jl1 h.2
theorem me3:∀ {l:List Ex},(∀ x∈l,exN x<=256)->Gj l<=256 * l.length
 |[],_=>Au _
 |e::l,h=>by
  have h1:=h e (Az ..);have h2:=me3 (l:=l) fun x hx=>h x (Bb _ hx);simp only[Gj,An];omega
theorem jx2 {l:List Ex}{a b:Int}{f:Ex->Bool}{m:Nat}(h:Dj l a b f=true)(hf:∀ e,f e=true->exN e<=256)(hb:b<=m):Gj l<=256 * m:=by
 unfold Dj hasB at h;simp only[Aa,Ak,Bt]at h;have h1:=me3 fun x hx=>hf x (h.2 x hx);omega
theorem qh8 (k:Int):(Hf k).1.t1<=8/\(Hf k).1.e1<=9/\(Hf k).1.g1<=16:=by
 unfold Hf;by_cases c0:k=1\/k=2
 ·rw[Ad c0];simp[Gr]
 rw[Ae c0];by_cases c1:k=3
 ·rw[Ad c1];simp[Gr]
 rw[Ae c1];by_cases c2:k=4
 ·rw[Ad c2];simp[Gr]
 rw[Ae c2];by_cases c3:k=5
 ·rw[Ad c3];simp[Gr]
 rw[Ae c3];by_cases c4:k=6
 ·rw[Ad c4];simp[Gr]
 rw[Ae c4];by_cases c5:k=7
 ·rw[Ad c5];simp[Gr]
 rw[Ae c5];by_cases c6:k=8\/k=9
 ·rw[Ad c6];simp[Gr]
 rw[Ae c6];by_cases c7:k=10
 ·rw[Ad c7];simp[Gr]
 rw[Ae c7];by_cases c8:k=11
 ·rw[Ad c8];simp[Gr]
 rw[Ae c8];by_cases c9:k=12\/k=13
 ·rw[Ad c9];simp[Gr]
 rw[Ae c9];by_cases c10:k=14
 ·rw[Ad c10];simp[Gr]
 rw[Ae c10];by_cases c11:k=15
 ·rw[Ad c11];simp[Gr]
 rw[Ae c11];by_cases c12:k=16
 ·rw[Ad c12];simp[Gr]
 rw[Ae c12];by_cases c13:k=17
 ·rw[Ad c13];simp[Gr]
 rw[Ae c13];by_cases c14:k=18
 ·rw[Ad c14];simp[Gr]
 rw[Ae c14];simp[Gr]
theorem me4 (u:Uses)(r:ByteArray)(h:u.t1<=8/\u.e1<=9/\u.g1<=16):(Ii u r).t1<=8/\(Ii u r).e1<=9/\(Ii u r).g1<=16:=by
 unfold Ii
 repeat' split
 all_goals simp_all
theorem qh9 {g:Gu}(h:Le g=true):Py g.cond g.chan g.targets g.values g.time<=4864:=by
 unfold Le at h;simp only[Aa]at h;obtain⟨⟨⟨⟨⟨⟨⟨_,_⟩,h2⟩,_⟩,h3⟩,h4⟩,h5⟩,h6⟩:=h;have a1:exN g.cond<=256:=by
  split at h2
  ·simp only[Bm,Aa]at h2;rcases h2 with h2|h2
   ·exact jl1 h2
   ·exact jc5 h2.2
  ·exact jc5 h2
 have a2:exN g.chan<=256:=by
  split at h3
  ·exact jq4 h3
  ·exact jc5 h3
 have a3:exN g.time<=256:=by
  split at h4
  ·exact jl1 h4
  ·exact jc5 h4
 have a4:=jx2 (m:=8) h5 (fun e=>jq4) (by split<;>decide);have a5:=jx2 (m:=8) h6 (fun e=>jl1) (by split<;>decide);unfold Py;omega
theorem rl8 {a b:Int}{n:Nat}(h:hasB a b n=true):(n:Int)<=b:=by
 unfold hasB at h;simp only[Aa,Ak]at h;exact h.2
theorem jl2 {α:Type}{l:List α}{a b:Int}{f:α->Bool}(h:Dj l a b f=true):(l.length:Int)<=b:=by
 unfold Dj at h;rw[Aa]at h;exact rl8 h.1
theorem qi0 {s:Sp}(h:Kh s=true):s.names.length<=8/\s.formals.length<=8/\exN s.e<=256/\s.proto.l.length<=16:=by
 unfold Kh at h;by_cases k1:s.kind=1
 ·rw[Ad k1]at h;simp only[Aa,Ak,r8]at h;obtain⟨⟨⟨⟨⟨h1,h2⟩,h3⟩,h4⟩,h5⟩,h6⟩:=h;have:=jl2 h2;refine⟨by omega,by omega,jc5 h3,?_⟩;rw[h4];simp[pt0]
 rw[Ae k1]at h;by_cases k2:s.kind=2
 ·rw[Ad k2]at h;simp only[Aa,Ak,r8]at h;obtain⟨⟨⟨⟨⟨h1,h2⟩,h3⟩,h4⟩,h5⟩,h6⟩:=h;have:=jl2 h3;refine⟨by omega,by omega,jl1 h2,?_⟩;rw[h4];simp[pt0]
 rw[Ae k2]at h;by_cases k3:s.kind=3
 ·rw[Ad k3]at h;simp only[Aa,Ak,r8]at h;obtain⟨⟨⟨⟨⟨h1,h2⟩,h3⟩,h4⟩,h5⟩,h6⟩:=h;have:=jl2 h3;refine⟨by omega,by omega,jq4 h2,?_⟩;rw[h4];simp[pt0]
 rw[Ae k3]at h;by_cases k4:s.kind=4
 ·rw[Ad k4]at h;simp only[Aa,Ak,r8]at h;obtain⟨⟨⟨⟨⟨h1,h2⟩,h3⟩,h4⟩,h5⟩,h6⟩:=h;have:=jl2 h2;refine⟨by omega,by omega,jc5 h4,?_⟩;unfold Qm at h1;split at h1
  ·simp only[Aa,Ak]at h1;omega
  ·split at h1
   ·rename_i hv;rw[hv];simp
   ·cases h1
 rw[Ae k4]at h;by_cases k5:s.kind=5
 ·rw[Ad k5]at h;simp only[Aa,Ak,r8]at h;obtain⟨⟨⟨⟨⟨h1,h2⟩,h3⟩,h4⟩,h5⟩,h6⟩:=h;have:=jl2 h3;have:=jl2 h2;refine⟨by omega,by omega,jc5 h5,?_⟩;rw[h6];simp[pt0]
 rw[Ae k5]at h;cases h
theorem qx7:sp0.names.length<=8/\sp0.formals.length<=8/\exN sp0.e<=256/\sp0.proto.l.length<=16:=by
 refine⟨by decide,by decide,?_,by decide⟩;simp[sp0,Sp.e,ex0,exN,Gj]
theorem kc3 {p:Pr}(h:Gq p=true):Ho p.chan p.targets p.exprs p.rep<=6000/\(p.spec.names.length<=8/\p.spec.formals.length<=8/\exN p.spec.e<=256/\p.spec.proto.l.length<=16)/\p.guards.length<=16/\(∀ g∈p.guards,Le g=true)/\p.procs.length<=p.l.length:=by
 unfold Gq at h;have hu:=me4 _ p.rep.name (qh8 p.kind);simp only[Aa]at h;obtain⟨⟨⟨_,h2⟩,_⟩,⟨⟨⟨⟨⟨⟨⟨_,h5⟩,_⟩,h7⟩,h8⟩,h9⟩,h10⟩,h11⟩⟩:=h;have a1:Mr p.rep<=513:=by
  unfold Kn at h2;unfold Mr;split at h2
  ·simp only[Aa]at h2;have:=jc5 h2.1;have:=jc5 h2.2;omega
  ·simp only[Aa]at h2;have:=jl1 h2.1.2;have:=jl1 h2.2;omega
 have a2:exN p.chan<=256:=by
  split at h7
  ·exact jq4 h7
  ·exact jc5 h7
 have a3:=jx2 (m:=8) h8 (fun e=>jq4) (by omega);have a4:=jx2 (m:=9) h9 (fun e=>jl1) (by omega);refine⟨by unfold Ho;omega,?_,?_,?_,?_⟩
 ·split at h11
  ·exact qi0 h11
  ·rw[r8]at h11;rw[h11];exact qx7
 ·have:=jl2 h5;omega
 ·intro g hg;unfold Dj at h5;simp only[Aa,Bt]at h5;exact(h5.2 g hg).2
 ·have:=jl2 h10;split at this<;>omega
end Sc
end
section
namespace Sc
open Lx
mutual
theorem kw3:∀ p:Pr,Ik p->prN p<=90000 * Jy p/\(Dt p).length<=32 * Jy p
 |.mk kind name chan targets exprs rep guards l procs (.mk sk st sn se spp sf sb),h=>by
  simp only[Ik]at h;obtain⟨h1,h2,h3,h4⟩:=h;obtain⟨a1,⟨a2,a3,a4,a5⟩,a6,a7,_⟩:=kc3 h1;simp only[Pr.chan,Pr.targets,Pr.exprs,Pr.rep,Pr.spec,Pr.guards,Sp.names,Sp.formals,Sp.e,Sp.proto]at a1 a2 a3 a4 a5 a6 a7;have b1:=kg5 sb h2;have b2:=ms3 guards a7 h3;have b3:=kg5 l h4;simp only[prN,Dt,Jy,Ag,Ab];omega
theorem kg5:∀ l:List Pr,ja1 l->Kl l<=90000 * Gt l/\(Jz l).length<=32 * Gt l
 |[],_=>⟨Au _,Au _⟩
 |p::l,h=>by
  simp only[ja1]at h;have h1:=kw3 p h.1;have h2:=kg5 l h.2;simp only[Kl,Jz,Gt,Ag];omega
theorem ms3:∀ l:List Gu,(∀ g∈l,Le g=true)->je1 l->Mf l<=4864 * l.length+90000 * Je l/\(Ki l).length<=l.length+32 * Je l
 |[],_,_=>⟨Au _,Au _⟩
 |.mk kind name cond chan targets values time body::l,hm,h=>by
  simp only[je1]at h;have h0:=qh9 (hm _ (Az ..));simp only[Gu.cond,Gu.chan,Gu.targets,Gu.values,Gu.time]at h0;have h1:=kg5 body h.1;have h2:=ms3 l (fun g hg=>hm g (Bb _ hg)) h.2;simp only[Mf,guN,Ki,Jf,Je,Ag,An];omega
end
theorem me5:∀ (pre l:List Va),Qf pre l=true->∀ v∈l,v.items.length<=8
 |_,[],_,v,hv=>by cases hv
 |pre,w::l,h,v,hv=>by
  simp only[Qf,Aa]at h;rcases Bc.1 hv with rfl|hv
  ·have:=h.1.1.2;unfold Nu at this;simp only[Aa,Ak]at this;omega
  ·exact me5 _ l h.2 v hv
theorem qx8 {p:Pt}(h:Qm p=true):∀ v∈p.l,v.items.length<=8:=by
 unfold Qm at h;split at h
 ·rw[Aa]at h;exact me5 _ _ h.2
 ·split at h
  ·rename_i v hv;intro w hw;rw[hv,Bn]at hw;subst hw;unfold Nu at h;simp only[Aa,Ak]at h;omega
  ·cases h
theorem qx9 {s:Sp}(h:Kh s=true):∀ v∈s.proto.l,v.items.length<=8:=by
 have key:s.proto=pt0\/Qm s.proto=true:=by
  unfold Kh at h;by_cases k1:s.kind=1
  ·rw[Ad k1]at h;simp only[Aa,Ak,r8]at h;exact .inl h.1.1.2
  rw[Ae k1]at h;by_cases k2:s.kind=2
  ·rw[Ad k2]at h;simp only[Aa,Ak,r8]at h;exact .inl h.1.1.2
  rw[Ae k2]at h;by_cases k3:s.kind=3
  ·rw[Ad k3]at h;simp only[Aa,Ak,r8]at h;exact .inl h.1.1.2
  rw[Ae k3]at h;by_cases k4:s.kind=4
  ·rw[Ad k4]at h;simp only[Aa,Ak,r8]at h;exact .inr h.1.1.1.1.1
  rw[Ae k4]at h;by_cases k5:s.kind=5
  ·rw[Ad k5]at h;simp only[Aa,Ak,r8]at h;exact .inl h.2
  rw[Ae k5]at h;cases h
 rcases key with e|e
 ·rw[e];intro v hv;cases hv
 ·exact qx8 e
theorem mm8 {p:Pr}(h:Gq p=true):∀ v∈p.spec.proto.l,v.items.length<=8:=by
 unfold Gq at h;simp only[Aa]at h;obtain⟨_,⟨_,h11⟩⟩:=h;split at h11
 ·exact qx9 h11
 ·rw[r8]at h11;rw[h11];intro v hv;cases hv
theorem qi1:∀ l:List Pr,l.length<=Gt l
 |[]=>Au _
 |p::l=>by
  have:=qi1 l;have:1<=Jy p:=by
   obtain⟨_,_,_,_,_,_,_,_,_,⟨_,_,_,_,_,_,_⟩⟩:=p;simp only[Jy];omega
  simp only[Gt,An];omega
mutual
theorem rg0:∀ p:Pr,Ik p->Jy p<=2048->kx1 p
 |.mk kind name chan targets exprs rep guards l procs (.mk sk st sn se spp sf sb),h,hs=>by
  simp only[Ik]at h;obtain⟨h1,h2,h3,h4⟩:=h;obtain⟨_,⟨_,_,_,a5⟩,_,_,a8⟩:=kc3 h1;have a9:=mm8 h1;simp only[Pr.spec,Sp.proto,Pr.procs,Pr.l]at a5 a8 a9;simp only[Jy]at hs;have:=qi1 l;simp only[kx1];exact⟨⟨by omega,by omega,fun v hv=>by have:=a9 v hv;omega⟩,kw4 sb h2 (by omega),qi2 guards h3 (by omega),kw4 l h4 (by omega)⟩
theorem kw4:∀ l:List Pr,ja1 l->Gt l<=2048->jt8 l
 |[],_,_=>by simp only[jt8]
 |p::l,h,hs=>by
  simp only[ja1]at h;simp only[Gt]at hs;simp only[jt8];exact⟨rg0 p h.1 (by omega),kw4 l h.2 (by omega)⟩
theorem qi2:∀ l:List Gu,je1 l->Je l<=2048->km3 l
 |[],_,_=>by simp only[km3]
 |.mk _ _ _ _ _ _ _ body::l,h,hs=>by
  simp only[je1]at h;simp only[Je]at hs;simp only[km3];exact⟨kw4 body h.1 (by omega),qi2 l h.2 (by omega)⟩
end
theorem qy0 (s:ByteArray):∀ l:List ByteArray,(md6 l s).length<=l.length+1:=fun l=>by
 induction l with
 |nil=>simp[md6]
 |cons x l ih=>
  simp only[md6]
  repeat' split
  all_goals simp only[An]at *
  all_goals omega
theorem kw5 (l:List ByteArray):(once l).length<=l.length:=by
 have:∀ (l m:List ByteArray),(l.foldl md6 m).length<=m.length+l.length:=by
  intro l
  induction l with
  |nil=>intro m;simp
  |cons x l ih=>
   intro m;have h1:=ih (md6 m x);have h2:=qy0 x m;simp only[List.foldl_cons,An];omega
 simpa [once]using this l []
theorem ms4:∀ (tk:List (ByteArray × Int)) (s:ByteArray),(Ms tk s).length<=tk.length+1
 |[],s=>by simp[Ms]
 |x::l,s=>by
  have:=ms4 l s;simp only[Ms];split<;>simp only[An]<;>omega
theorem jq5:∀ (l:List ByteArray) (tk:List (ByteArray × Int)),(Fw tk l).length<=tk.length+l.length
 |[],tk=>by simp[Fw]
 |s::l,tk=>by
  have h1:=jq5 l (Ms tk s);have h2:=ms4 tk s;have h3:Fw tk (s::l)=Fw (Ms tk s) l:=rfl;rw[h3,An];omega
theorem me6 {tk:List (ByteArray × Int)}{m:Nat}(h1:∀ x∈tk,x.2≠0)(h2:tk.length<=300000000)(h3:m<=300000000):(start tk).fit m:=by
 refine⟨h1,⟨Ed _,?_⟩,?_,fun s=>?_⟩
 ·show(0:Int)+m * (tk.length+1)<1000000000000000000;have h4:m * (tk.length+1)<=300000000 * (300000000+1):=Nat.mul_le_mul h3 (by omega);have h5:((m * (tk.length+1):Nat):Int)=(m:Int) * (tk.length+1):=by
   rw[Int.natCast_mul];rfl
  omega
 ·unfold W.room start;simp only[Av];omega
 ·unfold start;simp only[Av];omega
theorem Qz {p:Pr}(h:He p=true):Can p:=by
 obtain⟨h1,h2⟩:=jf0 h;have h3:=kw3 p h1;have f0:(start []).fit (prN p+1):=me6 (fun x hx=>by cases hx) (by simp) (by omega);have hg:=(Ll p (start [])).ev;have hlen:=La (Fx (start []) p).2.ev;have ho:=kw5 (Hw (Fx (start []) p).2.ev);have hs:(start []).ev.length=0:=rfl;have hf:(Cx p).length<=prN p:=by unfold Cx;omega
 have hin0:Uf ([]:List (ByteArray × Int)) 0:=fun x hx=>by cases hx
 have hin:=Nz (Dt p) (by omega) (Nz (Cx p) (Ed 0) hin0);have l1:=jq5 (Cx p) [];have l2:=jq5 (Dt p) (Fw [] (Cx p));rw[Av]at l1;refine⟨ql8 p h1,rg0 p h1 h2,f0,me6 (fun x hx=>?_) ?_ (by omega),by omega⟩
 ·have:=(hin x hx).1;omega
 ·show(Fw (Fw [] (Cx p)) (Dt p)).length<=_;omega
end Sc
end
section
namespace Sc
def Adds (ds:List ByteArray)(σ τ:W):Prop:=∀ e∈τ.ev,e∈σ.ev\/e.2=false\/e.1∈ds
variable {ds:List ByteArray}
theorem Adds.Rl {σ τ:W}(h:τ.ev=σ.ev):Adds ds σ τ:=fun e he=>.inl (h ▸ he)
theorem Adds.trans {σ τ υ:W}(h:Adds ds σ τ)(h2:Adds ds τ υ):Adds ds σ υ:=fun e he=>by
 rcases h2 e he with h3|h3
 ·exact h e h3
 ·exact .inr h3
theorem kl0 (σ:W)(s:ByteArray):Adds ds σ (nameOf σ s).2:=by
 unfold nameOf;split
 ·exact .Rl rfl
 ·intro e he;simp only[step,Ap,Bn]at he;rcases he with he|rfl
  ·exact .inl he
  ·exact .inr (.inl rfl)
theorem ms5 {α:Type}{f:W->α->α × W}(hf:∀ (x:α) (σ:W),Adds ds σ (f σ x).2):∀ (l:List α) (σ:W),Adds ds σ (v7 f σ l).2
 |[],σ=>.Rl rfl
 |x::l,σ=>by
  simp only[v7];exact(hf x σ).trans (ms5 hf l _)
mutual
theorem jh5:∀ (e:Ex) (σ:W),Adds ds σ (Cj σ e).2
 |.mk kind op ty n s l,σ=>by
  have hr:Adds ds σ (if Dl kind then nameOf σ s else (s,σ)).2:=by
   split
   ·exact kl0 σ s
   ·exact .Rl rfl
  simp only[Cj];exact hr.trans (kc4 l _)
theorem kc4:∀ (l:List Ex) (σ:W),Adds ds σ (x6 σ l).2
 |[],σ=>by simp only[x6];exact .Rl rfl
 |e::l,σ=>by
  simp only[x6];exact(jh5 e σ).trans (kc4 l _)
end
theorem jj8 (l:List Ex)(σ:W):Adds ds σ (v7 Cj σ l).2:=by rw[<-ja3];exact kc4 l σ
theorem kr5 (σ:W)(t:Ty):Adds ds σ (Dm σ t).2:=by
 unfold Dm;split
 ·exact .Rl rfl
 ·exact kl0 σ _
theorem kr6 (σ:W)(l:List ByteArray)(h:∀ x∈l,x∈ds):Adds ds σ (Cr σ l):=fun e he=>by
 unfold Cr at he;rw[Ap]at he;refine he.imp id fun he=>.inr ?_;obtain⟨i,hi,rfl⟩:=Bl.1 he;have:=Ew.1 (List.mem_filter.1 hi).1;dsimp only;rw[List.getD_eq_getElem?_getD,At this];exact h _ (Aw this)
theorem kl1:∀ (l:List (Bool × List ByteArray)) (σ:W),Adds ds σ (Cs σ l).2
 |[],σ=>.Rl rfl
 |x::l,σ=>by
  simp only[Cs];exact Adds.trans (τ:=(Cu σ).2) (.Rl rfl) (kl1 l _)
theorem qi3 (σ:W)(s:Sp)(h1:∀ x∈s.names,x∈ds)(h2:∀ f∈s.formals,f.name∈ds):Adds ds σ (Gl σ s).2:=by
 unfold Gl;dsimp only;refine Adds.trans ?_ (jh5 _ _);refine Adds.trans ?_ (ms5 (f:=Cw) (fun f σ=>kr5 σ f.type) _ _);refine Adds.trans ?_ (kr5 _ _);refine Adds.trans ?_ (kl1 _ _);refine Adds.trans ?_ (kr6 _ _ ?_)
 ·refine Adds.trans ?_ (kl1 _ _);exact kr6 _ _ h1
 ·intro x hx;obtain⟨f,hf,rfl⟩:=Bl.1 hx;exact h2 f hf
theorem qy1 (tag:Bool)(σ:W)(l:List Ex):Adds ds σ (Du tag σ l).2:=by
 cases tag with
 |false=>rw[kb6];exact jj8 l σ
 |true=>
  cases l with
  |nil=>exact .Rl rfl
  |cons e l=>exact jj8 l σ
theorem qy2 (σ:W)(r:Rp):Adds ds σ (Jc σ r).2:=by
 unfold Jc;split
 ·exact .Rl rfl
 ·exact(Adds.trans (τ:=(Cu σ).2) (.Rl rfl) (jh5 r.base _)).trans (jh5 r.count _)
theorem my4 (σ:W)(cond chan:Ex)(targets values:List Ex)(time:Ex):Adds ds σ (Hl σ cond chan targets values time).2:=
 ((((jh5 cond σ).trans (jh5 chan _)).trans (jj8 targets _)).trans (jj8 values _)).trans (jh5 time _)
theorem my5 (σ:W)(kind:Int)(name:ByteArray)(chan:Ex)(targets exprs:List Ex)(rep:Rp):Adds ds σ (Fz σ kind name chan targets exprs rep).2:=by
 have ha:Adds ds σ (if kind=17 then nameOf σ name else (name,σ)).2:=by
  split
  ·exact kl0 σ name
  ·exact .Rl rfl
 exact(((ha.trans (jh5 chan _)).trans (jj8 targets _)).trans (qy1 _ _ exprs)).trans (qy2 _ rep)
mutual
theorem qi4:∀ (p:Pr) (σ:W),(∀ x∈jf6 p,x∈ds)->Adds ds σ (Fx σ p).2
 |.mk kind name chan targets exprs rep guards l procs (.mk sk st sn se spp sf sb),σ,hd=>by
  simp only[jf6,Ap]at hd;have hh:=my5 (ds:=ds) σ kind name chan targets exprs rep;simp only[Fx];generalize Fz σ kind name chan targets exprs rep=a at hh ⊢;split
  ·have hs:=qi3 a.2 (.mk sk st sn se spp sf []) (fun x hx=>hd x (.inr (.inl hx))) (fun f hf=>hd _ (.inr (.inr (.inl (Bl.2 ⟨f,hf,rfl⟩)))));generalize Gl a.2 (.mk sk st sn se spp sf [])=s at hs ⊢;have hb:=jx3 sb {s.2 with env:=Cm σ.env (sf.map (·.name)) s.1.inner} (fun x hx=>hd x (.inr (.inr (.inr (.inl hx)))));generalize Ga {s.2 with env:=Cm σ.env (sf.map (·.name)) s.1.inner} sb=b at hb ⊢;have hg:=kw6 guards {b.2 with env:=Cm σ.env sn s.1.own} (fun x hx=>hd x (.inr (.inr (.inr (.inr (.inl hx))))));generalize Gm {b.2 with env:=Cm σ.env sn s.1.own} guards=g at hg ⊢;have hm:=jx3 l g.2 (fun x hx=>hd x (.inr (.inr (.inr (.inr (.inr hx))))));exact(((hh.trans hs).trans (υ:=b.2) hb).trans (υ:=g.2) hg).trans hm
  ·have hg:=kw6 guards {a.2 with env:=Cm σ.env (if rep.name=ByteArray.empty then [] else [rep.name]) a.1.own} (fun x hx=>hd x (.inr (.inr (.inr (.inr (.inl hx))))));generalize Gm {a.2 with env:=Cm σ.env (if rep.name=ByteArray.empty then [] else [rep.name]) a.1.own} guards=g at hg ⊢;have hm:=jx3 l g.2 (fun x hx=>hd x (.inr (.inr (.inr (.inr (.inr hx))))));exact(hh.trans (υ:=g.2) hg).trans hm
theorem jx3:∀ (l:List Pr) (σ:W),(∀ x∈jd1 l,x∈ds)->Adds ds σ (Ga σ l).2
 |[],σ,_=>by simp only[Ga];exact .Rl rfl
 |e::l,σ,hd=>by
  simp only[jd1,Ap]at hd;simp only[Ga];exact(qi4 e σ fun x hx=>hd x (.inl hx)).trans (jx3 l _ fun x hx=>hd x (.inr hx))
theorem rl9:∀ (p:Gu) (σ:W),(∀ x∈ke4 p,x∈ds)->Adds ds σ (Iu σ p).2
 |.mk kind name cond chan targets values time body,σ,hd=>by
  simp only[ke4]at hd;simp only[Iu];exact(my4 σ cond chan targets values time).trans (jx3 body _ hd)
theorem kw6:∀ (l:List Gu) (σ:W),(∀ x∈jg3 l,x∈ds)->Adds ds σ (Gm σ l).2
 |[],σ,_=>by simp only[Gm];exact .Rl rfl
 |e::l,σ,hd=>by
  simp only[jg3,Ap]at hd;simp only[Gm];exact(rl9 e σ fun x hx=>hd x (.inl hx)).trans (kw6 l _ fun x hx=>hd x (.inr hx))
end
mutual
theorem kr7:∀ (p:Pr),Ik p->∀ x∈jf6 p,Lx.Dg x=true
 |.mk kind name chan targets exprs rep guards l procs (.mk sk st sn se spp sf sb),h,x,hx=>by
  simp only[Ik]at h;obtain⟨h1,h2,h3,h4⟩:=h;rw[Lx.Iy,Aa]at h1;simp only[jf6,Ap]at hx;have hk:=jo6 _ h1.1;simp only[Pr.kind,Pr.rep,Pr.spec]at hk;have hsp:(∀ x∈sn,Lx.Dg x=true)/\∀ f∈sf,Lx.Dg f.name=true:=by
   by_cases h18:kind=18
   ·have:=mu2 _ (Lx.Ol _ h1.1 h18);exact⟨this.1,this.2.1⟩
   ·have hz:=hk.2.1 h18;simp only[sp0,Sp.mk.injEq]at hz;obtain⟨rfl,rfl,rfl,rfl,rfl,rfl,rfl⟩:=hz;exact⟨fun x hx=>(by cases hx),fun x hx=>(by cases hx)⟩
  rcases hx with hx|hx|hx|hx|hx|hx
  ·split at hx
   ·cases hx
   ·rename_i hr;rw[Bn]at hx;subst hx;have:=hk.2.2.2;unfold Lx.Kn at this;rw[Ae hr]at this;simp only[Aa]at this;exact this.1.1
  ·exact hsp.1 x hx
  ·obtain⟨f,hf,rfl⟩:=Bl.1 hx;exact hsp.2 f hf
  ·exact jo4 sb h2 x hx
  ·exact kl2 guards h3 x hx
  ·exact jo4 l h4 x hx
theorem jo4:∀ (l:List Pr),ja1 l->∀ x∈jd1 l,Lx.Dg x=true
 |[],_,x,hx=>by simp[jd1]at hx
 |p::l,h,x,hx=>by
  simp only[ja1]at h;simp only[jd1,Ap]at hx;rcases hx with hx|hx
  ·exact kr7 p h.1 x hx
  ·exact jo4 l h.2 x hx
theorem kl2:∀ (l:List Gu),je1 l->∀ x∈jg3 l,Lx.Dg x=true
 |[],_,x,hx=>by simp[jg3]at hx
 |.mk kind name cond chan targets values time body::l,h,x,hx=>by
  simp only[je1]at h;simp only[jg3,ke4,Ap]at hx;rcases hx with hx|hx
  ·exact jo4 body h.1 x hx
  ·exact kl2 l h.2 x hx
end
theorem kc5 {s:ByteArray}:∀ {ev:List (ByteArray × Bool)},s∈Hw ev↔(s,false)∈ev
 |[]=>by simp[Hw]
 |(x,true)::l=>by simp[Hw,kc5 (ev:=l)]
 |(x,false)::l=>by simp[Hw,kc5 (ev:=l)]
theorem rm0 {ns:List ByteArray}{s:ByteArray}:ns.any (isB s)=true↔s∈ns:=by
 rw[Em];exact⟨fun⟨x,hx,e⟩=>(Mi.1 e) ▸ hx,fun h=>⟨s,h,Mi.2 rfl⟩⟩
theorem me7 (ns:List ByteArray):∀ ev:List (ByteArray × Bool),(∀ s,(s,false)∈ev->s∈ns)->Ih ns ev=(ByteArray.empty,0)\/∃ s,(s,true)∈ev/\Ih ns ev=(s,121)
 |[],_=>.inl rfl
 |(x,true)::l,_=>.inr ⟨x,Az,by simp[Ih]⟩
 |(x,false)::l,h=>by
  have hx:=rm0.2 (h x Az);simp only[Ih,hx,if_true,Ba,if_false];rcases me7 ns l fun s hs=>h s (Bb _ hs) with h1|⟨s,h1,h2⟩
  ·exact .inl h1
  ·exact .inr ⟨s,Bb _ h1,h2⟩
theorem kw7 {p:Pr}{s:ByteArray}:s∈Cx p↔(s,false)∈(Fx (start []) p).2.ev:=by
 unfold Cx;rw[mr4,kc5]
theorem my6 {p:Pr}(h:Lx.He p=true):Ij p (Cx p)=(ByteArray.empty,0)\/∃ s,s≠ByteArray.empty/\Ij p (Cx p)=(s,121):=by
 unfold Ij;refine(me7 (Cx p) _ fun s hs=>kw7.2 hs).imp id fun⟨s,h1,h2⟩=>⟨s,?_,h2⟩;have ha:=qi4 p (start []) (fun x hx=>hx) _ h1;rcases ha with ha|ha|ha
 ·cases ha
 ·cases ha
 ·exact jq7 (kr7 p (jf0 h).1 s ha)
end Sc
end
section
variable {mm:Int}
theorem qy3 (p:Pr):FnD prog (glS mm) 10 [.d (dPr p)] (fun v=>v=.tup [.d (.list 1 (if Lx.He p=true then (Sc.Cx p).map .str else [])),.d (.int .i64 (if Lx.He p=true then 0 else 2))]):=
 qh3 p fun h=>⟨(Sc.Qz h).ok,(Sc.Qz h).cap,(Sc.Qz h).fit0⟩
theorem kc6 (p:Pr):FnD prog (glS mm) 12 [.d (dPr p)] (fun v=>v=.tup [.d (dPr (Sc.Vf p)),.d (.int .i64 (Sc.Ht p))]):=my3 p fun h=>Sc.Qz h
end
end Go.Proofs.YtklklgfpkpglgaaGreatDoor
