/- Parts: S47, S48, S49, S50. -/
import Derived.Test.YtdopmfifmgkmoaaGreatDoorP37
import Derived.Test.YtdopmfifmgkmoaaGreatDoorP33
set_option linter.all false
set_option maxRecDepth 100000
set_option maxHeartbeats 16000000
namespace Go.Proofs.YtdopmfifmgkmoaaGreatDoor
open Go.RowKit Go.Proofs.Tryz
section
namespace Sc
open Lx
mutual
theorem ko1:∀ (e:Ex) (deep left:Int),(Dx deep left e).1=true->(exN e:Int)+(Dx deep left e).2<=left/\0<=(Dx deep left e).2
 |.mk kind op ty n s l,deep,left,h=>by
  rw[Dx]at h ⊢;split at h
  ·cases h
  ·rename_i hc;rw[Af hc];have:=kh3 l (deep+1) (left - 1) (by simp only[not_or]at hc;omega) h;simp only[exN];omega
theorem kh3:∀ (l:List Ex) (deep left:Int),0<=left->(Gi deep left l).1=true->(Hr l:Int)+(Gi deep left l).2<=left/\0<=(Gi deep left l).2
 |[],deep,left,h0,h=>by
  rw[Gi];simp only[Hr];omega
 |e::l,deep,left,h0,h=>by
  rw[Gi]at h ⊢;split at h
  ·rename_i hc;rw[Ae hc];have h1:=ko1 e deep left hc;have h2:=kh3 l deep _ h1.2 h;simp only[Hr];omega
  ·rename_i hc;exact absurd h hc
end
theorem jj4 {e:Ex}(h:Gr e=true):exN e<=256:=by
 have:=ko1 e 1 256 h;omega
theorem jc6 {e:Ex}(h:Jm e=true):exN e<=256:=by
 unfold Jm at h;rw[k7]at h;subst h;simp[ex0,exN,Hr]
theorem jo5 {e:Ex}(h:Hf e=true):exN e<=256:=by
 unfold Hf at h;rw[Ab]at h;exact jj4 h.2
theorem kz7:∀ {l:List Ex},(∀ x∈l,exN x<=256)->Hr l<=256 * l.length
 |[],_=>As _
 |e::l,h=>by
  have h1:=h e (Bi ..);have h2:=kz7 (l:=l) fun x hx=>h x (Bk _ hx);simp only[Hr,Ai];omega
theorem jv8 {l:List Ex}{a b:Int}{f:Ex->Bool}{m:Nat}(h:Da l a b f=true)(hf:∀ e,f e=true->exN e<=256)(hb:b<=m):Hr l<=256 * m:=by
 unfold Da hasB at h;simp only[Ab,Al,Ec]at h;have h1:=kz7 fun x hx=>hf x (h.2 x hx);omega
theorem qd0 (k:Int):(Ia k).1.t1<=8/\(Ia k).1.e1<=9/\(Ia k).1.g1<=16:=by
 unfold Ia;by_cases c0:k=1\/k=2
 ·rw[Ae c0];simp[Gx]
 rw[Af c0];by_cases c1:k=3
 ·rw[Ae c1];simp[Gx]
 rw[Af c1];by_cases c2:k=4
 ·rw[Ae c2];simp[Gx]
 rw[Af c2];by_cases c3:k=5
 ·rw[Ae c3];simp[Gx]
 rw[Af c3];by_cases c4:k=6
 ·rw[Ae c4];simp[Gx]
 rw[Af c4];by_cases c5:k=7
 ·rw[Ae c5];simp[Gx]
 rw[Af c5];by_cases c6:k=8\/k=9
 ·rw[Ae c6];simp[Gx]
 rw[Af c6];by_cases c7:k=10
 ·rw[Ae c7];simp[Gx]
 rw[Af c7];by_cases c8:k=11
 ·rw[Ae c8];simp[Gx]
 rw[Af c8];by_cases c9:k=12\/k=13
 ·rw[Ae c9];simp[Gx]
 rw[Af c9];by_cases c10:k=14
 ·rw[Ae c10];simp[Gx]
 rw[Af c10];by_cases c11:k=15
 ·rw[Ae c11];simp[Gx]
 rw[Af c11];by_cases c12:k=16
 ·rw[Ae c12];simp[Gx]
 rw[Af c12];by_cases c13:k=17
 ·rw[Ae c13];simp[Gx]
 rw[Af c13];by_cases c14:k=18
 ·rw[Ae c14];simp[Gx]
 rw[Af c14];simp[Gx]
theorem kz8 (u:Uses)(r:ByteArray)(h:u.t1<=8/\u.e1<=9/\u.g1<=16):(Ir u r).t1<=8/\(Ir u r).e1<=9/\(Ir u r).g1<=16:=by
 unfold Ir
 repeat' split
 all_goals simp_all
theorem rc5 {g:Gu}(h:Lh g=true):Ng g.cond g.chan g.targets g.values g.time<=4864:=by
 unfold Lh at h;simp only[Ab]at h;obtain⟨⟨⟨⟨⟨⟨⟨_,_⟩,h2⟩,_⟩,h3⟩,h4⟩,h5⟩,h6⟩:=h;have a1:exN g.cond<=256:=by
  split at h2
  ·simp only[Bo,Ab]at h2;rcases h2 with h2|h2
   ·exact jj4 h2
   ·exact jc6 h2.2
  ·exact jc6 h2
 have a2:exN g.chan<=256:=by
  split at h3
  ·exact jo5 h3
  ·exact jc6 h3
 have a3:exN g.time<=256:=by
  split at h4
  ·exact jj4 h4
  ·exact jc6 h4
 have a4:=jv8 (m:=8) h5 (fun e=>jo5) (by split<;>decide);have a5:=jv8 (m:=8) h6 (fun e=>jj4) (by split<;>decide);unfold Ng;omega
theorem rc6 {a b:Int}{n:Nat}(h:hasB a b n=true):(n:Int)<=b:=by
 unfold hasB at h;simp only[Ab,Al]at h;exact h.2
theorem jj5 {α:Type}{l:List α}{a b:Int}{f:α->Bool}(h:Da l a b f=true):(l.length:Int)<=b:=by
 unfold Da at h;rw[Ab]at h;exact rc6 h.1
theorem rc7 {s:Sp}(h:Jf s=true):s.names.length<=8/\s.formals.length<=8/\exN s.e<=256/\s.proto.l.length<=16:=by
 unfold Jf at h;by_cases k1:s.kind=1
 ·rw[Ae k1]at h;simp only[Ab,Al,k7]at h;obtain⟨⟨⟨⟨⟨h1,h2⟩,h3⟩,h4⟩,h5⟩,h6⟩:=h;have:=jj5 h2;refine⟨by omega,by omega,jc6 h3,?_⟩;rw[h4];simp[pt0]
 rw[Af k1]at h;by_cases k2:s.kind=2
 ·rw[Ae k2]at h;simp only[Ab,Al,k7]at h;obtain⟨⟨⟨⟨⟨h1,h2⟩,h3⟩,h4⟩,h5⟩,h6⟩:=h;have:=jj5 h3;refine⟨by omega,by omega,jj4 h2,?_⟩;rw[h4];simp[pt0]
 rw[Af k2]at h;by_cases k3:s.kind=3
 ·rw[Ae k3]at h;simp only[Ab,Al,k7]at h;obtain⟨⟨⟨⟨⟨h1,h2⟩,h3⟩,h4⟩,h5⟩,h6⟩:=h;have:=jj5 h3;refine⟨by omega,by omega,jo5 h2,?_⟩;rw[h4];simp[pt0]
 rw[Af k3]at h;by_cases k4:s.kind=4
 ·rw[Ae k4]at h;simp only[Ab,Al,k7]at h;obtain⟨⟨⟨⟨⟨h1,h2⟩,h3⟩,h4⟩,h5⟩,h6⟩:=h;have:=jj5 h2;refine⟨by omega,by omega,jc6 h4,?_⟩;unfold Ny at h1;split at h1
  ·simp only[Ab,Al]at h1;omega
  ·split at h1
   ·rename_i hv;rw[hv];simp
   ·cases h1
 rw[Af k4]at h;by_cases k5:s.kind=5
 ·rw[Ae k5]at h;simp only[Ab,Al,k7]at h;obtain⟨⟨⟨⟨⟨h1,h2⟩,h3⟩,h4⟩,h5⟩,h6⟩:=h;have:=jj5 h3;have:=jj5 h2;refine⟨by omega,by omega,jc6 h5,?_⟩;rw[h6];simp[pt0]
 rw[Af k5]at h;cases h
theorem qq7:sp0.names.length<=8/\sp0.formals.length<=8/\exN sp0.e<=256/\sp0.proto.l.length<=16:=by
 refine⟨by decide,by decide,?_,by decide⟩;simp[sp0,Sp.e,ex0,exN,Hr]
theorem ko2 {p:Pr}(h:Il p=true):Gc p.chan p.targets p.exprs p.rep<=6000/\(p.spec.names.length<=8/\p.spec.formals.length<=8/\exN p.spec.e<=256/\p.spec.proto.l.length<=16)/\p.guards.length<=16/\(∀ g∈p.guards,Lh g=true)/\p.procs.length<=p.l.length:=by
 unfold Il at h;have hu:=kz8 _ p.rep.name (qd0 p.kind);simp only[Ab]at h;obtain⟨⟨⟨_,h2⟩,_⟩,⟨⟨⟨⟨⟨⟨⟨_,h5⟩,_⟩,h7⟩,h8⟩,h9⟩,h10⟩,h11⟩⟩:=h;have a1:Lv p.rep<=513:=by
  unfold Iz at h2;unfold Lv;split at h2
  ·simp only[Ab]at h2;have:=jc6 h2.1;have:=jc6 h2.2;omega
  ·simp only[Ab]at h2;have:=jj4 h2.1.2;have:=jj4 h2.2;omega
 have a2:exN p.chan<=256:=by
  split at h7
  ·exact jo5 h7
  ·exact jc6 h7
 have a3:=jv8 (m:=8) h8 (fun e=>jo5) (by omega);have a4:=jv8 (m:=9) h9 (fun e=>jj4) (by omega);refine⟨by unfold Gc;omega,?_,?_,?_,?_⟩
 ·split at h11
  ·exact rc7 h11
  ·rw[k7]at h11;rw[h11];exact qq7
 ·have:=jj5 h5;omega
 ·intro g hg;unfold Da at h5;simp only[Ab,Ec]at h5;exact(h5.2 g hg).2
 ·have:=jj5 h10;split at this<;>omega
end Sc
end
section
namespace Sc
open Lx
mutual
theorem Rw:∀ p:Pr,Ms p->prN p<=90000 * Jq p/\(Dk p).length<=32 * Jq p
 |.mk kind name chan targets exprs rep guards l procs (.mk sk st sn se spp sf sb),h=>by
  simp only[Ms]at h;obtain⟨h1,h2,h3,h4⟩:=h;obtain⟨a1,⟨a2,a3,a4,a5⟩,a6,a7,_⟩:=ko2 h1;simp only[Pr.chan,Pr.targets,Pr.exprs,Pr.rep,Pr.spec,Pr.guards,Sp.names,Sp.formals,Sp.e,Sp.proto]at a1 a2 a3 a4 a5 a6 a7;have b1:=kc8 sb h2;have b2:=ml6 guards a7 h3;have b3:=kc8 l h4;simp only[prN,Dk,Jq,Ag,Aa];omega
theorem kc8:∀ l:List Pr,Jj l->Hz l<=90000 * Gt l/\(Du l).length<=32 * Gt l
 |[],_=>⟨As _,As _⟩
 |p::l,h=>by
  simp only[Jj]at h;have h1:=Rw p h.1;have h2:=kc8 l h.2;simp only[Hz,Du,Gt,Ag];omega
theorem ml6:∀ l:List Gu,(∀ g∈l,Lh g=true)->Lp l->Jb l<=4864 * l.length+90000 * Jl l/\(Gb l).length<=l.length+32 * Jl l
 |[],_,_=>⟨As _,As _⟩
 |.mk kind name cond chan targets values time body::l,hm,h=>by
  simp only[Lp]at h;have h0:=rc5 (hm _ (Bi ..));simp only[Gu.cond,Gu.chan,Gu.targets,Gu.values,Gu.time]at h0;have h1:=kc8 body h.1;have h2:=ml6 l (fun g hg=>hm g (Bk _ hg)) h.2;simp only[Jb,guN,Gb,Jw,Jl,Ag,Ai];omega
end
theorem kz9:∀ (pre l:List Va),Ol pre l=true->∀ v∈l,v.items.length<=8
 |_,[],_,v,hv=>by cases hv
 |pre,w::l,h,v,hv=>by
  simp only[Ol,Ab]at h;rcases Bf.1 hv with rfl|hv
  ·have:=h.1.1.2;unfold Ld at this;simp only[Ab,Al]at this;omega
  ·exact kz9 _ l h.2 v hv
theorem qq8 {p:Pt}(h:Ny p=true):∀ v∈p.l,v.items.length<=8:=by
 unfold Ny at h;split at h
 ·rw[Ab]at h;exact kz9 _ _ h.2
 ·split at h
  ·rename_i v hv;intro w hw;rw[hv,Em]at hw;subst hw;unfold Ld at h;simp only[Ab,Al]at h;omega
  ·cases h
theorem qq9 {s:Sp}(h:Jf s=true):∀ v∈s.proto.l,v.items.length<=8:=by
 have key:s.proto=pt0\/Ny s.proto=true:=by
  unfold Jf at h;by_cases k1:s.kind=1
  ·rw[Ae k1]at h;simp only[Ab,Al,k7]at h;exact .inl h.1.1.2
  rw[Af k1]at h;by_cases k2:s.kind=2
  ·rw[Ae k2]at h;simp only[Ab,Al,k7]at h;exact .inl h.1.1.2
  rw[Af k2]at h;by_cases k3:s.kind=3
  ·rw[Ae k3]at h;simp only[Ab,Al,k7]at h;exact .inl h.1.1.2
  rw[Af k3]at h;by_cases k4:s.kind=4
  ·rw[Ae k4]at h;simp only[Ab,Al,k7]at h;exact .inr h.1.1.1.1.1
  rw[Af k4]at h;by_cases k5:s.kind=5
  ·rw[Ae k5]at h;simp only[Ab,Al,k7]at h;exact .inl h.2
  rw[Af k5]at h;cases h
 rcases key with e|e
 ·rw[e];intro v hv;cases hv
 ·exact qq8 e
theorem mg7 {p:Pr}(h:Il p=true):∀ v∈p.spec.proto.l,v.items.length<=8:=by
 unfold Il at h;simp only[Ab]at h;obtain⟨_,⟨_,h11⟩⟩:=h;split at h11
 ·exact qq9 h11
 ·rw[k7]at h11;rw[h11];intro v hv;cases hv
theorem qd1:∀ l:List Pr,l.length<=Gt l
 |[]=>As _
 |p::l=>by
  have:=qd1 l;have:1<=Jq p:=by
   obtain⟨_,_,_,_,_,_,_,_,_,⟨_,_,_,_,_,_,_⟩⟩:=p;simp only[Jq];omega
  simp only[Gt,Ai];omega
mutual
theorem qx1:∀ p:Pr,Ms p->Jq p<=2048->kc2 p
 |.mk kind name chan targets exprs rep guards l procs (.mk sk st sn se spp sf sb),h,hs=>by
  simp only[Ms]at h;obtain⟨h1,h2,h3,h4⟩:=h;obtain⟨_,⟨_,_,_,a5⟩,_,_,a8⟩:=ko2 h1;have a9:=mg7 h1;simp only[Pr.spec,Sp.proto,Pr.procs,Pr.l]at a5 a8 a9;simp only[Jq]at hs;have:=qd1 l;simp only[kc2];exact⟨⟨by omega,by omega,fun v hv=>by have:=a9 v hv;omega⟩,kt0 sb h2 (by omega),qd2 guards h3 (by omega),kt0 l h4 (by omega)⟩
theorem kt0:∀ l:List Pr,Jj l->Gt l<=2048->jr8 l
 |[],_,_=>by simp only[jr8]
 |p::l,h,hs=>by
  simp only[Jj]at h;simp only[Gt]at hs;simp only[jr8];exact⟨qx1 p h.1 (by omega),kt0 l h.2 (by omega)⟩
theorem qd2:∀ l:List Gu,Lp l->Jl l<=2048->kg9 l
 |[],_,_=>by simp only[kg9]
 |.mk _ _ _ _ _ _ _ body::l,h,hs=>by
  simp only[Lp]at h;simp only[Jl]at hs;simp only[kg9];exact⟨kt0 body h.1 (by omega),qd2 l h.2 (by omega)⟩
end
theorem Tn (s:ByteArray):∀ l:List ByteArray,(Lu l s).length<=l.length+1:=fun l=>by
 induction l with
 |nil=>simp[Lu]
 |cons x l ih=>
  simp only[Lu]
  repeat' split
  all_goals simp only[Ai]at *
  all_goals omega
theorem ml7 (l:List ByteArray):(once l).length<=l.length:=by
 have:∀ (l m:List ByteArray),(l.foldl Lu m).length<=m.length+l.length:=by
  intro l
  induction l with
  |nil=>intro m;simp
  |cons x l ih=>
   intro m;have h1:=ih (Lu m x);have h2:=Tn x m;simp only[List.foldl_cons,Ai];omega
 simpa [once]using this l []
theorem ml8:∀ (tk:List (ByteArray × Int)) (s:ByteArray),(Mx tk s).length<=tk.length+1
 |[],s=>by simp[Mx]
 |x::l,s=>by
  have:=ml8 l s;simp only[Mx];split<;>simp only[Ai]<;>omega
theorem kh4:∀ (l:List ByteArray) (tk:List (ByteArray × Int)),(Fw tk l).length<=tk.length+l.length
 |[],tk=>by simp[Fw]
 |s::l,tk=>by
  have h1:=kh4 l (Mx tk s);have h2:=ml8 tk s;have h3:Fw tk (s::l)=Fw (Mx tk s) l:=rfl;rw[h3,Ai];omega
theorem kh5 {tk:List (ByteArray × Int)}{m:Nat}(h1:∀ x∈tk,x.2≠0)(h2:tk.length<=300000000)(h3:m<=300000000):(start tk).fit m:=by
 refine⟨h1,⟨Int.le_refl _,?_⟩,?_,fun s=>?_⟩
 ·show(0:Int)+m * (tk.length+1)<1000000000000000000;have h4:m * (tk.length+1)<=300000000 * (300000000+1):=Nat.mul_le_mul h3 (by omega);have h5:((m * (tk.length+1):Nat):Int)=(m:Int) * (tk.length+1):=by
   rw[Int.natCast_mul];rfl
  omega
 ·unfold W.room start;simp only[Aq];omega
 ·unfold start;simp only[Aq];omega
theorem Lj {p:Pr}(h:Dz p=true):Can p:=by
 obtain⟨h1,h2⟩:=Nl h;have h3:=Rw p h1;have f0:(start []).fit (prN p+1):=kh5 (fun x hx=>by cases hx) (by simp) (by omega);have hg:=(Qx p (start [])).ev;have hlen:=Nr (Fv (start []) p).2.ev;have ho:=ml7 (Ih (Fv (start []) p).2.ev);have hs:(start []).ev.length=0:=rfl;have hf:(Dl p).length<=prN p:=by unfold Dl;omega
 have hin0:Ux ([]:List (ByteArray × Int)) 0:=fun x hx=>by cases hx
 have hin:=Oa (Dk p) (by omega) (Oa (Dl p) (Int.le_refl 0) hin0);have l1:=kh4 (Dl p) [];have l2:=kh4 (Dk p) (Fw [] (Dl p));rw[Aq]at l1;refine⟨qe1 p h1,qx1 p h1 h2,f0,kh5 (fun x hx=>?_) ?_ (by omega),by omega⟩
 ·have:=(hin x hx).1;omega
 ·show(Fw (Fw [] (Dl p)) (Dk p)).length<=_;omega
end Sc
end
section
variable {mm:Int}
theorem jv9 (p:Pr):FnD prog (glS mm) 12 [.d (dPr p)] (fun v=>v=.tup [.d (.list 1 (if Lx.Dz p=true then (Sc.Dl p).map .str else [])),.d (.int .i64 (if Lx.Dz p=true then 0 else 2))]):=
 qc7 p fun h=>⟨(Sc.Lj h).ok,(Sc.Lj h).cap,(Sc.Lj h).fit0⟩
theorem jw0 (p:Pr)(nn:List ByteArray):FnD prog (glS mm) 15 [.d (dPr p),.d (.list 1 (nn.map .str))] (fun v=>v=.tup [.d (.str (if Lx.Dz p=true then (Sc.Hq p nn).1 else ByteArray.empty)),.d (.int .i64 (if Lx.Dz p=true then (Sc.Hq p nn).2 else 2))]):=
 ml4 p nn fun h=>⟨(Sc.Lj h).ok,(Sc.Lj h).cap,(Sc.Lj h).fit0⟩
theorem jy6 (p:Pr):FnD prog (glS mm) 18 [.d (dPr p)] (fun v=>v=.tup [.d (dPr (Sc.Ke p)),.d (.int .i64 (Sc.Je p))]):=jy5 p fun h=>Sc.Lj h
theorem jo6 (a b:Pr):FnD prog (glS mm) 20 [.d (dPr a),.d (dPr b)] (fun v=>v=.d (.bool (decide (Sc.Je a=0) && (decide (Sc.Je b=0) && eqB (Sc.Ke a) (Sc.Ke b))))):=
 qq6 a b (fun h=>Sc.Lj h) fun h=>Sc.Lj h
end
section
namespace Sc
def Adds (ds:List ByteArray)(σ τ:W):Prop:=∀ e∈τ.ev,e∈σ.ev\/e.2=false\/e.1∈ds
variable {ds:List ByteArray}
theorem Adds.Sq {σ τ:W}(h:τ.ev=σ.ev):Adds ds σ τ:=fun e he=>.inl (h ▸ he)
theorem Adds.trans {σ τ υ:W}(h:Adds ds σ τ)(h2:Adds ds τ υ):Adds ds σ υ:=fun e he=>by
 rcases h2 e he with h3|h3
 ·exact h e h3
 ·exact .inr h3
theorem kh6 (σ:W)(s:ByteArray):Adds ds σ (nameOf σ s).2:=by
 unfold nameOf;split
 ·exact .Sq rfl
 ·intro e he;simp only[step,Bu,Em]at he;rcases he with he|rfl
  ·exact .inl he
  ·exact .inr (.inl rfl)
theorem ml9 {α:Type}{f:W->α->α × W}(hf:∀ (x:α) (σ:W),Adds ds σ (f σ x).2):∀ (l:List α) (σ:W),Adds ds σ (Cv f σ l).2
 |[],σ=>.Sq rfl
 |x::l,σ=>by
  simp only[Cv];exact(hf x σ).trans (ml9 hf l _)
mutual
theorem jg3:∀ (e:Ex) (σ:W),Adds ds σ (j2 σ e).2
 |.mk kind op ty n s l,σ=>by
  have hr:Adds ds σ (if Dt kind then nameOf σ s else (s,σ)).2:=by
   split
   ·exact kh6 σ s
   ·exact .Sq rfl
  simp only[j2];exact hr.trans (jy7 l _)
theorem jy7:∀ (l:List Ex) (σ:W),Adds ds σ (l3 σ l).2
 |[],σ=>by simp only[l3];exact .Sq rfl
 |e::l,σ=>by
  simp only[l3];exact(jg3 e σ).trans (jy7 l _)
end
theorem jh9 (l:List Ex)(σ:W):Adds ds σ (Cv j2 σ l).2:=by rw[<-ja5];exact jy7 l σ
theorem ko3 (σ:W)(t:Ty):Adds ds σ (Gn σ t).2:=by
 unfold Gn;split
 ·exact .Sq rfl
 ·exact kh6 σ _
theorem ko4 (σ:W)(l:List ByteArray)(h:∀ x∈l,x∈ds):Adds ds σ (Cu σ l):=fun e he=>by
 unfold Cu at he;rw[Bu]at he;refine he.imp id fun he=>.inr ?_;obtain⟨i,hi,rfl⟩:=Bs.1 he;have:=List.mem_range.1 (List.mem_filter.1 hi).1;dsimp only;rw[List.getD_eq_getElem?_getD,Be this];exact h _ (Ar this)
theorem kh7:∀ (l:List (Bool × List ByteArray)) (σ:W),Adds ds σ (Co σ l).2
 |[],σ=>.Sq rfl
 |x::l,σ=>by
  simp only[Co];exact Adds.trans (τ:=(Ct σ).2) (.Sq rfl) (kh7 l _)
theorem qd3 (σ:W)(s:Sp)(h1:∀ x∈s.names,x∈ds)(h2:∀ f∈s.formals,f.name∈ds):Adds ds σ (Fu σ s).2:=by
 unfold Fu;dsimp only;refine Adds.trans ?_ (jg3 _ _);refine Adds.trans ?_ (ml9 (f:=Cx) (fun f σ=>ko3 σ f.type) _ _);refine Adds.trans ?_ (ko3 _ _);refine Adds.trans ?_ (kh7 _ _);refine Adds.trans ?_ (ko4 _ _ ?_)
 ·refine Adds.trans ?_ (kh7 _ _);exact ko4 _ _ h1
 ·intro x hx;obtain⟨f,hf,rfl⟩:=Bs.1 hx;exact h2 f hf
theorem qr0 (tag:Bool)(σ:W)(l:List Ex):Adds ds σ (Dn tag σ l).2:=by
 cases tag with
 |false=>rw[kf7];exact jh9 l σ
 |true=>
  cases l with
  |nil=>exact .Sq rfl
  |cons e l=>exact jh9 l σ
theorem qr1 (σ:W)(r:Rp):Adds ds σ (Iw σ r).2:=by
 unfold Iw;split
 ·exact .Sq rfl
 ·exact(Adds.trans (τ:=(Ct σ).2) (.Sq rfl) (jg3 r.base _)).trans (jg3 r.count _)
theorem mq8 (σ:W)(cond chan:Ex)(targets values:List Ex)(time:Ex):Adds ds σ (Ie σ cond chan targets values time).2:=
 ((((jg3 cond σ).trans (jg3 chan _)).trans (jh9 targets _)).trans (jh9 values _)).trans (jg3 time _)
theorem mq9 (σ:W)(kind:Int)(name:ByteArray)(chan:Ex)(targets exprs:List Ex)(rep:Rp):Adds ds σ (Hg σ kind name chan targets exprs rep).2:=by
 have ha:Adds ds σ (if kind=17 then nameOf σ name else (name,σ)).2:=by
  split
  ·exact kh6 σ name
  ·exact .Sq rfl
 exact(((ha.trans (jg3 chan _)).trans (jh9 targets _)).trans (qr0 _ _ exprs)).trans (qr1 _ rep)
mutual
theorem qd4:∀ (p:Pr) (σ:W),(∀ x∈Hl p,x∈ds)->Adds ds σ (Fv σ p).2
 |.mk kind name chan targets exprs rep guards l procs (.mk sk st sn se spp sf sb),σ,hd=>by
  simp only[Hl,Bu]at hd;have hh:=mq9 (ds:=ds) σ kind name chan targets exprs rep;simp only[Fv];generalize Hg σ kind name chan targets exprs rep=a at hh ⊢;split
  ·have hs:=qd3 a.2 (.mk sk st sn se spp sf []) (fun x hx=>hd x (.inr (.inl hx))) (fun f hf=>hd _ (.inr (.inr (.inl (Bs.2 ⟨f,hf,rfl⟩)))));generalize Fu a.2 (.mk sk st sn se spp sf [])=s at hs ⊢;have hb:=jw1 sb {s.2 with env:=Cn σ.env (sf.map (·.name)) s.1.inner} (fun x hx=>hd x (.inr (.inr (.inr (.inl hx)))));generalize Gv {s.2 with env:=Cn σ.env (sf.map (·.name)) s.1.inner} sb=b at hb ⊢;have hg:=kt1 guards {b.2 with env:=Cn σ.env sn s.1.own} (fun x hx=>hd x (.inr (.inr (.inr (.inr (.inl hx))))));generalize Hw {b.2 with env:=Cn σ.env sn s.1.own} guards=g at hg ⊢;have hm:=jw1 l g.2 (fun x hx=>hd x (.inr (.inr (.inr (.inr (.inr hx))))));exact(((hh.trans hs).trans (υ:=b.2) hb).trans (υ:=g.2) hg).trans hm
  ·have hg:=kt1 guards {a.2 with env:=Cn σ.env (if rep.name=ByteArray.empty then [] else [rep.name]) a.1.own} (fun x hx=>hd x (.inr (.inr (.inr (.inr (.inl hx))))));generalize Hw {a.2 with env:=Cn σ.env (if rep.name=ByteArray.empty then [] else [rep.name]) a.1.own} guards=g at hg ⊢;have hm:=jw1 l g.2 (fun x hx=>hd x (.inr (.inr (.inr (.inr (.inr hx))))));exact(hh.trans (υ:=g.2) hg).trans hm
theorem jw1:∀ (l:List Pr) (σ:W),(∀ x∈Dr l,x∈ds)->Adds ds σ (Gv σ l).2
 |[],σ,_=>by simp only[Gv];exact .Sq rfl
 |e::l,σ,hd=>by
  simp only[Dr,Bu]at hd;simp only[Gv];exact(qd4 e σ fun x hx=>hd x (.inl hx)).trans (jw1 l _ fun x hx=>hd x (.inr hx))
theorem rc8:∀ (p:Gu) (σ:W),(∀ x∈Qn p,x∈ds)->Adds ds σ (Jc σ p).2
 |.mk kind name cond chan targets values time body,σ,hd=>by
  simp only[Qn]at hd;simp only[Jc];exact(mq8 σ cond chan targets values time).trans (jw1 body _ hd)
theorem kt1:∀ (l:List Gu) (σ:W),(∀ x∈Gf l,x∈ds)->Adds ds σ (Hw σ l).2
 |[],σ,_=>by simp only[Hw];exact .Sq rfl
 |e::l,σ,hd=>by
  simp only[Gf,Bu]at hd;simp only[Hw];exact(rc8 e σ fun x hx=>hd x (.inl hx)).trans (kt1 l _ fun x hx=>hd x (.inr hx))
end
mutual
theorem ko5:∀ (p:Pr),Ms p->∀ x∈Hl p,Lx.Dg x=true
 |.mk kind name chan targets exprs rep guards l procs (.mk sk st sn se spp sf sb),h,x,hx=>by
  simp only[Ms]at h;obtain⟨h1,h2,h3,h4⟩:=h;rw[Lx.Np,Ab]at h1;simp only[Hl,Bu]at hx;have hk:=Qk _ h1.1;simp only[Pr.kind,Pr.rep,Pr.spec]at hk;have hsp:(∀ x∈sn,Lx.Dg x=true)/\∀ f∈sf,Lx.Dg f.name=true:=by
   by_cases h18:kind=18
   ·have:=mm2 _ (Lx.Oy _ h1.1 h18);exact⟨this.1,this.2.1⟩
   ·have hz:=hk.2.1 h18;simp only[sp0,Sp.mk.injEq]at hz;obtain⟨rfl,rfl,rfl,rfl,rfl,rfl,rfl⟩:=hz;exact⟨fun x hx=>(by cases hx),fun x hx=>(by cases hx)⟩
  rcases hx with hx|hx|hx|hx|hx|hx
  ·split at hx
   ·cases hx
   ·rename_i hr;rw[Em]at hx;subst hx;have:=hk.2.2.2;unfold Lx.Iz at this;rw[Af hr]at this;simp only[Ab]at this;exact this.1.1
  ·exact hsp.1 x hx
  ·obtain⟨f,hf,rfl⟩:=Bs.1 hx;exact hsp.2 f hf
  ·exact jn0 sb h2 x hx
  ·exact kh8 guards h3 x hx
  ·exact jn0 l h4 x hx
theorem jn0:∀ (l:List Pr),Jj l->∀ x∈Dr l,Lx.Dg x=true
 |[],_,x,hx=>by simp[Dr]at hx
 |p::l,h,x,hx=>by
  simp only[Jj]at h;simp only[Dr,Bu]at hx;rcases hx with hx|hx
  ·exact ko5 p h.1 x hx
  ·exact jn0 l h.2 x hx
theorem kh8:∀ (l:List Gu),Lp l->∀ x∈Gf l,Lx.Dg x=true
 |[],_,x,hx=>by simp[Gf]at hx
 |.mk kind name cond chan targets values time body::l,h,x,hx=>by
  simp only[Lp]at h;simp only[Gf,Qn,Bu]at hx;rcases hx with hx|hx
  ·exact jn0 body h.1 x hx
  ·exact kh8 l h.2 x hx
end
theorem jy8 {s:ByteArray}:∀ {ev:List (ByteArray × Bool)},s∈Ih ev↔(s,false)∈ev
 |[]=>by simp[Ih]
 |(x,true)::l=>by simp[Ih,jy8 (ev:=l)]
 |(x,false)::l=>by simp[Ih,jy8 (ev:=l)]
theorem Px {ns:List ByteArray}{s:ByteArray}:ns.any (isB s)=true↔s∈ns:=by
 rw[Eo];exact⟨fun⟨x,hx,e⟩=>(Li.1 e) ▸ hx,fun h=>⟨s,h,Li.2 rfl⟩⟩
theorem qr2 {p:Pr}{s:ByteArray}:s∈Dl p↔(s,false)∈(Fv (start []) p).2.ev:=by
 unfold Dl;rw[mk5,jy8]
end Sc
end
end Go.Proofs.YtdopmfifmgkmoaaGreatDoor
