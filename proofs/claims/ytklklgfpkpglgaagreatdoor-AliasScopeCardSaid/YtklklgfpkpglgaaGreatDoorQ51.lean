/- Parts. -/
import Derived.Test.YtklklgfpkpglgaaGreatDoorQ50
set_option linter.all false
set_option maxRecDepth 100000
set_option maxHeartbeats 0
namespace Go.Proofs.YtklklgfpkpglgaaGreatDoor
open Go.RowKit Go.Proofs.Tryz Sc Lx
section
def vu1:List Nat:=[0,1,2,3,4,5,6,7,8,9,10,11,12,14,16,30,55,59,84,96]
def vu2:Plan:=lin [1,9,6,14,16,20]
def vu3:Plan:=lin [0,4,8,12,17,22,24,28,32,36,40,44,48,52,56,64,68,72,61,77,80,84,88]
variable {mm:Int}
section
variable {E:Set}{S:Sd}{dst:Option Tmp}{ty:TypeId}{pos:String}{af:Array Edge}{gd:Option (Nat × Bool)}
end
namespace Al
open Lx Sc
theorem vk9 {l:List ByteArray}{s:ByteArray}(h:s∈l):l.any (Sc.isB s)=true:=Ek.2 ⟨s,h,by simp[Sc.isB]⟩
attribute [local irreducible] TR TC
end Al
end
section
namespace Al
open Lx Sc
theorem vl0 (σ:W)(x:ByteArray):Cr σ [x]=σ:=by
 unfold Cr;simp
theorem vb0 (σ:W)(kind:Int)(x:ByteArray)(e:Ex)(p:Pr)(h4:kind≠4):Fz σ (Gx kind x e p)=
 let f:=Co σ
 let e':=j5 f.2 e
 let q:=Fz {e'.2 with env:=Cn σ.env [x] [⟨f.1,false,[]⟩]} p
 (Gx kind f.1 e'.1 q.1,{q.2 with env:=σ.env}):=by
 have h0:∀ σ:W,j5 σ ex0=(ex0,σ):=λσ=>by simp[ex0,j5,Cz,y4]
 have ht2:∀ σ:W,Cr σ []=σ:=λσ=>by
  unfold Cr;simp
 have hr:∀ σ:W,Iq σ ⟨ByteArray.empty,ex0,ex0⟩=((⟨ByteArray.empty,ex0,ex0⟩,[]),σ):=λσ=>by simp[Iq]
 simp only[Gx,Fz,Fx,Gl,Gh,Fw,z6,Gg,h0,hr,rp0,ht2,vl0,Da,List.map_cons,Bj,Gr,named,Dx,Cx,Cn,Sp.names,Sp.ax,Sp.type,Sp.e,Sp.kind,h4,if_true,if_false,reduceCtorEq,Int.reduceEq,false_and]
def nN:ByteArray:=⟨#[110]⟩
def nX:ByteArray:=⟨#[120]⟩
def n1:ByteArray:=⟨#[110,49]⟩
def n2:ByteArray:=⟨#[110,50]⟩
theorem vl1:nN≠nX:=by decide
def mx5 (s:ByteArray):ByteArray:=if s=nX then n2 else if s=nN then n1 else s
theorem vb1 (tk:List (ByteArray × Int))(k:Int)(u v:ByteArray)(h4:k≠4)(h1:¬(Sc.start tk).has n1)(h2:¬(Sc.start tk).has n2)(hu:u=nN\/u=nX)(hv:v=nN\/v=nX):
 Fz (Sc.start tk) (Gx 1 nN ex0 (Gx k nX (Cv nN) (Hl u (Cv v))))=(Gx 1 n1 ex0 (Gx k n2 (Cv n1) (Hl (mx5 u) (Cv (mx5 v)))),⟨λ_=>[],tk,2,[]⟩):=by
 have h0:∀ σ:W,j5 σ ex0=(ex0,σ):=λσ=>by simp[ex0,j5,Cz,y4]
 have he:∀ (σ:W) s,j5 σ (Cv s)=(Cv (aA σ s).1,(aA σ s).2):=λσ s=>by simp[Cv,j5,Cz,y4]
 have f1:Co (Sc.start tk)=(n1,{Sc.start tk with count:=1}):=by
  have:=mw5 (Sc.start tk) 0 rfl (by rw[vt8];exact h1);rw[vt8]at this;exact this
 have f2:Co ⟨Cn (Sc.start tk).env [nN] [⟨n1,false,[]⟩],tk,1,[]⟩=(n2,⟨Cn (Sc.start tk).env [nN] [⟨n1,false,[]⟩],tk,2,[]⟩):=by
  have:=mw5 ⟨Cn (Sc.start tk).env [nN] [⟨n1,false,[]⟩],tk,1,[]⟩ 1 rfl (by rw[vt9];exact h2);rw[vt9]at this;exact this
 have hn1:aA ⟨Cn (Sc.start tk).env [nN] [⟨n1,false,[]⟩],tk,2,[]⟩ nN=(n1,⟨Cn (Sc.start tk).env [nN] [⟨n1,false,[]⟩],tk,2,[]⟩):=by
  unfold aA;simp[Cn,Sc.start]
 have hn2:∀ s,s=nN\/s=nX->aA ⟨Cn (Cn (Sc.start tk).env [nN] [⟨n1,false,[]⟩]) [nX] [⟨n2,false,[]⟩],tk,2,[]⟩ s=(mx5 s,⟨Cn (Cn (Sc.start tk).env [nN] [⟨n1,false,[]⟩]) [nX] [⟨n2,false,[]⟩],tk,2,[]⟩):=λs hs=>by
  unfold aA mx5;rcases hs with rfl|rfl
  ·simp[Cn,Sc.start,vl1]
  ·simp[Cn,Sc.start]
 rw[vb0 _ _ _ _ _ (by decide)];dsimp only;rw[f1];dsimp only;rw[h0];dsimp only;rw[vb0 _ _ _ _ _ h4];dsimp only;rw[show({Sc.start tk with count:=1,env:=Cn (Sc.start tk).env [nN] [⟨n1,false,[]⟩]}:W)=⟨Cn (Sc.start tk).env [nN] [⟨n1,false,[]⟩],tk,1,[]⟩ from rfl,f2];dsimp only;rw[he,hn1];dsimp only;rw[show Hl u (Cv v)=jy3 u v from rfl,mi7,hn2 u hu];dsimp only;rw[hn2 v hv];rfl
def md1 (k:Int)(u v:ByteArray):Pr:=Gx 1 nN ex0 (Gx k nX (Cv nN) (Hl u (Cv v)))
def prQ (k:Int)(u v:ByteArray):Pr:=Gx 1 n1 ex0 (Gx k n2 (Cv n1) (Hl (mx5 u) (Cv (mx5 v))))
theorem Ur:Cw nN=true:=by decide
theorem Tc:Cw nX=true:=by decide
theorem vl2 (k:Int)(u v:ByteArray)(hk:k=2\/k=3)(hu:Cw u=true)(hv:Cw v=true):Gq (md1 k u v)=true:=by
 rcases hk with rfl|rfl
 all_goals simp[Ur,Tc,hu,hv,np,Gq,md1,Gx,Hl,Du,Dy,Ct,He,Gy,Hf,Ht,Gi,Hw,Ip,Lx.hasB,Cq,Hr,Qe,Oe,Ga,Gd,Dp,Fs,Kn,Jf,Cv,rp0,ex0,sp0,pt0,Pr.kind,Pr.name,Pr.av,Pr.aj,Pr.au,Pr.rep,Pr.ak,Pr.l,Pr.ay,Pr.spec,Sp.kind,Sp.type,Sp.names,Sp.e,Sp.aN,Sp.ax,Sp.body,Ex.kind,Ex.op,Ex.ty,Ex.n,Ex.s,Ex.l,eqB]
structure AtNX (p q:Pr):Prop where
 err:Gn p=0
 free:Cy p=[]
 uniq:Dg p=q
theorem vr8 (k:Int)(u v:ByteArray)(hk:k=2\/k=3)(hu:u=nN\/u=nX)(hv:v=nN\/v=nX):AtNX (md1 k u v) (prQ k u v):=by
 have hm:Gq (md1 k u v)=true:=vl2 k u v hk (by rcases hu with rfl|rfl<;>first|exact Ur|exact Tc) (by rcases hv with rfl|rfl<;>first|exact Ur|exact Tc);have hw:=vb1 [] k u v (by omega) (by simp[W.has,Sc.start]) (by simp[W.has,Sc.start]) hu hv;have hev:(Fz (Sc.start []) (md1 k u v)).2.ev=[]:=by
  unfold md1;rw[hw]
 have hfree:Cy (md1 k u v)=[]:=by
  unfold Cy;rw[hev];rfl
 have htk:Di (md1 k u v)=[]:=by
  unfold Di;rw[hfree];simp[Dm,md1,Gx,Hl,Jl,Kc,pt0,sp0,Dt]
 refine⟨?_,hfree,?_⟩
 ·unfold Gn;rw[Ad hm];unfold Ja;rw[hev];rfl
 ·unfold Dg;rw[htk];unfold md1;rw[hw];rfl
end Al
end
section
variable {mm:Int}
namespace Al
open Lx Sc
theorem rj6 (s:ByteArray):Db [] s=s:=mi9 ⟨λ_=>0,λx hx=>by cases hx⟩ rfl
theorem rq6 (w:Wd)(a:ByteArray)(e:Ex):jt1 w (Hl a e)=[Db w.is a]:=by
 simp[jt1,Hl,kb6,km4,jc6,sp0,Cv,Ex.s]
theorem qe6 (w:Wd)(a:ByteArray):Ib w [Cv a]=[Db w.is a]:=by
 simp[Ib,Ii,Kg,Cv,Cz]
theorem mq8 (w:Wd)(a b:ByteArray):∀ s,s∈jb5 w (Hl a (Cv b))↔s=a\/s=b:=λs=>by
 simp[jb5,Hl,jm1,jp8,qf7,jt4,jb4,Ii,Kg,Cv,Cz,ex0,rp0,sp0]
theorem rj7 (w:Wd)(a b:ByteArray):Ik w 2 (Cv a) (Hl a (Cv b))=false:=by
 unfold Ik;rw[Ad rfl,rq6,qe6];simp[jb9]
theorem vb2 (w:Wd)(a b:ByteArray):Ik w 3 (Cv a) (Hl a (Cv b))=false:=by
 unfold Ik;rw[Af (by decide),Ad rfl];have:(Cv a).s∈jb5 w (Hl a (Cv b)):=(mq8 w a b _).2 (.inl rfl);rw[Bm this];rfl
theorem vb3 (w:Wd)(a b:ByteArray)(h:a≠b):Ik w 3 (Cv a) (Hl b (Cv b))=true:=by
 unfold Ik;rw[Af (by decide),Ad rfl];have:(Cv a).s∉jb5 w (Hl b (Cv b)):=λhm=>by
  rcases(mq8 w b b _).1 hm with h2|h2<;>exact h h2
 rw[Bl this];simp[jb9,Ib,Ii,Cv,Ex.l]
theorem jz3 (w:Wd)(e:Ex)(p:Pr):Ik w 1 e p=true:=by
 unfold Ik;rw[Af (by decide),Af (by decide)]
theorem vl3 (w:Wd)(a b:ByteArray):brB w (Hl a (Cv b))=false:=by
 simp[brB,Hl,Ru,Te,Mc,Ih,sp0]
theorem vb4 (w:Wd)(k:Int)(x:ByteArray)(e:Ex)(p:Pr):brB w (Gx k x e p)=(!Ik w k e p || brB w p):=by
 simp[brB,Gx,Ru,Te,Mc,Ih]
theorem vb5 (w:Wd)(k:Int)(u v:ByteArray):brB w (prQ k u v)=!Ik w k (Cv n1) (Hl (mx5 u) (Cv (mx5 v))):=by
 unfold prQ;rw[vb4,vb4,vl3,jz3];simp
theorem rj8 (k:Int)(x:ByteArray)(e:Ex)(p:Pr):aB (Gx k x e p)=[p]:=rfl
theorem vb6 {w:Wd}{k k':Int}{x x':ByteArray}{e e':Ex}{p p':Pr}{n:ByteArray}(h:Nm w (Gx k x e p) (Gx k' x' e' p') n):Ik w k' e' p'=false/\n=x\/Ik w k' e' p'=true/\Nm w p p' n:=by
 cases h with
 |spec h1 hn=>exact .inl ⟨h1.2,(Option.some.inj hn).symm⟩
 |call h1 h2=>exact absurd h2.1 (by simp[Gx,Pr.kind])
 |tgt h1 h2 h3 he=>simp[Gx,Pr.aj,Ih]at h3
 |gu h1 h2 h3 hy hg e1 e2 e3 e4=>simp[Gx,Pr.ak]at e1
 |@part _ _ x2 y2 i _ h1 h2 h3 hy hg e1 e2 hb hn=>
  rw[rj8]at e1 e2;cases i with
  |succ i=>simp at e1
  |zero=>
   cases e1;cases e2;refine .inr ⟨?_,hn⟩;cases ha:Ik w k' e' p' with
   |true=>rfl
   |false=>exact absurd ⟨rfl,ha⟩ h1
theorem vb7 (w:Wd)(k:Int)(u v:ByteArray){n:ByteArray}(hb:brB w (prQ k u v)=true)(h:Nm w (md1 k u v) (prQ k u v) n):n=nX:=by
 rw[vb5,Bz]at hb;rcases vb6 h with h|h
 ·rw[jz3]at h;cases h.1
 ·rcases vb6 h.2 with h|h
  ·exact h.2
  ·rw[hb]at h;cases h.1
theorem vl4:mx5 nN=n1:=by unfold mx5;rw[Af vl1,Ad rfl]
theorem vb8:mx5 nX=n2:=by unfold mx5;rw[Ad rfl]
theorem vr9:n1≠n2:=by decide
theorem mb5 (k:Int)(u v:ByteArray)(hk:k=2\/k=3)(hu:u=nN\/u=nX)(hv:v=nN\/v=nX){b:Bool}(hb:∀ w,Ik w k (Cv n1) (Hl (mx5 u) (Cv (mx5 v)))=b):
 FnD prog (glS mm) 13 [.d (dPr (md1 k u v))] (λx=>x=.tup [.d (.str (if b then ByteArray.empty else nX)),.d (.int .i64 (if b then 0 else 150))]):=by
 have at0:=vr8 k u v hk hu hv;refine(jm5 (mm:=mm) (md1 k u v)).mono ?_;rintro x ⟨n,⟨h1,h2⟩,rfl⟩;have ha:jh1 (md1 k u v)=if b then 0 else 150:=by
  unfold jh1;rw[Ad at0.err,at0.uniq,vb5,hb];cases b<;>rfl
 rw[ha]at h1 h2 ⊢;cases b with
 |true=>rw[h2 (by decide)];rfl
 |false=>
  have hn:=h1 rfl at0.err;rw[at0.uniq]at hn;rw[vb7 _ k u v (by rw[vb5,hb];rfl) hn];rfl
theorem rj9:FnD prog (glS mm) 13 [.d (dPr (md1 2 nN nX))] (λx=>x=.tup [.d (.str nX),.d (.int .i64 150)]):=mb5 2 nN nX (.inl rfl) (.inl rfl) (.inr rfl) (b:=false) λw=>by rw[vl4,vb8];exact rj7 w n1 n2
theorem rk0:FnD prog (glS mm) 13 [.d (dPr (md1 3 nN nX))] (λx=>x=.tup [.d (.str nX),.d (.int .i64 150)]):=mb5 3 nN nX (.inr rfl) (.inl rfl) (.inr rfl) (b:=false) λw=>by rw[vl4,vb8];exact vb2 w n1 n2
theorem rk1:FnD prog (glS mm) 13 [.d (dPr (md1 3 nX nX))] (λx=>x=.tup [.d (.str ByteArray.empty),.d (.int .i64 0)]):=mb5 3 nX nX (.inr rfl) (.inr rfl) (.inr rfl) (b:=true) λw=>by rw[vb8];exact vb3 w n1 n2 vr9
end Al
end
section
variable {mm:Int}
namespace Al
open Lx Sc
theorem rk2:FnD prog (glS mm) 13 [.d (dPr pr0)] (λx=>x=.tup [.d (.str ByteArray.empty),.d (.int .i64 2)]):=by
 have he:Gn pr0=2:=by
  unfold Gn;rw[ri9];rfl
 have ha:jh1 pr0=2:=by
  unfold jh1;rw[he];rfl
 refine(jm5 (mm:=mm) pr0).mono ?_;rintro x ⟨n,⟨_,h2⟩,rfl⟩;rw[ha]at h2 ⊢;rw[h2 (by decide)]
def nA:ByteArray:=⟨#[97]⟩
def nB:ByteArray:=⟨#[98]⟩
structure AtNX' (p:Pr):Prop where
 err:Gn p=0
 uniq:Dg p=p
theorem vl5:Gq (Hl nB (Cv nA))=true:=by
 have h1:Cw nA=true:=by decide
 have h2:Cw nB=true:=by decide
 simp[h1,h2,np,Gq,Hl,Du,Dy,Ct,He,Gy,Hf,Ht,Gi,Hw,Ip,Lx.hasB,Cq,Ga,Gd,Dp,Fs,Kn,Jf,Cv,rp0,ex0,sp0,pt0,Pr.kind,Pr.name,Pr.av,Pr.aj,Pr.au,Pr.rep,Pr.ak,Pr.l,Pr.ay,Pr.spec,Sp.kind,Sp.type,Sp.names,Sp.e,Sp.aN,Sp.ax,Sp.body,Ex.kind,Ex.op,Ex.ty,Ex.n,Ex.s,Ex.l,eqB]
theorem mq9 (tk:List (ByteArray × Int)):Fz (Sc.start tk) (Hl nB (Cv nA))=(Hl nB (Cv nA),⟨λ_=>[],tk,0,[(nB,false),(nA,false)]⟩):=by
 have hn:∀ (ev:List (ByteArray × Bool)) (s:ByteArray),aA ⟨λ_=>[],tk,0,ev⟩ s=(s,⟨λ_=>[],tk,0,ev++[(s,false)]⟩):=λev s=>by
  unfold aA Sc.step;simp
 rw[show Hl nB (Cv nA)=jy3 nB nA from rfl,mi7];unfold Sc.start;rw[hn,hn];rfl
theorem mr0:Cy (Hl nB (Cv nA))=[nA,nB]:=by
 have h1:bL nA nB=true:=by decide
 have h2:bL nB nA=false:=by decide
 have h3:nB≠nA:=by decide
 have h4:nA≠nB:=by decide
 unfold Cy;rw[mq9];simp[Ho,once,mf3,h1,h2,h3,h4]
theorem rk3:AtNX' (Hl nB (Cv nA)):=by
 have hev:(Fz (Sc.start []) (Hl nB (Cv nA))).2.ev=[(nB,false),(nA,false)]:=by rw[mq9]
 refine⟨?_,?_⟩
 ·unfold Gn;rw[Ad vl5,mr0];unfold Ja;rw[hev];have h3:nB≠nA:=by decide
  simp[Hq,isB]
 ·unfold Dg;rw[mq9]
theorem rk4:jq3 (Hl nB (Cv nA))=[nA,nB]:=by
 unfold jq3;rw[Ad rk3.1,rk3.2,mr0];exact jl0 λs hs=>(mq8 _ _ _ _).2 (by
  rcases Bc.1 hs with h|h
  ·exact .inr h
  ·exact .inl (by simpa using h))
theorem qw4:jl1 (Hl nB (Cv nA))=[nB]:=by
 have h4:nA≠nB:=by decide
 unfold jl1;rw[Ad rk3.1,rk3.2,mr0,rq6];have hi:(z1 (w0 (Hl nB (Cv nA))) (Hl nB (Cv nA))).is=[]:=by
  simp[z1,Hl,Im,Js,Df,Gp,sp0,w0]
 rw[hi,rj6];simp[je6,h4]
end Al
end
section
variable {mm:Int}
namespace Al
open Lx Sc
def nC:ByteArray:=⟨#[99]⟩
def jm6:Pr:=.mk 4 ByteArray.empty (Cv nC) [Cv nX,Cv nX] [] rp0 [] [] [] sp0
theorem vl6:Gq jm6=true:=by
 have h1:Cw nC=true:=by decide
 simp[h1,Tc,np,Gq,jm6,Du,Dy,Ct,He,Gy,Hf,Ht,Gi,Hw,Ip,Lx.hasB,Cq,Ga,Gd,Dp,Fs,Kn,Jf,Cv,rp0,ex0,sp0,pt0,Pr.kind,Pr.name,Pr.av,Pr.aj,Pr.au,Pr.rep,Pr.ak,Pr.l,Pr.ay,Pr.spec,Sp.kind,Sp.type,Sp.names,Sp.e,Sp.aN,Sp.ax,Sp.body,Ex.kind,Ex.op,Ex.ty,Ex.n,Ex.s,Ex.l,eqB]
theorem mr1 (tk:List (ByteArray × Int)):Fz (Sc.start tk) jm6=(jm6,⟨λ_=>[],tk,0,[(nC,false),(nX,false),(nX,false)]⟩):=by
 have hn:∀ (ev:List (ByteArray × Bool)) (s:ByteArray),aA ⟨λ_=>[],tk,0,ev⟩ s=(s,⟨λ_=>[],tk,0,ev++[(s,false)]⟩):=λev s=>by
  unfold aA Sc.step;simp
 have h1:∀ (σ:W) s,j5 σ (Cv s)=(Cv (aA σ s).1,(aA σ s).2):=λσ s=>by simp[Cv,j5,Cz,y4]
 have hr:∀ σ:W,Iq σ ⟨ByteArray.empty,ex0,ex0⟩=((⟨ByteArray.empty,ex0,ex0⟩,[]),σ):=λσ=>by simp[Iq]
 simp only[jm6,sp0,Fz,Fx,Gl,Gh,z6,Gg,Dh,h1,hr,Int.reduceEq,if_false,if_true,rp0,Sc.start,hn];rfl
theorem vb9:Cy jm6=[nC,nX]:=by
 have h1:bL nC nX=true:=by decide
 have h2:bL nX nC=false:=by decide
 have h3:nX≠nC:=by decide
 have h4:nC≠nX:=by decide
 unfold Cy;rw[mr1];simp[Ho,once,mf3,h1,h2,h3,h4,Ul]
theorem rk5:AtNX' jm6:=by
 have hev:(Fz (Sc.start []) jm6).2.ev=[(nC,false),(nX,false),(nX,false)]:=by rw[mr1]
 refine⟨?_,?_⟩
 ·unfold Gn;rw[Ad vl6,vb9];unfold Ja;rw[hev];simp[Hq,isB]
 ·unfold Dg;rw[mr1]
theorem qw5 (w:Wd):Ih w [] jm6.aj=some 1:=by
 have h:jm6.aj=[Cv nX,Cv nX]:=rfl;rw[h];simp only[Ih];rw[Af (by simp),Ad (ji1.2 (.inr rfl))];rfl
theorem vl7 (w:Wd):brB w jm6=true:=(mx2 jm6).2 (.inr (.inr (.inl (by unfold Mc;rw[qw5];rfl))))
theorem vc0 {w:Wd}{n:ByteArray}(h:Nm w jm6 jm6 n):n=nX:=by
 have ht:Mc w jm6.aj=true:=by unfold Mc;rw[qw5];rfl
 cases h with
 |spec h1 hn=>exact absurd h1.1 (by simp[jm6,Pr.kind])
 |call h1 h2=>exact absurd h2.1 (by simp[jm6,Pr.kind])
 |tgt h1 h2 h3 he=>
  rw[qw5]at h3;cases h3;cases he;rfl
 |gu h1 h2 h3 hy hg e1 e2 e3 e4=>rw[ht]at h3;cases h3
 |part h1 h2 h3 hy hg e1 e2 hb hn=>rw[ht]at h3;cases h3
theorem rk6:FnD prog (glS mm) 13 [.d (dPr jm6)] (λx=>x=.tup [.d (.str nX),.d (.int .i64 150)]):=by
 have ha:jh1 jm6=150:=by
  unfold jh1;rw[Ad rk5.1,rk5.2,Ad (vl7 _)]
 refine(jm5 (mm:=mm) jm6).mono ?_;rintro x ⟨n,⟨h1,h2⟩,rfl⟩;rw[ha]at h1 ⊢;have hn:=h1 rfl rk5.1;rw[rk5.2]at hn;rw[vc0 hn]
end Al
end
section
def qw6:Plan:=lin [1,6,10,14,18,22,26,28,32,36,40,44]
variable {mm:Int}
namespace Al
open Lx Sc
attribute [local irreducible] TR TC
theorem qw7:FnD prog (glS mm) 7 [] (λv=>v=.d (.bool true)):=by
 have cn:=λs=>mk2 (glS mm) s;have ca:=λx e=>mq7 (glS mm) x e;have ci:=λk x e p=>qw3 (glS mm) k x e p;have p1:=rj9 (mm:=mm);have p2:=rk0 (mm:=mm);have p3:=rk1 (mm:=mm);have p4:=rk6 (mm:=mm);have p5:=rk2 (mm:=mm);have r1:=ko2 (mm:=mm) (Hl nB (Cv nA));have r2:=kc0 (mm:=mm) (Hl nB (Cv nA));rw[rk4]at r1;rw[qw4]at r2;unfold md1 at p1 p2 p3;have s1:=jr4 (glS mm) [nA,nB] [nA,nB];have s2:=jr4 (glS mm) [nB] [nB];rw[show eqB [nA,nB] [nA,nB]=true from j9.2 rfl]at s1;rw[show eqB [nB] [nB]=true from j9.2 rfl]at s2;simp only[r8]at cn ca ci;rw[v7]at p4 p5
 (refine j4 func7 ntmps7 results7 λw M=>?_)
 (repeat' first|apply Ca 14;refine z_p Cu ?_|apply Ca 1;(refine j2 1 ?_)|apply Ca 49;(refine Fu 49 ?_)|apply Ca 101;(refine Fu 101 ?_)|apply Ca 106;(refine Fu 106 ?_)|refine yyp ?_;try refine Ce ?_ ?_<;>intro hb|refine yy ?_|refine yy2 ?_ ?_<;>intro hcmp|apply Cf 22;refine Ci (hc:=(by exact cn nN)) ?_|apply Cf 22;refine Ci (hc:=(by exact cn nX)) ?_|apply Cf 19;refine Ci (hc:=(by exact ca nN (Cv nX))) ?_|apply Cf 17;refine Ci (hc:=(by exact ci 2 nX (Cv nN) (Hl nN (Cv nX)))) ?_|apply Cf 17;refine Ci (hc:=(by exact ci 1 nN ex0 (Gx 2 nX (Cv nN) (Hl nN (Cv nX))))) ?_|apply Cf 13;refine Ci (hc:=(by exact p1)) ?_|apply Cf 17;refine Ci (hc:=(by exact ci 3 nX (Cv nN) (Hl nN (Cv nX)))) ?_|apply Cf 17;refine Ci (hc:=(by exact ci 1 nN ex0 (Gx 3 nX (Cv nN) (Hl nN (Cv nX))))) ?_|apply Cf 13;refine Ci (hc:=(by exact p2)) ?_|apply Cf 19;refine Ci (hc:=(by exact ca nX (Cv nX))) ?_|apply Cf 17;refine Ci (hc:=(by exact ci 3 nX (Cv nN) (Hl nX (Cv nX)))) ?_|apply Cf 17;refine Ci (hc:=(by exact ci 1 nN ex0 (Gx 3 nX (Cv nN) (Hl nX (Cv nX))))) ?_|apply Cf 13;refine Ci (hc:=(by exact p3)) ?_|apply Cf 22;refine Ci (hc:=(by exact cn nC)) ?_|apply Cf 13;refine Ci (hc:=(by exact p4)) ?_|apply Cf 13;refine Ci (hc:=(by exact p5)) ?_|apply Cf 22;refine Ci (hc:=(by exact cn nA)) ?_|apply Cf 19;refine Ci (hc:=(by exact ca nB (Cv nA))) ?_|apply Cf 9;refine Ci (hc:=(by exact r2)) ?_|apply Cf 8;refine Ci (hc:=(by exact r1)) ?_|apply Cf 14;refine Ci (hc:=(by exact s2)) ?_;try refine Ce ?_ ?_<;>intro hb|apply Cf 14;refine Ci (hc:=(by exact s1)) ?_;try refine Ce ?_ ?_<;>intro hb|apply ah;refine Cc [0,1,2,3,4,5,6,7,8,9,11,12,13] ?_|refine Cb λK hK=>?_|apply Cg 2;refine j0 [] qw6 ?_|apply Cg 3;refine j0 [] qw6 ?_|apply Cg 4;refine j0 [] qw6 ?_|apply_assumption -exfalso -symm)
 all_goals first
  |((refine j1 (j7 ?_))
    rfl)
  |(exfalso;exact hcmp rfl)
  |(exfalso;rename_i h;exact h rfl)
end Al
end
end Go.Proofs.YtklklgfpkpglgaaGreatDoor
