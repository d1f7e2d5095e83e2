/- Parts. -/
import Derived.Test.YtklklgfpkpglgaaGreatDoorW50
set_option linter.all false
set_option maxRecDepth 100000
set_option maxHeartbeats 0
namespace Go.Proofs.YtklklgfpkpglgaaGreatDoor
open Go.RowKit Go.Proofs.Tryz Sc Lx
section
def vh4:List Nat:=[0,1,2,3,4,5,6,7,8,9,10,11,12,14,16,30,55,59,84,96]
def vh5:Plan:=lin [1,9,6,14,16,20]
def vh6:Plan:=lin [0,4,8,12,17,22,24,28,32,36,40,44,48,52,56,64,68,72,61,77,80,84,88]
variable {mm:Int}
section
variable {E:Set}{S:Sd}{dst:Option Tmp}{ty:TypeId}{pos:String}{af:Array Edge}{gd:Option (Nat × Bool)}
end
namespace Al
open Lx Sc
attribute [local irreducible] TR TC
end Al
end
section
namespace Al
open Lx Sc
theorem vb0 (σ:W)(x:ByteArray):Cv σ [x]=σ:=by
 unfold Cv;simp
theorem rr4 (σ:W)(kind:Int)(x:ByteArray)(e:Ex)(p:Pr)(h4:kind≠4):Dp σ (Je kind x e p)=
 let f:=Cx σ
 let e':=j4 f.2 e
 let q:=Dp {e'.2 with env:=Ck σ.env [x] [⟨f.1,false,[]⟩]} p
 (Je kind f.1 e'.1 q.1,{q.2 with env:=σ.env}):=by
 have h0:∀ σ:W,j4 σ ex0=(ex0,σ):=λσ=>by simp[ex0,j4,Dm,z1]
 have ht2:∀ σ:W,Cv σ []=σ:=λσ=>by
  unfold Cv;simp
 have hr:∀ σ:W,Jk σ ⟨ByteArray.empty,ex0,ex0⟩=((⟨ByteArray.empty,ex0,ex0⟩,[]),σ):=λσ=>by simp[Jk]
 simp only[Je,Dp,Gt,Hg,Hl,Hf,y9,Fw,h0,hr,rp0,ht2,vb0,Cr,Ap,Ba,Ie,named,Gq,Dg,Ck,Sp.names,Sp.ax,Sp.type,Sp.e,Sp.kind,h4,if_true,if_false,reduceCtorEq,Int.reduceEq,false_and]
def nN:ByteArray:=⟨#[110]⟩
def nX:ByteArray:=⟨#[120]⟩
def n1:ByteArray:=⟨#[110,49]⟩
def n2:ByteArray:=⟨#[110,50]⟩
theorem vb1:nN≠nX:=by decide
def mu1 (s:ByteArray):ByteArray:=if s=nX then n2 else if s=nN then n1 else s
theorem rr5 (tk:List (ByteArray × Int))(k:Int)(u v:ByteArray)(h4:k≠4)(h1:¬(Sc.start tk).has n1)(h2:¬(Sc.start tk).has n2)(hu:u=nN\/u=nX)(hv:v=nN\/v=nX):
 Dp (Sc.start tk) (Je 1 nN ex0 (Je k nX (Cu nN) (Dy u (Cu v))))=(Je 1 n1 ex0 (Je k n2 (Cu n1) (Dy (mu1 u) (Cu (mu1 v)))),⟨λ_=>[],tk,2,[]⟩):=by
 have h0:∀ σ:W,j4 σ ex0=(ex0,σ):=λσ=>by simp[ex0,j4,Dm,z1]
 have he:∀ (σ:W) s,j4 σ (Cu s)=(Cu (aA σ s).1,(aA σ s).2):=λσ s=>by simp[Cu,j4,Dm,z1]
 have f1:Cx (Sc.start tk)=(n1,{Sc.start tk with count:=1}):=by
  have:=mr8 (Sc.start tk) 0 rfl (by rw[vh0];exact h1);rw[vh0]at this;exact this
 have f2:Cx ⟨Ck (Sc.start tk).env [nN] [⟨n1,false,[]⟩],tk,1,[]⟩=(n2,⟨Ck (Sc.start tk).env [nN] [⟨n1,false,[]⟩],tk,2,[]⟩):=by
  have:=mr8 ⟨Ck (Sc.start tk).env [nN] [⟨n1,false,[]⟩],tk,1,[]⟩ 1 rfl (by rw[vh1];exact h2);rw[vh1]at this;exact this
 have hn1:aA ⟨Ck (Sc.start tk).env [nN] [⟨n1,false,[]⟩],tk,2,[]⟩ nN=(n1,⟨Ck (Sc.start tk).env [nN] [⟨n1,false,[]⟩],tk,2,[]⟩):=by
  unfold aA;simp[Ck,Sc.start]
 have hn2:∀ s,s=nN\/s=nX->aA ⟨Ck (Ck (Sc.start tk).env [nN] [⟨n1,false,[]⟩]) [nX] [⟨n2,false,[]⟩],tk,2,[]⟩ s=(mu1 s,⟨Ck (Ck (Sc.start tk).env [nN] [⟨n1,false,[]⟩]) [nX] [⟨n2,false,[]⟩],tk,2,[]⟩):=λs hs=>by
  unfold aA mu1;rcases hs with rfl|rfl
  ·simp[Ck,Sc.start,vb1]
  ·simp[Ck,Sc.start]
 rw[rr4 _ _ _ _ _ (by decide)];dsimp only;rw[f1];dsimp only;rw[h0];dsimp only;rw[rr4 _ _ _ _ _ h4];dsimp only;rw[show({Sc.start tk with count:=1,env:=Ck (Sc.start tk).env [nN] [⟨n1,false,[]⟩]}:W)=⟨Ck (Sc.start tk).env [nN] [⟨n1,false,[]⟩],tk,1,[]⟩ from rfl,f2];dsimp only;rw[he,hn1];dsimp only;rw[show Dy u (Cu v)=jx8 u v from rfl,mf2,hn2 u hu];dsimp only;rw[hn2 v hv];rfl
def ma9 (k:Int)(u v:ByteArray):Pr:=Je 1 nN ex0 (Je k nX (Cu nN) (Dy u (Cu v)))
def prQ (k:Int)(u v:ByteArray):Pr:=Je 1 n1 ex0 (Je k n2 (Cu n1) (Dy (mu1 u) (Cu (mu1 v))))
theorem Us:Cy nN=true:=by decide
theorem Tg:Cy nX=true:=by decide
theorem vb2 (k:Int)(u v:ByteArray)(hk:k=2\/k=3)(hu:Cy u=true)(hv:Cy v=true):Gr (ma9 k u v)=true:=by
 rcases hk with rfl|rfl
 all_goals simp[Us,Tg,hu,hv,np,Gr,ma9,Je,Dy,Dw,Dz,Cs,Gw,Gv,Gx,Ig,Gj,Ii,Iy,Lx.hasB,Co,Ic,Qp,Ol,Gd,Gc,Dn,Fx,Kt,Jf,Cu,rp0,ex0,sp0,pt0,Pr.kind,Pr.name,Pr.av,Pr.aj,Pr.au,Pr.rep,Pr.ak,Pr.l,Pr.ay,Pr.spec,Sp.kind,Sp.type,Sp.names,Sp.e,Sp.aN,Sp.ax,Sp.body,Ex.kind,Ex.op,Ex.ty,Ex.n,Ex.s,Ex.l,eqB]
structure AtNX (p q:Pr):Prop where
 err:Im p=0
 free:Db p=[]
 uniq:Fz p=q
theorem vf9 (k:Int)(u v:ByteArray)(hk:k=2\/k=3)(hu:u=nN\/u=nX)(hv:v=nN\/v=nX):AtNX (ma9 k u v) (prQ k u v):=by
 have hm:Gr (ma9 k u v)=true:=vb2 k u v hk (by rcases hu with rfl|rfl<;>first|exact Us|exact Tg) (by rcases hv with rfl|rfl<;>first|exact Us|exact Tg);have hw:=rr5 [] k u v (by omega) (by simp[W.has,Sc.start]) (by simp[W.has,Sc.start]) hu hv;have hev:(Dp (Sc.start []) (ma9 k u v)).2.ev=[]:=by
  unfold ma9;rw[hw]
 have hfree:Db (ma9 k u v)=[]:=by
  unfold Db;rw[hev];rfl
 have htk:Gi (ma9 k u v)=[]:=by
  unfold Gi;rw[hfree];simp[Dr,ma9,Je,Dy,Kr,Lc,pt0,sp0,Dv]
 refine⟨?_,hfree,?_⟩
 ·unfold Im;rw[Ae hm];unfold Kb;rw[hev];rfl
 ·unfold Fz;rw[htk];unfold ma9;rw[hw];rfl
end Al
end
section
variable {mm:Int}
namespace Al
open Lx Sc
theorem rb8 (s:ByteArray):Dq [] s=s:=mf9 ⟨λ_=>0,λx hx=>by cases hx⟩ rfl
theorem qq7 (w:Wd)(a:ByteArray)(e:Ex):jv4 w (Dy a e)=[Dq w.is a]:=by
 simp[jv4,Dy,kx2,mm7,jj0,sp0,Cu,Ex.s]
theorem qa3 (w:Wd)(a:ByteArray):Ir w [Cu a]=[Dq w.is a]:=by
 simp[Ir,Jv,Il,Cu,Dm]
theorem mo4 (w:Wd)(a b:ByteArray):∀ s,s∈jc4 w (Dy a (Cu b))↔s=a\/s=b:=λs=>by
 simp[jc4,Dy,ju1,ke1,qs9,ke0,je8,Jv,Il,Cu,Dm,ex0,rp0,sp0]
theorem rb9 (w:Wd)(a b:ByteArray):Ja w 2 (Cu a) (Dy a (Cu b))=false:=by
 unfold Ja;rw[Ae rfl,qq7,qa3];simp[jd3]
theorem rr6 (w:Wd)(a b:ByteArray):Ja w 3 (Cu a) (Dy a (Cu b))=false:=by
 unfold Ja;rw[Af (by decide),Ae rfl];have:(Cu a).s∈jc4 w (Dy a (Cu b)):=(mo4 w a b _).2 (.inl rfl);rw[Bm this];rfl
theorem rr7 (w:Wd)(a b:ByteArray)(h:a≠b):Ja w 3 (Cu a) (Dy b (Cu b))=true:=by
 unfold Ja;rw[Af (by decide),Ae rfl];have:(Cu a).s∉jc4 w (Dy b (Cu b)):=λhm=>by
  rcases(mo4 w b b _).1 hm with h2|h2<;>exact h h2
 rw[Bn this];simp[jd3,Ir,Jv,Cu,Ex.l]
theorem mh1 (w:Wd)(e:Ex)(p:Pr):Ja w 1 e p=true:=by
 unfold Ja;rw[Af (by decide),Af (by decide)]
theorem vb3 (w:Wd)(a b:ByteArray):brB w (Dy a (Cu b))=false:=by
 simp[brB,Dy,Um,Vw,Nl,Jm,sp0]
theorem rr8 (w:Wd)(k:Int)(x:ByteArray)(e:Ex)(p:Pr):brB w (Je k x e p)=(!Ja w k e p || brB w p):=by
 simp[brB,Je,Um,Vw,Nl,Jm]
theorem rr9 (w:Wd)(k:Int)(u v:ByteArray):brB w (prQ k u v)=!Ja w k (Cu n1) (Dy (mu1 u) (Cu (mu1 v))):=by
 unfold prQ;rw[rr8,rr8,vb3,mh1];simp
theorem rc0 (k:Int)(x:ByteArray)(e:Ex)(p:Pr):aB (Je k x e p)=[p]:=rfl
theorem rs0 {w:Wd}{k k':Int}{x x':ByteArray}{e e':Ex}{p p':Pr}{n:ByteArray}(h:Nm w (Je k x e p) (Je k' x' e' p') n):Ja w k' e' p'=false/\n=x\/Ja w k' e' p'=true/\Nm w p p' n:=by
 cases h with
 |spec h1 hn=>exact .inl ⟨h1.2,(Option.some.inj hn).symm⟩
 |call h1 h2=>exact absurd h2.1 (by simp[Je,Pr.kind])
 |tgt h1 h2 h3 he=>simp[Je,Pr.aj,Jm]at h3
 |gu h1 h2 h3 hy hg e1 e2 e3 e4=>simp[Je,Pr.ak]at e1
 |@part _ _ x2 y2 i _ h1 h2 h3 hy hg e1 e2 hb hn=>
  rw[rc0]at e1 e2;cases i with
  |succ i=>simp at e1
  |zero=>
   cases e1;cases e2;refine .inr ⟨?_,hn⟩;cases ha:Ja w k' e' p' with
   |true=>rfl
   |false=>exact absurd ⟨rfl,ha⟩ h1
theorem rs1 (w:Wd)(k:Int)(u v:ByteArray){n:ByteArray}(hb:brB w (prQ k u v)=true)(h:Nm w (ma9 k u v) (prQ k u v) n):n=nX:=by
 rw[rr9,Eb]at hb;rcases rs0 h with h|h
 ·rw[mh1]at h;cases h.1
 ·rcases rs0 h.2 with h|h
  ·exact h.2
  ·rw[hb]at h;cases h.1
theorem vb4:mu1 nN=n1:=by unfold mu1;rw[Af vb1,Ae rfl]
theorem rs2:mu1 nX=n2:=by unfold mu1;rw[Ae rfl]
theorem vg0:n1≠n2:=by decide
theorem kz5 (k:Int)(u v:ByteArray)(hk:k=2\/k=3)(hu:u=nN\/u=nX)(hv:v=nN\/v=nX){b:Bool}(hb:∀ w,Ja w k (Cu n1) (Dy (mu1 u) (Cu (mu1 v)))=b):
 FnD prog (glS mm) 13 [.d (dPr (ma9 k u v))] (λx=>x=.tup [.d (.str (if b then ByteArray.empty else nX)),.d (.int .i64 (if b then 0 else 150))]):=by
 have at0:=vf9 k u v hk hu hv;refine(jn5 (mm:=mm) (ma9 k u v)).mono ?_;rintro x ⟨n,⟨h1,h2⟩,rfl⟩;have ha:jh7 (ma9 k u v)=if b then 0 else 150:=by
  unfold jh7;rw[Ae at0.err,at0.uniq,rr9,hb];cases b<;>rfl
 rw[ha]at h1 h2 ⊢;cases b with
 |true=>rw[h2 (by decide)];rfl
 |false=>
  have hn:=h1 rfl at0.err;rw[at0.uniq]at hn;rw[rs1 _ k u v (by rw[rr9,hb];rfl) hn];rfl
theorem rc1:FnD prog (glS mm) 13 [.d (dPr (ma9 2 nN nX))] (λx=>x=.tup [.d (.str nX),.d (.int .i64 150)]):=kz5 2 nN nX (.inl rfl) (.inl rfl) (.inr rfl) (b:=false) λw=>by rw[vb4,rs2];exact rb9 w n1 n2
theorem rc2:FnD prog (glS mm) 13 [.d (dPr (ma9 3 nN nX))] (λx=>x=.tup [.d (.str nX),.d (.int .i64 150)]):=kz5 3 nN nX (.inr rfl) (.inl rfl) (.inr rfl) (b:=false) λw=>by rw[vb4,rs2];exact rr6 w n1 n2
theorem rc3:FnD prog (glS mm) 13 [.d (dPr (ma9 3 nX nX))] (λx=>x=.tup [.d (.str ByteArray.empty),.d (.int .i64 0)]):=kz5 3 nX nX (.inr rfl) (.inr rfl) (.inr rfl) (b:=true) λw=>by rw[rs2];exact rr7 w n1 n2 vg0
end Al
end
section
variable {mm:Int}
namespace Al
open Lx Sc
theorem rc4:FnD prog (glS mm) 13 [.d (dPr pr0)] (λx=>x=.tup [.d (.str ByteArray.empty),.d (.int .i64 2)]):=by
 have he:Im pr0=2:=by
  unfold Im;rw[qz1];rfl
 have ha:jh7 pr0=2:=by
  unfold jh7;rw[he];rfl
 refine(jn5 (mm:=mm) pr0).mono ?_;rintro x ⟨n,⟨_,h2⟩,rfl⟩;rw[ha]at h2 ⊢;rw[h2 (by decide)]
def nA:ByteArray:=⟨#[97]⟩
def nB:ByteArray:=⟨#[98]⟩
structure AtNX' (p:Pr):Prop where
 err:Im p=0
 uniq:Fz p=p
theorem vb5:Gr (Dy nB (Cu nA))=true:=by
 have h1:Cy nA=true:=by decide
 have h2:Cy nB=true:=by decide
 simp[h1,h2,np,Gr,Dy,Dw,Dz,Cs,Gw,Gv,Gx,Ig,Gj,Ii,Iy,Lx.hasB,Co,Gd,Gc,Dn,Fx,Kt,Jf,Cu,rp0,ex0,sp0,pt0,Pr.kind,Pr.name,Pr.av,Pr.aj,Pr.au,Pr.rep,Pr.ak,Pr.l,Pr.ay,Pr.spec,Sp.kind,Sp.type,Sp.names,Sp.e,Sp.aN,Sp.ax,Sp.body,Ex.kind,Ex.op,Ex.ty,Ex.n,Ex.s,Ex.l,eqB]
theorem mo5 (tk:List (ByteArray × Int)):Dp (Sc.start tk) (Dy nB (Cu nA))=(Dy nB (Cu nA),⟨λ_=>[],tk,0,[(nB,false),(nA,false)]⟩):=by
 have hn:∀ (ev:List (ByteArray × Bool)) (s:ByteArray),aA ⟨λ_=>[],tk,0,ev⟩ s=(s,⟨λ_=>[],tk,0,ev++[(s,false)]⟩):=λev s=>by
  unfold aA Sc.step;simp
 rw[show Dy nB (Cu nA)=jx8 nB nA from rfl,mf2];unfold Sc.start;rw[hn,hn];rfl
theorem mo6:Db (Dy nB (Cu nA))=[nA,nB]:=by
 have h1:bL nA nB=true:=by decide
 have h2:bL nB nA=false:=by decide
 have h3:nB≠nA:=by decide
 have h4:nA≠nB:=by decide
 unfold Db;rw[mo5];simp[Hr,once,md1,h1,h2,h3,h4]
theorem rc5:AtNX' (Dy nB (Cu nA)):=by
 have hev:(Dp (Sc.start []) (Dy nB (Cu nA))).2.ev=[(nB,false),(nA,false)]:=by rw[mo5]
 refine⟨?_,?_⟩
 ·unfold Im;rw[Ae vb5,mo6];unfold Kb;rw[hev];have h3:nB≠nA:=by decide
  simp[Hz,isB]
 ·unfold Fz;rw[mo5]
theorem rc6:kz4 (Dy nB (Cu nA))=[nA,nB]:=by
 unfold kz4;rw[Ae rc5.1,rc5.2,mo6];exact jl9 λs hs=>(mo4 _ _ _ _).2 (by
  rcases Bg.1 hs with h|h
  ·exact .inr h
  ·exact .inl (by simpa using h))
theorem qq8:kg8 (Dy nB (Cu nA))=[nB]:=by
 have h4:nA≠nB:=by decide
 unfold kg8;rw[Ae rc5.1,rc5.2,mo6,qq7];have hi:(n5 (w0 (Dy nB (Cu nA))) (Dy nB (Cu nA))).is=[]:=by
  simp[n5,Dy,Mg,Lf,Gf,Ho,sp0,w0]
 rw[hi,rb8];simp[jk2,h4]
end Al
end
section
variable {mm:Int}
namespace Al
open Lx Sc
def nC:ByteArray:=⟨#[99]⟩
def jn6:Pr:=.mk 4 ByteArray.empty (Cu nC) [Cu nX,Cu nX] [] rp0 [] [] [] sp0
theorem vb6:Gr jn6=true:=by
 have h1:Cy nC=true:=by decide
 simp[h1,Tg,np,Gr,jn6,Dw,Dz,Cs,Gw,Gv,Gx,Ig,Gj,Ii,Iy,Lx.hasB,Co,Gd,Gc,Dn,Fx,Kt,Jf,Cu,rp0,ex0,sp0,pt0,Pr.kind,Pr.name,Pr.av,Pr.aj,Pr.au,Pr.rep,Pr.ak,Pr.l,Pr.ay,Pr.spec,Sp.kind,Sp.type,Sp.names,Sp.e,Sp.aN,Sp.ax,Sp.body,Ex.kind,Ex.op,Ex.ty,Ex.n,Ex.s,Ex.l,eqB]
theorem mo7 (tk:List (ByteArray × Int)):Dp (Sc.start tk) jn6=(jn6,⟨λ_=>[],tk,0,[(nC,false),(nX,false),(nX,false)]⟩):=by
 have hn:∀ (ev:List (ByteArray × Bool)) (s:ByteArray),aA ⟨λ_=>[],tk,0,ev⟩ s=(s,⟨λ_=>[],tk,0,ev++[(s,false)]⟩):=λev s=>by
  unfold aA Sc.step;simp
 have h1:∀ (σ:W) s,j4 σ (Cu s)=(Cu (aA σ s).1,(aA σ s).2):=λσ s=>by simp[Cu,j4,Dm,z1]
 have hr:∀ σ:W,Jk σ ⟨ByteArray.empty,ex0,ex0⟩=((⟨ByteArray.empty,ex0,ex0⟩,[]),σ):=λσ=>by simp[Jk]
 simp only[jn6,sp0,Dp,Gt,Hg,Hl,y9,Fw,Dc,h1,hr,Int.reduceEq,if_false,if_true,rp0,Sc.start,hn];rfl
theorem rs3:Db jn6=[nC,nX]:=by
 have h1:bL nC nX=true:=by decide
 have h2:bL nX nC=false:=by decide
 have h3:nX≠nC:=by decide
 have h4:nC≠nX:=by decide
 unfold Db;rw[mo7];simp[Hr,once,md1,h1,h2,h3,h4,Ul]
theorem rc7:AtNX' jn6:=by
 have hev:(Dp (Sc.start []) jn6).2.ev=[(nC,false),(nX,false),(nX,false)]:=by rw[mo7]
 refine⟨?_,?_⟩
 ·unfold Im;rw[Ae vb6,rs3];unfold Kb;rw[hev];simp[Hz,isB]
 ·unfold Fz;rw[mo7]
theorem qq9 (w:Wd):Jm w [] jn6.aj=some 1:=by
 have h:jn6.aj=[Cu nX,Cu nX]:=rfl;rw[h];simp only[Jm];rw[Af (by simp),Ae (jg8.2 (.inr rfl))];rfl
theorem vb7 (w:Wd):brB w jn6=true:=(mt8 jn6).2 (.inr (.inr (.inl (by unfold Nl;rw[qq9];rfl))))
theorem rs4 {w:Wd}{n:ByteArray}(h:Nm w jn6 jn6 n):n=nX:=by
 have ht:Nl w jn6.aj=true:=by unfold Nl;rw[qq9];rfl
 cases h with
 |spec h1 hn=>exact absurd h1.1 (by simp[jn6,Pr.kind])
 |call h1 h2=>exact absurd h2.1 (by simp[jn6,Pr.kind])
 |tgt h1 h2 h3 he=>
  rw[qq9]at h3;cases h3;cases he;rfl
 |gu h1 h2 h3 hy hg e1 e2 e3 e4=>rw[ht]at h3;cases h3
 |part h1 h2 h3 hy hg e1 e2 hb hn=>rw[ht]at h3;cases h3
theorem rc8:FnD prog (glS mm) 13 [.d (dPr jn6)] (λx=>x=.tup [.d (.str nX),.d (.int .i64 150)]):=by
 have ha:jh7 jn6=150:=by
  unfold jh7;rw[Ae rc7.1,rc7.2,Ae (vb7 _)]
 refine(jn5 (mm:=mm) jn6).mono ?_;rintro x ⟨n,⟨h1,h2⟩,rfl⟩;rw[ha]at h1 ⊢;have hn:=h1 rfl rc7.1;rw[rc7.2]at hn;rw[rs4 hn]
end Al
end
section
def qr0:Plan:=lin [1,6,10,14,18,22,26,28,32,36,40,44]
variable {mm:Int}
namespace Al
open Lx Sc
attribute [local irreducible] TR TC
theorem qr1:FnD prog (glS mm) 7 [] (λv=>v=.d (.bool true)):=by
 have cn:=λs=>mh0 (glS mm) s;have ca:=λx e=>kn3 (glS mm) x e;have ci:=λk x e p=>mo3 (glS mm) k x e p;have p1:=rc1 (mm:=mm);have p2:=rc2 (mm:=mm);have p3:=rc3 (mm:=mm);have p4:=rc8 (mm:=mm);have p5:=rc4 (mm:=mm);have r1:=qq6 (mm:=mm) (Dy nB (Cu nA));have r2:=qa1 (mm:=mm) (Dy nB (Cu nA));rw[rc6]at r1;rw[qq8]at r2;unfold ma9 at p1 p2 p3;have s1:=kp5 (glS mm) [nA,nB] [nA,nB];have s2:=kp5 (glS mm) [nB] [nB];rw[show eqB [nA,nB] [nA,nB]=true from r8.2 rfl]at s1;rw[show eqB [nB] [nB]=true from r8.2 rfl]at s2;simp only[k9]at cn ca ci;rw[v6]at p4 p5
 (refine j5 func7 ntmps7 results7 λw M=>?_)
 (repeat' first|apply Ca 14;refine z_p Cq ?_|apply Ca 1;(refine j3 1 ?_)|apply Ca 49;(refine Df 49 ?_)|apply Ca 101;(refine Df 101 ?_)|apply Ca 106;(refine Df 106 ?_)|refine yyp ?_;try refine Ce ?_ ?_<;>intro hb|refine yy ?_|refine yy2 ?_ ?_<;>intro hcmp|apply Cg 22;refine Ci (hc:=(by exact cn nN)) ?_|apply Cg 22;refine Ci (hc:=(by exact cn nX)) ?_|apply Cg 19;refine Ci (hc:=(by exact ca nN (Cu nX))) ?_|apply Cg 17;refine Ci (hc:=(by exact ci 2 nX (Cu nN) (Dy nN (Cu nX)))) ?_|apply Cg 17;refine Ci (hc:=(by exact ci 1 nN ex0 (Je 2 nX (Cu nN) (Dy nN (Cu nX))))) ?_|apply Cg 13;refine Ci (hc:=(by exact p1)) ?_|apply Cg 17;refine Ci (hc:=(by exact ci 3 nX (Cu nN) (Dy nN (Cu nX)))) ?_|apply Cg 17;refine Ci (hc:=(by exact ci 1 nN ex0 (Je 3 nX (Cu nN) (Dy nN (Cu nX))))) ?_|apply Cg 13;refine Ci (hc:=(by exact p2)) ?_|apply Cg 19;refine Ci (hc:=(by exact ca nX (Cu nX))) ?_|apply Cg 17;refine Ci (hc:=(by exact ci 3 nX (Cu nN) (Dy nX (Cu nX)))) ?_|apply Cg 17;refine Ci (hc:=(by exact ci 1 nN ex0 (Je 3 nX (Cu nN) (Dy nX (Cu nX))))) ?_|apply Cg 13;refine Ci (hc:=(by exact p3)) ?_|apply Cg 22;refine Ci (hc:=(by exact cn nC)) ?_|apply Cg 13;refine Ci (hc:=(by exact p4)) ?_|apply Cg 13;refine Ci (hc:=(by exact p5)) ?_|apply Cg 22;refine Ci (hc:=(by exact cn nA)) ?_|apply Cg 19;refine Ci (hc:=(by exact ca nB (Cu nA))) ?_|apply Cg 9;refine Ci (hc:=(by exact r2)) ?_|apply Cg 8;refine Ci (hc:=(by exact r1)) ?_|apply Cg 14;refine Ci (hc:=(by exact s2)) ?_;try refine Ce ?_ ?_<;>intro hb|apply Cg 14;refine Ci (hc:=(by exact s1)) ?_;try refine Ce ?_ ?_<;>intro hb|apply ah;refine Cc [0,1,2,3,4,5,6,7,8,9,11,12,13] ?_|refine Cb λK hK=>?_|apply Cf 2;refine j0 [] qr0 ?_|apply Cf 3;refine j0 [] qr0 ?_|apply Cf 4;refine j0 [] qr0 ?_|apply_assumption -exfalso -symm)
 all_goals first
  |((refine j1 (j8 ?_))
    rfl)
  |(exfalso;exact hcmp rfl)
  |(exfalso;rename_i h;exact h rfl)
end Al
end
end Go.Proofs.YtklklgfpkpglgaaGreatDoor
