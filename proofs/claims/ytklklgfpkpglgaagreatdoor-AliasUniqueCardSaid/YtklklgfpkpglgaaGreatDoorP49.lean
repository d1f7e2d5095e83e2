/- Parts: A30, A31, A32, A33, A34, A35. -/
import Derived.Test.YtklklgfpkpglgaaGreatDoorP48
import Derived.Test.YtklklgfpkpglgaaGreatDoorP39
set_option linter.all false
set_option maxRecDepth 100000
set_option maxHeartbeats 16000000
namespace Go.Proofs.YtklklgfpkpglgaaGreatDoor
open Go.RowKit Go.Proofs.Tryz
section
def Ow:List Nat:=[0,1,2,3,4,5,6,7,8,9,10,11,12,14,16,30,55,59,84,96]
def jz9:Plan:=lin [1,9,6,14,16,20]
def jf9:Plan:=lin [0,4,8,12,17,22,24,28,32,36,40,44,48,52,56,64,68,72,61,77,80,84,88]
variable {mm:Int}
section
variable {E:Set}{S:Sd}{dst:Option Tmp}{ty:TypeId}{pos:String}{af:Array Edge}{gd:Option (Nat × Bool)}
theorem mw2 {xt yt:TypeId}{x y:Operand}{s t:ByteArray}(hx:S.ev x=some (.d (.str s)))(hy:S.ev y=some (.d (.str t)))(hox:Cn x=true)(hoy:Cn y=true):
 Swift E S ⟨dst,.binOp .geq xt x y yt,ty,pos,af,gd⟩ (.d (.bool (!Sc.bL s t))):=Swift.mk fun β a w h=>by
 have h1:a.eval x=.string s:=h.ev hx hox;have h2:a.eval y=.string t:=h.ev hy hoy;refine⟨.bool (!Sc.bL s t),fun w' _=>?_,rfl⟩;simp[execOp,h1,h2,eqGuard,binOp,Op.stringOp,Sc.bL,ByteArray.toList_eq]
end
namespace Al
open Lx Sc
theorem ko5 {l:List ByteArray}(h:Sc.Ph l)(i:Nat)(hi:i+1<l.length):Sc.bL (l[i]'(by omega)) l[i+1]=true:=Fh.1 h i (i+1) (by omega) hi (by omega)
theorem rh7 {l:List ByteArray}{s:ByteArray}(h:s∈l):l.any (Sc.isB s)=true:=Em.2 ⟨s,h,by simp[Sc.isB]⟩
attribute [local irreducible] TR TC
theorem mo9 (p:Pr)(hh:FnD prog (glS mm) 7 [] (fun v=>v=.d (.bool true))):FnD prog (glS mm) 3 [.d (dPr p)] (fun v=>v=.d (.bool true)):=by
 have c1:=qb0 (glS mm) p;have c2:=ko4 (mm:=mm) p;have c3:=kd7 (mm:=mm) p;have c4:=qy3 (mm:=mm) p;have c5:=kc6 (mm:=mm) p;have c6:=jn8 (mm:=mm) p;have ci:=fun l s=>rw9 (glS mm) l s;have cs:=fun a b=>kb4 (glS mm) a b;have h1:=ma1 p;have h2:=mi2 p;have h3:∀ s∈jb7 p,s∈jb2 p:=fun s hs=>mi1 hs;obtain⟨fr,hfr⟩:∃ fr,fr=if He p=true then Cx p else []:=⟨_,rfl⟩;have e4:(if He p=true then (Cx p).map D.str else [])=fr.map D.str:=by rw[hfr];split<;>rfl
 rw[e4]at c4;have h4:∀ s∈jb2 p,s∈fr:=fun s hs=>by
  have h5:=qp7 hs;unfold jb2 at hs;split at hs
  ·rename_i h0;rw[hfr,Ad (kg6 h0).1];exact h5
  ·cases hs
 by_cases hl:120<IntKind.i64.wrap (Sc.Jy p)
 ·rw[Eb hl]at c1;rw[j9]at c1 ⊢
  (refine j7 func3 ntmps3 results3 fun w M=>?_)
  (repeat' first|refine Ca 1 ?_;(refine Cq 1 ?_)|refine yyp ?_;try refine Ce ?_ ?_<;>intro hb|refine yy ?_|refine Ch 6 ?_;refine Ck (hc:=(by exact c1)) ?_;try refine Ce ?_ ?_<;>intro hb|refine Ch 7 ?_;refine Ck (hc:=(by exact hh)) ?_;try refine Ce ?_ ?_<;>intro hb|refine at_nil ?_;refine Cc Ow ?_|refine Cb fun K hK=>?_|refine Cf 3 ?_;refine j0 [] jz9 ?_|refine Cf 8 ?_;refine j0 [] jf9 ?_|refine Cf 13 ?_;refine j0 [] jf9 ?_|apply_assumption -exfalso -symm)
  (refine j1 (k7 ?_))
  rfl
 rw[Ee hl]at c1;simp only[j9]at c1 c2 c3 c4 c5 c6 ⊢;obtain⟨rd,hrd⟩:∃ rd,rd=jb2 p:=⟨_,rfl⟩;obtain⟨wt,hwt⟩:∃ wt,wt=jb7 p:=⟨_,rfl⟩;rw[<-hrd]at c2 h2 h3 h4;rw[<-hwt]at c3 h1 h3
 (refine j7 func3 ntmps3 results3 fun w M=>?_)
 (repeat' first|refine Ca 1 ?_;(refine Cq 1 ?_)|refine yyp ?_;try refine Ce ?_ ?_<;>intro hb|refine yy ?_|refine Ch 6 ?_;refine Ck (hc:=(by exact c1)) ?_;try refine Ce ?_ ?_<;>intro hb|refine Ch 8 ?_;refine Ck (hc:=(by exact c2)) ?_|refine Ch 9 ?_;refine Ck (hc:=(by exact c3)) ?_|refine Ch 10 ?_;refine Ck (hc:=(by exact c4)) ?_|refine at_nil ?_;refine Cc Ow ?_|refine Cb fun K hK=>?_|refine Cf 3 ?_;refine j0 [] jz9 ?_|refine Cf 8 ?_;refine j0 [] jf9 ?_|refine Cf 13 ?_;refine j0 [] jf9 ?_|apply_assumption -exfalso -symm)
 refine j8 4 rfl fun hsm=>?_;simp only[Ab]at hsm;refine j6 [2,7,27,28,29,30,31,32,33,34,35,36,37,38,39,40,41,42,43,44,45,46,47,48,49,50,51,52,53,54,55] [] (fun j:Nat=>[(7,.d (.int .i64 j))]) (fun _=>[]) (fun j=>j<=wt.length) (fun j=>wt.length - j) 0 (Ai _) fun j hj=>?_;dsimp only[Ac,Af];rcases Ah j wt.length with hj2|hj2
 ·have hin:=ci rd wt[j];rw[rh7 (h3 _ (Aw hj2))]at hin;cases j with
  |zero=>
   (repeat' first|refine yyp ?_;try refine Ce ?_ ?_<;>intro hb|refine yy ?_|refine Ch 11 ?_;refine Ck (hc:=(by exact hin)) ?_;try refine Ce ?_ ?_<;>intro hb|refine at_nil ?_;refine Cc Ow ?_|refine Cb fun K hK=>?_|refine Cf 3 ?_;refine j0 [] jz9 ?_|refine Cf 8 ?_;refine j0 [] jf9 ?_|refine Cf 13 ?_;refine j0 [] jf9 ?_|apply_assumption -exfalso -symm)
   all_goals first
    |(exfalso;omega)
    |exact⟨1,by omega,by omega,k8⟩
  |succ k=>
   have hlt:=ko5 h1 k hj2;have hjj:(((k+1:Nat):Int) - 1).toNat=k:=by omega
   (repeat' first|refine Ca 53 ?_;(refine z_p (mw2 rfl rfl rfl rfl) ?_;simp only[hjj,hlt,Bool.not_true])|refine yyp ?_;try refine Ce ?_ ?_<;>intro hb|refine yy ?_|refine Ch 11 ?_;refine Ck (hc:=(by exact hin)) ?_;try refine Ce ?_ ?_<;>intro hb|refine at_nil ?_;refine Cc Ow ?_|refine Cb fun K hK=>?_|refine Cf 3 ?_;refine j0 [] jz9 ?_|refine Cf 8 ?_;refine j0 [] jf9 ?_|refine Cf 13 ?_;refine j0 [] jf9 ?_|apply_assumption -exfalso -symm)
   all_goals first
    |(exfalso;omega)
    |exact⟨k+1+1,by omega,by omega,k8⟩
 obtain rfl:j=wt.length:=by omega
 (repeat' first|refine yyp ?_;try refine Ce ?_ ?_<;>intro hb|refine yy ?_|refine at_nil ?_;refine Cc Ow ?_|refine Cb fun K hK=>?_|refine Cf 3 ?_;refine j0 [] jz9 ?_|refine Cf 8 ?_;refine j0 [] jf9 ?_|refine Cf 13 ?_;refine j0 [] jf9 ?_|apply_assumption -exfalso -symm)
 refine j8 3 rfl fun hsm2=>?_;simp only[Ab]at hsm2;refine j6 [2,8,56,57,58,59,60,61,62,63,64,65,66,67,68,69,70,71,72,73,74,75,76,77,78,79,80,81,82,83,84] [] (fun j:Nat=>[(8,.d (.int .i64 j))]) (fun _=>[]) (fun j=>j<=rd.length) (fun j=>rd.length - j) 0 (Ai _) fun j hj=>?_;dsimp only[Ac,Af];rcases Ah j rd.length with hj2|hj2
 ·have hin:=ci fr rd[j];rw[rh7 (h4 _ (Aw hj2))]at hin;cases j with
  |zero=>
   (repeat' first|refine yyp ?_;try refine Ce ?_ ?_<;>intro hb|refine yy ?_|refine Ch 11 ?_;refine Ck (hc:=(by exact hin)) ?_;try refine Ce ?_ ?_<;>intro hb|refine at_nil ?_;refine Cc Ow ?_|refine Cb fun K hK=>?_|refine Cf 3 ?_;refine j0 [] jz9 ?_|refine Cf 8 ?_;refine j0 [] jf9 ?_|refine Cf 13 ?_;refine j0 [] jf9 ?_|apply_assumption -exfalso -symm)
   all_goals first
    |(exfalso;omega)
    |exact⟨1,by omega,by omega,k8⟩
  |succ k=>
   have hlt:=ko5 h2 k hj2;have hjj:(((k+1:Nat):Int) - 1).toNat=k:=by omega
   (repeat' first|refine Ca 82 ?_;(refine z_p (mw2 rfl rfl rfl rfl) ?_;simp only[hjj,hlt,Bool.not_true])|refine yyp ?_;try refine Ce ?_ ?_<;>intro hb|refine yy ?_|refine Ch 11 ?_;refine Ck (hc:=(by exact hin)) ?_;try refine Ce ?_ ?_<;>intro hb|refine at_nil ?_;refine Cc Ow ?_|refine Cb fun K hK=>?_|refine Cf 3 ?_;refine j0 [] jz9 ?_|refine Cf 8 ?_;refine j0 [] jf9 ?_|refine Cf 13 ?_;refine j0 [] jf9 ?_|apply_assumption -exfalso -symm)
   all_goals first
    |(exfalso;omega)
    |exact⟨k+1+1,by omega,by omega,k8⟩
 obtain rfl:j=rd.length:=by omega
 by_cases h0:Ht p=0
 ·have na:=jv3 h0;obtain⟨_,u1,u2,u3⟩:=qa9 h0;rw[h0,na.un]at c5;have c7:=jn8 (mm:=mm) (Dc p);have c8:=ko4 (mm:=mm) (Dc p);have c9:=kd7 (mm:=mm) (Dc p);rw[u1,<-hrd]at c8;rw[u2,<-hwt]at c9;rw[u3]at c7;have s1:=cs rd rd;have s2:=cs wt wt;rw[show eqB rd rd=true from r8.2 rfl]at s1;rw[show eqB wt wt=true from r8.2 rfl]at s2;simp only[j9]at c7 c8 c9;have hae:jf1 p=0\/jf1 p=150:=by
   unfold jf1;rw[Ad h0];split
   ·exact .inr rfl
   ·exact .inl rfl
  generalize jf1 p=ae at c6 c7 hae
  (repeat' first|refine Ca 9 ?_;(refine j3 9 ?_)|refine Ca 92 ?_;(refine mq1 (hc:=c6) ?_;rintro _ ⟨n,⟨hn1,hn2⟩,rfl⟩)|refine Ca 114 ?_;(refine mq1 (hc:=c7) ?_;rintro _ ⟨n2,⟨hn3,hn4⟩,rfl⟩)|refine yyp ?_;try refine Ce ?_ ?_<;>intro hb|refine yy ?_|refine yy2 ?_ ?_<;>intro hcmp|refine Ch 12 ?_;refine Ck (hc:=(by exact c5)) ?_|refine Ch 8 ?_;refine Ck (hc:=(by exact c8)) ?_|refine Ch 14 ?_;refine Ck (hc:=(by exact s1)) ?_;try refine Ce ?_ ?_<;>intro hb|refine Ch 9 ?_;refine Ck (hc:=(by exact c9)) ?_|refine Ch 14 ?_;refine Ck (hc:=(by exact s2)) ?_;try refine Ce ?_ ?_<;>intro hb|refine Ch 7 ?_;refine Ck (hc:=(by exact hh)) ?_;try refine Ce ?_ ?_<;>intro hb|refine at_nil ?_;refine Cc Ow ?_|refine Cb fun K hK=>?_|refine Cf 3 ?_;refine j0 [] jz9 ?_|refine Cf 8 ?_;refine j0 [] jf9 ?_|refine Cf 13 ?_;refine j0 [] jf9 ?_|apply_assumption -exfalso -symm)
  all_goals first
   |(exfalso;omega)
   |((refine j1 (k7 ?_))
     rfl)
   |(exfalso;simp at hcmp;done)
   |(exfalso;exact hcmp rfl)
   |(exfalso;simp_all;done)
 ·have ha:jf1 p=Ht p:=by unfold jf1;rw[Ae h0]
  have hne:Ht p≠150:=by rcases qj3 p h0 with h|h<;>omega
  have hr0:rd=[]:=by rw[hrd];unfold jb2;rw[Ae h0]
  rw[ha]at c6;generalize Ht p=er at c5 c6 h0 hne;subst hr0
  (repeat' first|refine Ca 9 ?_;(refine j3 9 ?_)|refine Ca 92 ?_;(refine mq1 (hc:=c6) ?_;rintro _ ⟨n,⟨hn1,hn2⟩,rfl⟩;rw[hn2 hne])|refine yyp ?_;try refine Ce ?_ ?_<;>intro hb|refine yy ?_|refine yy2 ?_ ?_<;>intro hcmp|refine Ch 12 ?_;refine Ck (hc:=(by exact c5)) ?_|refine Ch 7 ?_;refine Ck (hc:=(by exact hh)) ?_;try refine Ce ?_ ?_<;>intro hb|refine at_nil ?_;refine Cc Ow ?_|refine Cb fun K hK=>?_|refine Cf 3 ?_;refine j0 [] jz9 ?_|refine Cf 8 ?_;refine j0 [] jf9 ?_|refine Cf 13 ?_;refine j0 [] jf9 ?_|apply_assumption -exfalso -symm)
  all_goals first
   |(exfalso;omega)
   |((refine j1 (k7 ?_))
     rfl)
   |(exfalso;simp at hcmp;done)
   |(exfalso;exact hcmp rfl)
   |(exfalso;simp_all;done)
end Al
end
section
namespace Al
open Lx Sc
theorem rz3 (σ:W)(x:ByteArray):Cr σ [x]=σ:=by
 unfold Cr;simp
theorem rz4 (σ:W)(kind:Int)(x:ByteArray)(e:Ex)(p:Pr)(h4:kind≠4):Fx σ (Mg kind x e p)=
 let f:=Cu σ
 let e':=Cj f.2 e
 let q:=Fx {e'.2 with env:=Cm σ.env [x] [⟨f.1,false,[]⟩]} p
 (Mg kind f.1 e'.1 q.1,{q.2 with env:=σ.env}):=by
 have h0:∀ σ:W,Cj σ ex0=(ex0,σ):=fun σ=>by simp[ex0,Cj,Dl,x6]
 have ht2:∀ σ:W,Cr σ []=σ:=fun σ=>by
  unfold Cr;simp
 have hr:∀ σ:W,Jc σ ⟨ByteArray.empty,ex0,ex0⟩=((⟨ByteArray.empty,ex0,ex0⟩,[]),σ):=fun σ=>by simp[Jc]
 simp only[Mg,Fx,Ga,Gm,Fz,Gl,v7,Du,h0,hr,rp0,ht2,rz3,Cs,Aq,Ax,Dm,named,Dv,Ct,Cm,Sp.names,Sp.formals,Sp.type,Sp.e,Sp.kind,h4,if_true,if_false,reduceCtorEq,Int.reduceEq,false_and]
def nN:ByteArray:=⟨#[110]⟩
def nX:ByteArray:=⟨#[120]⟩
def n1:ByteArray:=⟨#[110,49]⟩
def n2:ByteArray:=⟨#[110,50]⟩
theorem rz5:nN≠nX:=by decide
def mw3 (s:ByteArray):ByteArray:=if s=nX then n2 else if s=nN then n1 else s
theorem rq2 (tk:List (ByteArray × Int))(k:Int)(u v:ByteArray)(h4:k≠4)(h1:¬(Sc.start tk).has n1)(h2:¬(Sc.start tk).has n2)(hu:u=nN\/u=nX)(hv:v=nN\/v=nX):
 Fx (Sc.start tk) (Mg 1 nN ex0 (Mg k nX (Cz nN) (Hr u (Cz v))))=(Mg 1 n1 ex0 (Mg k n2 (Cz n1) (Hr (mw3 u) (Cz (mw3 v)))),⟨fun _=>[],tk,2,[]⟩):=by
 have h0:∀ σ:W,Cj σ ex0=(ex0,σ):=fun σ=>by simp[ex0,Cj,Dl,x6]
 have he:∀ (σ:W) s,Cj σ (Cz s)=(Cz (nameOf σ s).1,(nameOf σ s).2):=fun σ s=>by simp[Cz,Cj,Dl,x6]
 have f1:Cu (Sc.start tk)=(n1,{Sc.start tk with count:=1}):=by
  have:=mu3 (Sc.start tk) 0 rfl (by rw[vh8];exact h1);rw[vh8]at this;exact this
 have f2:Cu ⟨Cm (Sc.start tk).env [nN] [⟨n1,false,[]⟩],tk,1,[]⟩=(n2,⟨Cm (Sc.start tk).env [nN] [⟨n1,false,[]⟩],tk,2,[]⟩):=by
  have:=mu3 ⟨Cm (Sc.start tk).env [nN] [⟨n1,false,[]⟩],tk,1,[]⟩ 1 rfl (by rw[vh9];exact h2);rw[vh9]at this;exact this
 have hn1:nameOf ⟨Cm (Sc.start tk).env [nN] [⟨n1,false,[]⟩],tk,2,[]⟩ nN=(n1,⟨Cm (Sc.start tk).env [nN] [⟨n1,false,[]⟩],tk,2,[]⟩):=by
  unfold nameOf;simp[Cm,Sc.start]
 have hn2:∀ s,s=nN\/s=nX->nameOf ⟨Cm (Cm (Sc.start tk).env [nN] [⟨n1,false,[]⟩]) [nX] [⟨n2,false,[]⟩],tk,2,[]⟩ s=(mw3 s,⟨Cm (Cm (Sc.start tk).env [nN] [⟨n1,false,[]⟩]) [nX] [⟨n2,false,[]⟩],tk,2,[]⟩):=fun s hs=>by
  unfold nameOf mw3;rcases hs with rfl|rfl
  ·simp[Cm,Sc.start,rz5]
  ·simp[Cm,Sc.start]
 rw[rz4 _ _ _ _ _ (by decide)];dsimp only;rw[f1];dsimp only;rw[h0];dsimp only;rw[rz4 _ _ _ _ _ h4];dsimp only;rw[show({Sc.start tk with count:=1,env:=Cm (Sc.start tk).env [nN] [⟨n1,false,[]⟩]}:W)=⟨Cm (Sc.start tk).env [nN] [⟨n1,false,[]⟩],tk,1,[]⟩ from rfl,f2];dsimp only;rw[he,hn1];dsimp only;rw[show Hr u (Cz v)=jy6 u v from rfl,mg3,hn2 u hu];dsimp only;rw[hn2 v hv];rfl
def mc1 (k:Int)(u v:ByteArray):Pr:=Mg 1 nN ex0 (Mg k nX (Cz nN) (Hr u (Cz v)))
def prQ (k:Int)(u v:ByteArray):Pr:=Mg 1 n1 ex0 (Mg k n2 (Cz n1) (Hr (mw3 u) (Cz (mw3 v))))
theorem Tp:Lx.Dg nN=true:=by decide
theorem Si:Lx.Dg nX=true:=by decide
theorem rz6 (k:Int)(u v:ByteArray)(hk:k=2\/k=3)(hu:Dg u=true)(hv:Dg v=true):He (mc1 k u v)=true:=by
 rcases hk with rfl|rfl
 all_goals simp[Tp,Si,hu,hv,np,Lx.He,mc1,Mg,Hr,Lx.Dh,Lx.Di,Lx.Co,Lx.Gh,Lx.Gq,Lx.Hf,Lx.Ii,Lx.Gr,Lx.Kn,Lx.Ka,Lx.hasB,Lx.Dj,Lx.Kh,Lx.Rf,Lx.Pp,Lx.Iw,Lx.Ja,Lx.Dy,Lx.Gf,Lx.Ld,Lx.Jm,Cz,rp0,ex0,sp0,pt0,Pr.kind,Pr.name,Pr.chan,Pr.targets,Pr.exprs,Pr.rep,Pr.guards,Pr.l,Pr.procs,Pr.spec,Sp.kind,Sp.type,Sp.names,Sp.e,Sp.proto,Sp.formals,Sp.body,Ex.kind,Ex.op,Ex.ty,Ex.n,Ex.s,Ex.l,eqB]
structure AtNX (p q:Pr):Prop where
 err:Ht p=0
 free:Cx p=[]
 uniq:Dc p=q
theorem ve7 (k:Int)(u v:ByteArray)(hk:k=2\/k=3)(hu:u=nN\/u=nX)(hv:v=nN\/v=nX):AtNX (mc1 k u v) (prQ k u v):=by
 have hm:He (mc1 k u v)=true:=rz6 k u v hk (by rcases hu with rfl|rfl<;>first|exact Tp|exact Si) (by rcases hv with rfl|rfl<;>first|exact Tp|exact Si);have hw:=rq2 [] k u v (by omega) (by simp[W.has,Sc.start]) (by simp[W.has,Sc.start]) hu hv;have hev:(Fx (Sc.start []) (mc1 k u v)).2.ev=[]:=by
  unfold mc1;rw[hw]
 have hfree:Cx (mc1 k u v)=[]:=by
  unfold Cx;rw[hev];rfl
 have htk:Dx (mc1 k u v)=[]:=by
  unfold Dx;rw[hfree];simp[Dt,mc1,Mg,Hr,Jz,Ki,pt0,sp0,Fw]
 refine⟨?_,hfree,?_⟩
 ·unfold Ht;rw[Ad hm];unfold Ij;rw[hev];rfl
 ·unfold Dc;rw[htk];unfold mc1;rw[hw];rfl
end Al
end
section
variable {mm:Int}
namespace Al
open Lx Sc
theorem rc1 (s:ByteArray):Dw [] s=s:=mh2 ⟨fun _=>0,fun x hx=>by cases hx⟩ rfl
theorem rh8 (w:Wd)(a:ByteArray)(e:Ex):ka7 w (Hr a e)=[Dw w.is a]:=by
 simp[ka7,Hr,km9,kx9,jh7,sp0,Cz,Ex.s]
theorem qb1 (w:Wd)(a:ByteArray):Jd w [Cz a]=[Dw w.is a]:=by
 simp[Jd,jc6,jy9,Cz,Dl]
theorem mp0 (w:Wd)(a b:ByteArray):∀ s,s∈n0 w (Hr a (Cz b))↔s=a\/s=b:=fun s=>by
 simp[n0,Hr,je3,ji7,mk2,jt9,jd4,jc6,jy9,Cz,Dl,ex0,rp0,sp0]
theorem rc2 (w:Wd)(a b:ByteArray):Jj w 2 (Cz a) (Hr a (Cz b))=false:=by
 unfold Jj;rw[Ad rfl,rh8,qb1];simp[je4]
theorem rq3 (w:Wd)(a b:ByteArray):Jj w 3 (Cz a) (Hr a (Cz b))=false:=by
 unfold Jj;rw[Ae (by decide),Ad rfl];have:(Cz a).s∈n0 w (Hr a (Cz b)):=(mp0 w a b _).2 (.inl rfl);rw[Eb this];rfl
theorem rq4 (w:Wd)(a b:ByteArray)(h:a≠b):Jj w 3 (Cz a) (Hr b (Cz b))=true:=by
 unfold Jj;rw[Ae (by decide),Ad rfl];have:(Cz a).s∉n0 w (Hr b (Cz b)):=fun hm=>by
  rcases(mp0 w b b _).1 hm with h2|h2<;>exact h h2
 rw[Ee this];simp[je4,Jd,jc6,Cz,Ex.l]
theorem mi4 (w:Wd)(e:Ex)(p:Pr):Jj w 1 e p=true:=by
 unfold Jj;rw[Ae (by decide),Ae (by decide)]
theorem rz7 (w:Wd)(a b:ByteArray):brB w (Hr a (Cz b))=false:=by
 simp[brB,Hr,Tk,Uq,Ng,Jl,sp0]
theorem rz8 (w:Wd)(k:Int)(x:ByteArray)(e:Ex)(p:Pr):brB w (Mg k x e p)=(!Jj w k e p || brB w p):=by
 simp[brB,Mg,Tk,Uq,Ng,Jl]
theorem rq5 (w:Wd)(k:Int)(u v:ByteArray):brB w (prQ k u v)=!Jj w k (Cz n1) (Hr (mw3 u) (Cz (mw3 v))):=by
 unfold prQ;rw[rz8,rz8,rz7,mi4];simp
theorem rc3 (k:Int)(x:ByteArray)(e:Ex)(p:Pr):partsOf (Mg k x e p)=[p]:=rfl
theorem rz9 {w:Wd}{k k':Int}{x x':ByteArray}{e e':Ex}{p p':Pr}{n:ByteArray}(h:Nm w (Mg k x e p) (Mg k' x' e' p') n):Jj w k' e' p'=false/\n=x\/Jj w k' e' p'=true/\Nm w p p' n:=by
 cases h with
 |spec h1 hn=>exact .inl ⟨h1.2,(Option.some.inj hn).symm⟩
 |call h1 h2=>exact absurd h2.1 (by simp[Mg,Pr.kind])
 |tgt h1 h2 h3 he=>simp[Mg,Pr.targets,Jl]at h3
 |gu h1 h2 h3 hy hg e1 e2 e3 e4=>simp[Mg,Pr.guards]at e1
 |@part _ _ x2 y2 i _ h1 h2 h3 hy hg e1 e2 hb hn=>
  rw[rc3]at e1 e2;cases i with
  |succ i=>simp at e1
  |zero=>
   cases e1;cases e2;refine .inr ⟨?_,hn⟩;cases ha:Jj w k' e' p' with
   |true=>rfl
   |false=>exact absurd ⟨rfl,ha⟩ h1
theorem rq6 (w:Wd)(k:Int)(u v:ByteArray){n:ByteArray}(hb:brB w (prQ k u v)=true)(h:Nm w (mc1 k u v) (prQ k u v) n):n=nX:=by
 rw[rq5,Bq]at hb;rcases rz9 h with h|h
 ·rw[mi4]at h;cases h.1
 ·rcases rz9 h.2 with h|h
  ·exact h.2
  ·rw[hb]at h;cases h.1
theorem va0:mw3 nN=n1:=by unfold mw3;rw[Ae rz5,Ad rfl]
theorem rq7:mw3 nX=n2:=by unfold mw3;rw[Ad rfl]
theorem ve8:n1≠n2:=by decide
theorem ma2 (k:Int)(u v:ByteArray)(hk:k=2\/k=3)(hu:u=nN\/u=nX)(hv:v=nN\/v=nX){b:Bool}(hb:∀ w,Jj w k (Cz n1) (Hr (mw3 u) (Cz (mw3 v)))=b):
 FnD prog (glS mm) 13 [.d (dPr (mc1 k u v))] (fun x=>x=.tup [.d (.str (if b then ByteArray.empty else nX)),.d (.int .i64 (if b then 0 else 150))]):=by
 have at0:=ve7 k u v hk hu hv;refine(jn8 (mm:=mm) (mc1 k u v)).mono ?_;rintro x ⟨n,⟨h1,h2⟩,rfl⟩;have ha:jf1 (mc1 k u v)=if b then 0 else 150:=by
  unfold jf1;rw[Ad at0.err,at0.uniq,rq5,hb];cases b<;>rfl
 rw[ha]at h1 h2 ⊢;cases b with
 |true=>rw[h2 (by decide)];rfl
 |false=>
  have hn:=h1 rfl at0.err;rw[at0.uniq]at hn;rw[rq6 _ k u v (by rw[rq5,hb];rfl) hn];rfl
theorem rc4:FnD prog (glS mm) 13 [.d (dPr (mc1 2 nN nX))] (fun x=>x=.tup [.d (.str nX),.d (.int .i64 150)]):=ma2 2 nN nX (.inl rfl) (.inl rfl) (.inr rfl) (b:=false) fun w=>by rw[va0,rq7];exact rc2 w n1 n2
theorem rc5:FnD prog (glS mm) 13 [.d (dPr (mc1 3 nN nX))] (fun x=>x=.tup [.d (.str nX),.d (.int .i64 150)]):=ma2 3 nN nX (.inr rfl) (.inl rfl) (.inr rfl) (b:=false) fun w=>by rw[va0,rq7];exact rq3 w n1 n2
theorem rc6:FnD prog (glS mm) 13 [.d (dPr (mc1 3 nX nX))] (fun x=>x=.tup [.d (.str ByteArray.empty),.d (.int .i64 0)]):=ma2 3 nX nX (.inr rfl) (.inr rfl) (.inr rfl) (b:=true) fun w=>by rw[rq7];exact rq4 w n1 n2 ve8
end Al
end
section
variable {mm:Int}
namespace Al
open Lx Sc
theorem rc7:FnD prog (glS mm) 13 [.d (dPr pr0)] (fun x=>x=.tup [.d (.str ByteArray.empty),.d (.int .i64 2)]):=by
 have he:Ht pr0=2:=by
  unfold Ht;rw[ra2];rfl
 have ha:jf1 pr0=2:=by
  unfold jf1;rw[he];rfl
 refine(jn8 (mm:=mm) pr0).mono ?_;rintro x ⟨n,⟨_,h2⟩,rfl⟩;rw[ha]at h2 ⊢;rw[h2 (by decide)]
def nA:ByteArray:=⟨#[97]⟩
def nB:ByteArray:=⟨#[98]⟩
structure AtNX' (p:Pr):Prop where
 err:Ht p=0
 uniq:Dc p=p
theorem va1:He (Hr nB (Cz nA))=true:=by
 have h1:Lx.Dg nA=true:=by decide
 have h2:Lx.Dg nB=true:=by decide
 simp[h1,h2,np,Lx.He,Hr,Lx.Dh,Lx.Di,Lx.Co,Lx.Gh,Lx.Gq,Lx.Hf,Lx.Ii,Lx.Gr,Lx.Kn,Lx.Ka,Lx.hasB,Lx.Dj,Lx.Iw,Lx.Ja,Lx.Dy,Lx.Gf,Lx.Ld,Lx.Jm,Cz,rp0,ex0,sp0,pt0,Pr.kind,Pr.name,Pr.chan,Pr.targets,Pr.exprs,Pr.rep,Pr.guards,Pr.l,Pr.procs,Pr.spec,Sp.kind,Sp.type,Sp.names,Sp.e,Sp.proto,Sp.formals,Sp.body,Ex.kind,Ex.op,Ex.ty,Ex.n,Ex.s,Ex.l,eqB]
theorem mp1 (tk:List (ByteArray × Int)):Fx (Sc.start tk) (Hr nB (Cz nA))=(Hr nB (Cz nA),⟨fun _=>[],tk,0,[(nB,false),(nA,false)]⟩):=by
 have hn:∀ (ev:List (ByteArray × Bool)) (s:ByteArray),nameOf ⟨fun _=>[],tk,0,ev⟩ s=(s,⟨fun _=>[],tk,0,ev++[(s,false)]⟩):=fun ev s=>by
  unfold nameOf Sc.step;simp
 rw[show Hr nB (Cz nA)=jy6 nB nA from rfl,mg3];unfold Sc.start;rw[hn,hn];rfl
theorem mp2:Cx (Hr nB (Cz nA))=[nA,nB]:=by
 have h1:Sc.bL nA nB=true:=by decide
 have h2:Sc.bL nB nA=false:=by decide
 have h3:nB≠nA:=by decide
 have h4:nA≠nB:=by decide
 unfold Cx;rw[mp1];simp[Hw,once,md6,h1,h2,h3,h4]
theorem rc8:AtNX' (Hr nB (Cz nA)):=by
 have hev:(Fx (Sc.start []) (Hr nB (Cz nA))).2.ev=[(nB,false),(nA,false)]:=by rw[mp1]
 refine⟨?_,?_⟩
 ·unfold Ht;rw[Ad va1,mp2];unfold Ij;rw[hev];have h3:nB≠nA:=by decide
  simp[Ih,isB]
 ·unfold Dc;rw[mp1]
theorem rc9:jb2 (Hr nB (Cz nA))=[nA,nB]:=by
 unfold jb2;rw[Ad rc8.1,rc8.2,mp2];exact jm2 fun s hs=>(mp0 _ _ _ _).2 (by
  rcases Bc.1 hs with h|h
  ·exact .inr h
  ·exact .inl (by simpa using h))
theorem qp8:jb7 (Hr nB (Cz nA))=[nB]:=by
 have h4:nA≠nB:=by decide
 unfold jb7;rw[Ad rc8.1,rc8.2,mp2,rh8];have hi:(x7 (w0 (Hr nB (Cz nA))) (Hr nB (Cz nA))).is=[]:=by
  simp[x7,Hr,Kt,Kb,Gb,Gz,sp0,w0]
 rw[hi,rc1];simp[ji5,h4]
end Al
end
section
variable {mm:Int}
namespace Al
open Lx Sc
def nC:ByteArray:=⟨#[99]⟩
def jn9:Pr:=.mk 4 ByteArray.empty (Cz nC) [Cz nX,Cz nX] [] rp0 [] [] [] sp0
theorem va2:He jn9=true:=by
 have h1:Lx.Dg nC=true:=by decide
 simp[h1,Si,np,Lx.He,jn9,Lx.Dh,Lx.Di,Lx.Co,Lx.Gh,Lx.Gq,Lx.Hf,Lx.Ii,Lx.Gr,Lx.Kn,Lx.Ka,Lx.hasB,Lx.Dj,Lx.Iw,Lx.Ja,Lx.Dy,Lx.Gf,Lx.Ld,Lx.Jm,Cz,rp0,ex0,sp0,pt0,Pr.kind,Pr.name,Pr.chan,Pr.targets,Pr.exprs,Pr.rep,Pr.guards,Pr.l,Pr.procs,Pr.spec,Sp.kind,Sp.type,Sp.names,Sp.e,Sp.proto,Sp.formals,Sp.body,Ex.kind,Ex.op,Ex.ty,Ex.n,Ex.s,Ex.l,eqB]
theorem mp3 (tk:List (ByteArray × Int)):Fx (Sc.start tk) jn9=(jn9,⟨fun _=>[],tk,0,[(nC,false),(nX,false),(nX,false)]⟩):=by
 have hn:∀ (ev:List (ByteArray × Bool)) (s:ByteArray),nameOf ⟨fun _=>[],tk,0,ev⟩ s=(s,⟨fun _=>[],tk,0,ev++[(s,false)]⟩):=fun ev s=>by
  unfold nameOf Sc.step;simp
 have h1:∀ (σ:W) s,Cj σ (Cz s)=(Cz (nameOf σ s).1,(nameOf σ s).2):=fun σ s=>by simp[Cz,Cj,Dl,x6]
 have hr:∀ σ:W,Jc σ ⟨ByteArray.empty,ex0,ex0⟩=((⟨ByteArray.empty,ex0,ex0⟩,[]),σ):=fun σ=>by simp[Jc]
 simp only[jn9,sp0,Fx,Ga,Gm,Fz,v7,Du,Db,h1,hr,Int.reduceEq,if_false,if_true,rp0,Sc.start,hn];rfl
theorem rq8:Cx jn9=[nC,nX]:=by
 have h1:Sc.bL nC nX=true:=by decide
 have h2:Sc.bL nX nC=false:=by decide
 have h3:nX≠nC:=by decide
 have h4:nC≠nX:=by decide
 unfold Cx;rw[mp3];simp[Hw,once,md6,h1,h2,h3,h4,Sc.Tj]
theorem rd0:AtNX' jn9:=by
 have hev:(Fx (Sc.start []) jn9).2.ev=[(nC,false),(nX,false),(nX,false)]:=by rw[mp3]
 refine⟨?_,?_⟩
 ·unfold Ht;rw[Ad va2,rq8];unfold Ij;rw[hev];simp[Ih,isB]
 ·unfold Dc;rw[mp3]
theorem qp9 (w:Wd):Jl w [] jn9.targets=some 1:=by
 have h:jn9.targets=[Cz nX,Cz nX]:=rfl;rw[h];simp only[Jl];rw[Ae (by simp),Ad (jg8.2 (.inr rfl))];rfl
theorem va3 (w:Wd):brB w jn9=true:=(mv9 jn9).2 (.inr (.inr (.inl (by unfold Ng;rw[qp9];rfl))))
theorem rq9 {w:Wd}{n:ByteArray}(h:Nm w jn9 jn9 n):n=nX:=by
 have ht:Ng w jn9.targets=true:=by unfold Ng;rw[qp9];rfl
 cases h with
 |spec h1 hn=>exact absurd h1.1 (by simp[jn9,Pr.kind])
 |call h1 h2=>exact absurd h2.1 (by simp[jn9,Pr.kind])
 |tgt h1 h2 h3 he=>
  rw[qp9]at h3;cases h3;cases he;rfl
 |gu h1 h2 h3 hy hg e1 e2 e3 e4=>rw[ht]at h3;cases h3
 |part h1 h2 h3 hy hg e1 e2 hb hn=>rw[ht]at h3;cases h3
theorem rd1:FnD prog (glS mm) 13 [.d (dPr jn9)] (fun x=>x=.tup [.d (.str nX),.d (.int .i64 150)]):=by
 have ha:jf1 jn9=150:=by
  unfold jf1;rw[Ad rd0.1,rd0.2,Ad (va3 _)]
 refine(jn8 (mm:=mm) jn9).mono ?_;rintro x ⟨n,⟨h1,h2⟩,rfl⟩;rw[ha]at h1 ⊢;have hn:=h1 rfl rd0.1;rw[rd0.2]at hn;rw[rq9 hn]
end Al
end
section
def qq0:Plan:=lin [1,6,10,14,18,22,26,28,32,36,40,44]
variable {mm:Int}
namespace Al
open Lx Sc
attribute [local irreducible] TR TC
theorem qq1:FnD prog (glS mm) 7 [] (fun v=>v=.d (.bool true)):=by
 have cn:=fun s=>mi3 (glS mm) s;have ca:=fun x e=>mo8 (glS mm) x e;have ci:=fun k x e p=>rq1 (glS mm) k x e p;have p1:=rc4 (mm:=mm);have p2:=rc5 (mm:=mm);have p3:=rc6 (mm:=mm);have p4:=rd1 (mm:=mm);have p5:=rc7 (mm:=mm);have r1:=ko4 (mm:=mm) (Hr nB (Cz nA));have r2:=kd7 (mm:=mm) (Hr nB (Cz nA));rw[rc9]at r1;rw[qp8]at r2;unfold mc1 at p1 p2 p3;have s1:=kb4 (glS mm) [nA,nB] [nA,nB];have s2:=kb4 (glS mm) [nB] [nB];rw[show eqB [nA,nB] [nA,nB]=true from r8.2 rfl]at s1;rw[show eqB [nB] [nB]=true from r8.2 rfl]at s2;simp only[k9]at cn ca ci;rw[j9]at p4 p5
 (refine j7 func7 ntmps7 results7 fun w M=>?_)
 (repeat' first|refine Ca 14 ?_;refine z_p Dk ?_|refine Ca 1 ?_;(refine j3 1 ?_)|refine Ca 49 ?_;(refine Dn 49 ?_)|refine Ca 101 ?_;(refine Dn 101 ?_)|refine Ca 106 ?_;(refine Dn 106 ?_)|refine yyp ?_;try refine Ce ?_ ?_<;>intro hb|refine yy ?_|refine yy2 ?_ ?_<;>intro hcmp|refine Ch 22 ?_;refine Ck (hc:=(by exact cn nN)) ?_|refine Ch 22 ?_;refine Ck (hc:=(by exact cn nX)) ?_|refine Ch 19 ?_;refine Ck (hc:=(by exact ca nN (Cz nX))) ?_|refine Ch 17 ?_;refine Ck (hc:=(by exact ci 2 nX (Cz nN) (Hr nN (Cz nX)))) ?_|refine Ch 17 ?_;refine Ck (hc:=(by exact ci 1 nN ex0 (Mg 2 nX (Cz nN) (Hr nN (Cz nX))))) ?_|refine Ch 13 ?_;refine Ck (hc:=(by exact p1)) ?_|refine Ch 17 ?_;refine Ck (hc:=(by exact ci 3 nX (Cz nN) (Hr nN (Cz nX)))) ?_|refine Ch 17 ?_;refine Ck (hc:=(by exact ci 1 nN ex0 (Mg 3 nX (Cz nN) (Hr nN (Cz nX))))) ?_|refine Ch 13 ?_;refine Ck (hc:=(by exact p2)) ?_|refine Ch 19 ?_;refine Ck (hc:=(by exact ca nX (Cz nX))) ?_|refine Ch 17 ?_;refine Ck (hc:=(by exact ci 3 nX (Cz nN) (Hr nX (Cz nX)))) ?_|refine Ch 17 ?_;refine Ck (hc:=(by exact ci 1 nN ex0 (Mg 3 nX (Cz nN) (Hr nX (Cz nX))))) ?_|refine Ch 13 ?_;refine Ck (hc:=(by exact p3)) ?_|refine Ch 22 ?_;refine Ck (hc:=(by exact cn nC)) ?_|refine Ch 13 ?_;refine Ck (hc:=(by exact p4)) ?_|refine Ch 13 ?_;refine Ck (hc:=(by exact p5)) ?_|refine Ch 22 ?_;refine Ck (hc:=(by exact cn nA)) ?_|refine Ch 19 ?_;refine Ck (hc:=(by exact ca nB (Cz nA))) ?_|refine Ch 9 ?_;refine Ck (hc:=(by exact r2)) ?_|refine Ch 8 ?_;refine Ck (hc:=(by exact r1)) ?_|refine Ch 14 ?_;refine Ck (hc:=(by exact s2)) ?_;try refine Ce ?_ ?_<;>intro hb|refine Ch 14 ?_;refine Ck (hc:=(by exact s1)) ?_;try refine Ce ?_ ?_<;>intro hb|refine at_nil ?_;refine Cc [0,1,2,3,4,5,6,7,8,9,11,12,13] ?_|refine Cb fun K hK=>?_|refine Cf 2 ?_;refine j0 [] qq0 ?_|refine Cf 3 ?_;refine j0 [] qq0 ?_|refine Cf 4 ?_;refine j0 [] qq0 ?_|apply_assumption -exfalso -symm)
 all_goals first
  |((refine j1 (k7 ?_))
    rfl)
  |(exfalso;exact hcmp rfl)
  |(exfalso;rename_i h;exact h rfl)
theorem Sk (p:Pr):FnD prog (glS mm) 3 [.d (dPr p)] (fun v=>v=.d (.bool true)):=mo9 p qq1
end Al
end
end Go.Proofs.YtklklgfpkpglgaaGreatDoor
