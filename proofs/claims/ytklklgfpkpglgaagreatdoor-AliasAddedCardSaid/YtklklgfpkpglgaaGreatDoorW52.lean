/- Parts. -/
import Derived.Test.YtklklgfpkpglgaaGreatDoorW51
import Derived.Test.YtklklgfpkpglgaaGreatDoorW41
set_option linter.all false
set_option maxRecDepth 100000
set_option maxHeartbeats 0
namespace Go.Proofs.YtklklgfpkpglgaaGreatDoor
open Go.RowKit Go.Proofs.Tryz Lx
section
variable {mm:Int}
namespace Al
open Lx Sc
def je6 (p q:Pr):Pr:=.mk 8 ByteArray.empty ex0 [] [] rp0 [] [p,q] [] sp0
def jh8 (k:Int)(x:ByteArray)(e:Ex)(p:Pr)(v:ByteArray):Pr:=Je k x e (je6 p (Dy v (l7 1)))
mutual
theorem qr2:∀ (e:Ex) (σ:W),(∀ s,σ.env s=[])->j4 σ e=(e,{σ with ev:=σ.ev++(Il e).map λs=>(s,false)})
 |.mk kind op ty n s l,σ,h=>by
  have h1:aA σ s=(s,Sc.step σ s false):=by
   unfold aA;rw[h s];rfl
  simp only[j4,Il];by_cases hk:Dm kind=true
  ·rw[Ae hk,Ae hk,h1];dsimp only;rw[Qk l (Sc.step σ s false) h];simp[Sc.step]
  ·rw[Af hk,Af hk];dsimp only;rw[Qk l σ h];simp
theorem Qk:∀ (l:List Ex) (σ:W),(∀ s,σ.env s=[])->z1 σ l=(l,{σ with ev:=σ.ev++(Jv l).map λs=>(s,false)})
 |[],σ,_=>by simp[z1,Jv]
 |e::l,σ,h=>by
  simp only[z1,Jv];rw[qr2 e σ h];dsimp only;rw[Qk l {σ with ev:=σ.ev++(Il e).map λs=>(s,false)} h];simp
end
theorem rs5 (σ:W)(p q:Pr):Dp σ (je6 p q)=(je6 (Dp σ p).1 (Dp (Dp σ p).2 q).1,{(Dp (Dp σ p).2 q).2 with env:=σ.env}):=by
 have h0:∀ σ:W,j4 σ ex0=(ex0,σ):=λσ=>by simp[ex0,j4,Dm,z1]
 have hr:∀ σ:W,Jk σ ⟨ByteArray.empty,ex0,ex0⟩=((⟨ByteArray.empty,ex0,ex0⟩,[]),σ):=λσ=>by simp[Jk]
 simp only[je6,sp0,Dp,Gt,Hg,Hl,y9,Fw,Dc,h0,hr,rp0,Ck,if_true,if_false,Int.reduceEq]
theorem rs6 (σ:W)(v:ByteArray)(n:Int):Dp σ (Dy v (l7 n))=(Dy (aA σ v).1 (l7 n),(aA σ v).2):=by
 have h0:∀ σ:W,j4 σ ex0=(ex0,σ):=λσ=>by simp[ex0,j4,Dm,z1]
 have h1:∀ (σ:W) s,j4 σ (Cu s)=(Cu (aA σ s).1,(aA σ s).2):=λσ s=>by simp[Cu,j4,Dm,z1]
 have h2:∀ (σ:W),j4 σ (l7 n)=(l7 n,σ):=λσ=>by simp[l7,j4,Dm,z1]
 have hr:∀ σ:W,Jk σ ⟨ByteArray.empty,ex0,ex0⟩=((⟨ByteArray.empty,ex0,ex0⟩,[]),σ):=λσ=>by simp[Jk]
 have he:(aA σ v).2.env=σ.env:=(Hu _ _).env;simp only[Dy,sp0,Dp,Gt,Hg,Hl,y9,ka9,Dc,h0,h1,h2,hr,Int.reduceEq,if_false,if_true,rp0];simp only[<-he]
noncomputable def tau (tk:List (ByteArray × Int))(x:ByteArray)(e:Ex):W:=⟨Ck (λ_=>[]) [x] [⟨(Cx (Sc.start tk)).1,false,[]⟩],tk,(Cx (Sc.start tk)).2.count,(Il e).map λs=>(s,false)⟩
theorem rs7 (tk:List (ByteArray × Int))(k:Int)(x:ByteArray)(e:Ex)(p:Pr)(h4:k≠4):Dp (Sc.start tk) (Je k x e p)=(Je k (Cx (Sc.start tk)).1 e (Dp (tau tk x e) p).1,{(Dp (tau tk x e) p).2 with env:=λ_=>[]}):=by
 rw[rr4 _ _ _ _ _ h4];dsimp only;rw[qr2 e (Cx (Sc.start tk)).2 (λ_=>rfl)];rfl
theorem Uk (tk:List (ByteArray × Int))(k:Int)(x:ByteArray)(e:Ex)(p:Pr)(v:ByteArray)(h4:k≠4)(hv:v≠x):
 Dp (Sc.start tk) (jh8 k x e p v)=(jh8 k (Cx (Sc.start tk)).1 e (Dp (tau tk x e) p).1 v,{(Dp (tau tk x e) p).2 with env:=λ_=>[],ev:=(Dp (tau tk x e) p).2.ev++[(v,false)]}):=by
 have he:(Dp (tau tk x e) p).2.env=(tau tk x e).env:=(Me p _).env;have h0:(tau tk x e).env v=[]:=by simp[tau,Ck,hv]
 have hn:aA (Dp (tau tk x e) p).2 v=(v,Sc.step (Dp (tau tk x e) p).2 v false):=by
  unfold aA;rw[he,h0];rfl
 unfold jh8;rw[rs7 _ _ _ _ _ h4,rs5,rs6,hn];rfl
theorem rc9 {l:List ByteArray}{v:ByteArray}(h:v∈l):once (l++[v])=once l:=ku9 (ju8 _) (ju8 _) λx=>by
 rw[kf0,kf0,Bi,Bu];exact⟨λhx=>by
  rcases hx with hx|rfl
  ·exact hx
  ·exact h,.inl⟩
structure Added (k:Int)(x:ByteArray)(e:Ex)(p:Pr)(v:ByteArray):Prop where
 err:Im (jh8 k x e p v)=0
 alias:jh7 (jh8 k x e p v)=150
 name:∀ n,Nm (vh3 (jh8 k x e p v)) (jh8 k x e p v) (Fz (jh8 k x e p v)) n->n=x
theorem rd0 (w:Wd){k:Int}{e:Ex}(p:Pr){v:ByteArray}(hk:k=2\/k=3/\(e.kind=4\/e.kind=5))(hv:v∈Il e):Ja w k e (je6 p (Dy v (l7 1)))=false:=by
 have hw:Dq w.is v∈jv4 w (je6 p (Dy v (l7 1))):=by
  have h1:jv4 w (je6 p (Dy v (l7 1)))=jv4 w p++jv4 w (Dy v (l7 1)):=by simp[jv4,je6,kx2,mm7,jj0,sp0]
  rw[h1,qq7];simp
 have hm:∀ l,v∈Jv l->jd3 (jv4 w (je6 p (Dy v (l7 1)))) (Ir w l)=true:=λl hl=>Et.2 ⟨_,Bx.2 ⟨v,hl,rfl⟩,by simpa using hw⟩;unfold Ja;rcases hk with rfl|⟨rfl,hk⟩
 ·rw[Ae rfl,hm _ (by simpa [Jv]using hv)];rfl
 ·rw[Af (by decide),Ae rfl];rw[mm6,Bi]at hv;rcases hv with hv|hv
  ·have h2:v=e.s:=by
    split at hv
    ·simpa using hv
    ·cases hv
   have h3:e.s∈jc4 w (je6 p (Dy v (l7 1))):=by
    rw[<-h2];have h4:v∈jc4 w (Dy v (l7 1)):=by simp[jc4,Dy,ju1,ke1,qs9,ke0,je8,Jv,Il,Cu,l7,Dm,ex0,rp0,sp0]
    have h5:jc4 w (je6 p (Dy v (l7 1)))=jc4 w p++jc4 w (Dy v (l7 1)):=by simp[jc4,je6,ju1,ke1,qs9,ke0,je8,Jv,Il,Dm,ex0,rp0,sp0]
    rw[h5];exact List.mem_append_right _ h4
   rw[Bm h3];rfl
  ·rw[<-jg3]at hv;rw[hm _ hv];simp
theorem vg1 {k:Int}{x:ByteArray}{e:Ex}{p:Pr}{v:ByteArray}(hk:k=2\/k=3/\(e.kind=4\/e.kind=5))(hq:jh7 (Je k x e p)=0)(hv:v∈Il e)(hx:v≠x)(hm:Gr (jh8 k x e p v)=true):Added k x e p v:=by
 have h4:k≠4:=by omega
 have hq0:Im (Je k x e p)=0:=by
  unfold jh7 at hq;split at hq
  ·assumption
  ·rename_i h;exact absurd hq h
 have hz:=kb7 _ _ (kw4 hq0).2;have hev:(Dp (Sc.start []) (jh8 k x e p v)).2.ev=(Dp (Sc.start []) (Je k x e p)).2.ev++[(v,false)]:=by rw[Uk _ _ _ _ _ _ h4 hx,rs7 _ _ _ _ _ h4]
 have hve:(v,false)∈(Dp (Sc.start []) (Je k x e p)).2.ev:=by
  rw[rs7 _ _ _ _ _ h4];have:=(Me p (tau [] x e)).pre;exact this.subset (Bx.2 ⟨v,hv,rfl⟩)
 have hfree:Db (jh8 k x e p v)=Db (Je k x e p):=by
  unfold Db;rw[hev,Om];exact rc9 (js6.2 hve)
 have htk:Gi (jh8 k x e p v)=Gi (Je k x e p):=by
  unfold Gi;rw[hfree];congr 1;simp[Dr,jh8,Je,je6,Dy,Kr,Lc,pt0,sp0]
 have herr:Im (jh8 k x e p v)=0:=by
  unfold Im;rw[Ae hm];unfold Kb;rcases me4 (Db (jh8 k x e p v)) (Dp (Sc.start []) (jh8 k x e p v)).2.ev (λs hs=>mr3.2 hs) with h|⟨s,hs,_⟩
  ·rw[h]
  ·rw[hev,Bi]at hs;rcases hs with hs|hs
   ·have:=hz _ hs;cases this
   ·simp at hs
 have hu:Fz (jh8 k x e p v)=jh8 k (Cx (Sc.start (Gi (Je k x e p)))).1 e (Dp (tau (Gi (Je k x e p)) x e) p).1 v:=by
  unfold Fz;rw[htk,Uk _ _ _ _ _ _ h4 hx]
 have hab:∀ (w:Wd) (P:Pr),Ja w k e (je6 P (Dy v (l7 1)))=false:=λw P=>rd0 w P hk hv;refine⟨herr,?_,λn hn=>?_⟩
 ·unfold jh7;rw[Ae herr,hu];unfold jh8;rw[rr8,hab];rfl
 ·rw[hu]at hn;rcases rs0 hn with h|h
  ·exact h.2
  ·rw[hab]at h;cases h.1
theorem mo8 {k:Int}{x:ByteArray}{e:Ex}{p:Pr}{v:ByteArray}(hk:k=2\/k=3/\(e.kind=4\/e.kind=5))(hq:jh7 (Je k x e p)=0)(hv:v∈Il e)(hx:v≠x)(hm:Gr (jh8 k x e p v)=true):
 FnD prog (glS mm) 13 [.d (dPr (jh8 k x e p v))] (λy=>y=.tup [.d (.str x),.d (.int .i64 150)]):=by
 have a:=vg1 hk hq hv hx hm;refine(jn5 (mm:=mm) (jh8 k x e p v)).mono ?_;rintro y ⟨n,⟨h1,h2⟩,rfl⟩;rw[a.alias]at h1 ⊢;rw[a.name n (h1 rfl a.err)]
end Al
end
section
def Sm:List Nat:=[0,1,2,3,4,5,6,17,27]
def rh9:List Nat:=[3,4,23,24,25,26,27,28,29,30,31,32,33,34,35,36,37]
variable {mm:Int}
namespace Al
open Lx Sc
attribute [local irreducible] TR TC
theorem qa4 (gl:List (Nat × List D)):∀ (m:Nat) (e:Ex),exN e<=m->m<=1000000000->FnD prog gl 18 [.d (dEx e)] (λv=>v=.d (.list 1 ((Il e).map .str))):=by
 intro m
 induction m with
 |zero=>intro e h;have:=jn7 e;omega
 |succ m ih=>
  intro e hm hb;rw[mj1]at hm;have hlen:=ja0 e.l;have hsub:∀ j (hj:j<e.l.length),((e.l.take j).flatMap Il).length+(Il e.l[j]).length<=1000000000:=λj hj=>by
   have h1:=jq8 (e.l.take j);have h2:=kf9 e.l[j];have h3:=l8 e.l j hj;rw[jg3]at h1;omega
  have h1:∀ (j:Nat) (hj:j<e.l.length),FnD prog gl 18 [.d (dEx e.l[j])] (λv=>v=.d (.list 1 ((Il e.l[j]).map .str))):=λj hj=>ih e.l[j] (by have:=l8 e.l j hj;omega) (by omega);clear ih;rw[mm6];simp only[k9]at h1 ⊢;refine FnD.Xf (n:=930) (e:=9) ?_;by_cases hk:Dm e.kind=true
  ·rw[Ae hk]
   (refine j2 func18 ntmps18 results18 λw M E b0=>?_)
   (repeat' first|apply Ca 1;(refine Cm 1 ?_)|apply Ca 21;(refine Df 21 ?_)|apply Ca 22;refine jw3 930 ?_|refine yyp ?_;try refine Ce ?_ ?_<;>intro hb|refine yy ?_|refine yy2 ?_ ?_<;>intro hcmp|apply ah;refine Cc Sm ?_|refine Cb λK hK=>?_|apply_assumption -exfalso -symm)
   all_goals first
    |(exfalso;unfold Dm at hk;grind)
    |(
     rw[k9];refine j9 rh9 [930] (λx:Nat × Nat=>[(4,.d (.int .i64 x.1)),(3,.own 930 x.2)]) (λx=>[(930,.row 9 1 true (([e.s]++(e.l.take x.1).flatMap Il).map .str) x.2)]) (λx=>x.1<=e.l.length) (λx=>e.l.length - x.1) (0,0) (Ai _) λ⟨j,kv⟩ hj=>?_;dsimp only[Ac,Ad]at hj ⊢;rcases Ah j e.l.length with hj2|hj2
     ·have hone:=h1 j hj2;have hsz:=hsub j hj2
      (repeat' first|refine yyp ?_;try refine Ce ?_ ?_<;>intro hb|refine yy ?_|(apply Cw;first|(refine Da (λkv=>?_))|(refine ai (λsx sp kv hsx hsp hsl=>?_)))|apply Cg 18;refine Ci (hc:=hone) ?_|apply ah;refine Cc Sm ?_|refine Cb λK hK=>?_|apply_assumption -exfalso -symm)
      refine⟨(j+1,kv),by dsimp only;omega,by dsimp only;omega,?_⟩;dsimp only;rw[Ao hj2,List.flatMap_append];simp only[Em,List.flatMap_nil,Ej,Ar,Ap,Ba,Ac,Ad];exact r9
     ·(repeat' first|refine yyp ?_;try refine Ce ?_ ?_<;>intro hb|refine yy ?_|apply ah;refine Cc Sm ?_|refine Cb λK hK=>?_|apply_assumption -exfalso -symm)
      rw[Am hj2];refine j1 (ja6 ⟨_,?_,rfl⟩);rfl
     )
  ·rw[Af hk,Ad]
   (refine j2 func18 ntmps18 results18 λw M E b0=>?_)
   (repeat' first|apply Ca 1;(refine Cm 1 ?_)|apply Ca 21;(refine Df 21 ?_)|apply Ca 22;refine jw3 930 ?_|refine yyp ?_;try refine Ce ?_ ?_<;>intro hb|refine yy ?_|refine yy2 ?_ ?_<;>intro hcmp|apply ah;refine Cc Sm ?_|refine Cb λK hK=>?_|apply_assumption -exfalso -symm)
   all_goals first
    |(exfalso;unfold Dm at hk;grind)
    |(
     refine jq9 (t:=3) (e:=9) (sz:=1) 930 rfl rfl ?_;rw[k9];refine j9 rh9 [930] (λx:Nat × Nat=>[(4,.d (.int .i64 x.1)),(3,.own 930 x.2)]) (λx=>[(930,.row 9 1 true (((e.l.take x.1).flatMap Il).map .str) x.2)]) (λx=>x.1<=e.l.length) (λx=>e.l.length - x.1) (0,0) (Ai _) λ⟨j,kv⟩ hj=>?_;dsimp only[Ac,Ad]at hj ⊢;rcases Ah j e.l.length with hj2|hj2
     ·have hone:=h1 j hj2;have hsz:=hsub j hj2
      (repeat' first|refine yyp ?_;try refine Ce ?_ ?_<;>intro hb|refine yy ?_|(apply Cw;first|(refine Da (λkv=>?_))|(refine ai (λsx sp kv hsx hsp hsl=>?_)))|apply Cg 18;refine Ci (hc:=hone) ?_|apply ah;refine Cc Sm ?_|refine Cb λK hK=>?_|apply_assumption -exfalso -symm)
      refine⟨(j+1,kv),by dsimp only;omega,by dsimp only;omega,?_⟩;dsimp only;rw[Ao hj2,List.flatMap_append];simp only[Em,List.flatMap_nil,Ej,Ar];exact r9
     ·(repeat' first|refine yyp ?_;try refine Ce ?_ ?_<;>intro hb|refine yy ?_|apply ah;refine Cc Sm ?_|refine Cb λK hK=>?_|apply_assumption -exfalso -symm)
      rw[Am hj2];refine j1 (ja6 ⟨_,?_,rfl⟩);rfl
     )
theorem rs8 (p q:Pr):dP (je6 p q)=.agg ([.int .u8 8,.str ByteArray.empty,
 .int .u8 0,.int .u8 0,.int .u8 0,.int .i32 0,.str ByteArray.empty,.list 6 [],
 .list 6 [],.list 6 [],
 .str ByteArray.empty,.int .u8 0,.int .u8 0,.int .u8 0,.int .i32 0,.str ByteArray.empty,.list 6 [],
 .int .u8 0,.int .u8 0,.int .u8 0,.int .i32 0,.str ByteArray.empty,.list 6 [],
 .list 23 [],.list 42 [dP p,dP q],.list 1 [],
 .int .u8 0,.int .u8 0,.int .i64 0,.int .u8 0,.str ByteArray.empty,.list 1 [],
 .int .u8 0,.int .u8 0,.int .u8 0,.int .i32 0,.str ByteArray.empty,.list 6 [],
 .bool false,.list 2 [],.list 6 [],.list 42 []]):=by
 have h:(je6 p q).l.map dPr=[dP p,dP q]:=by rw[v6];rfl
 unfold dP;rw[h];rfl
theorem rs9 {k:Int}{x:ByteArray}{e:Ex}{p:Pr}{v:ByteArray}(h:Lx.kPr p):Lx.kPr (jh8 k x e p v):=by
 simp only[jh8,Je,je6,Dy,Lx.kPr,Qh,Uc,sp0];simp[h]
end Al
end
section
def Oa:List Nat:=[0,1,2,3,4,6,8,9,10,12,13,14,15,16,17,18,30,44,63,76,91]
variable {mm:Int}
namespace Al
open Lx Sc
theorem qr3 {l:List ByteArray}(hl:l≠[])(n:Int):∃ i:Nat,∃ h:i<l.length,n / 2 % (l.length:Int)=(i:Int):=by
 have hp:0<l.length:=List.length_pos_iff.2 hl;have h2:0<=n / 2 % (l.length:Int):=Int.emod_nonneg _ (by omega);have h3:n / 2 % (l.length:Int)<l.length:=Int.emod_lt_of_pos _ (by omega);exact⟨(n / 2 % (l.length:Int)).toNat,by omega,by omega⟩
attribute [local irreducible] TR TC
theorem qa5 (p:Pr)(hk:Lx.kPr p)(x:ByteArray)(e:Ex)(n:Int)(hn0:0<=n)(hn1:n<=255)(hh:FnD prog (glS mm) 7 [] (λv=>v=.d (.bool true))):
 FnD prog (glS mm) 4 [.d (dPr p),.d (.str x),.d (dEx e),.d (.int .u8 n)] (λv=>v=.d (.bool true)):=by
 have c1:=qa2 (glS mm) p;have c2:=kr8 (glS mm) p hk;have c3:=je4 (glS mm) e;simp only[v6,k9]at c1 c2 c3 ⊢;by_cases hl:120<IntKind.i64.wrap (Sc.Kh p)
 ·rw[Bm hl]at c1
  (refine j5 func4 ntmps4 results4 λw M=>?_)
  (repeat' first|apply Ca 4;(refine Cm 4 ?_)|apply Ca 6;(refine Cm 6 ?_)|refine yyp ?_;try refine Ce ?_ ?_<;>intro hb|refine yy ?_|apply Cg 6;refine Ci (hc:=(by exact c1)) ?_;try refine Ce ?_ ?_<;>intro hb|apply Cg 7;refine Ci (hc:=(by exact hh)) ?_;try refine Ce ?_ ?_<;>intro hb|apply ah;refine Cc Oa ?_|(apply Gn (x:=.region 14 _ _);focus ((apply Cf 14;refine j0 [7] q06 ?_);(repeat' (first|apply Ca 4;(refine Cm 4 ?_)));(all_goals first|exact Wk.refl _ _|exact r9);done))|refine Cb λK hK=>?_|apply Cf 14;refine j0 [7] q06 ?_|apply_assumption -exfalso -symm)
  (refine j1 (j8 ?_))
  rfl
 rw[Bn hl]at c1;by_cases hm:Gr p=true;rotate_left
 ·rw[show Gr p=false by simpa using hm]at c2
  (refine j5 func4 ntmps4 results4 λw M=>?_)
  (repeat' first|apply Ca 4;(refine Cm 4 ?_)|apply Ca 6;(refine Cm 6 ?_)|refine yyp ?_;try refine Ce ?_ ?_<;>intro hb|refine yy ?_|apply Cg 6;refine Ci (hc:=(by exact c1)) ?_;try refine Ce ?_ ?_<;>intro hb|apply Cg 15;refine Ci (hc:=(by exact c2)) ?_;try refine Ce ?_ ?_<;>intro hb|apply Cg 7;refine Ci (hc:=(by exact hh)) ?_;try refine Ce ?_ ?_<;>intro hb|apply ah;refine Cc Oa ?_|(apply Gn (x:=.region 14 _ _);focus ((apply Cf 14;refine j0 [7] q06 ?_);(repeat' (first|apply Ca 4;(refine Cm 4 ?_)));(all_goals first|exact Wk.refl _ _|exact r9);done))|refine Cb λK hK=>?_|apply Cf 14;refine j0 [7] q06 ?_|apply_assumption -exfalso -symm)
  (refine j1 (j8 ?_))
  rfl
 rw[hm]at c2;by_cases hme:Gc e=true;rotate_left
 ·rw[show Gc e=false by simpa using hme]at c3
  (refine j5 func4 ntmps4 results4 λw M=>?_)
  (repeat' first|apply Ca 4;(refine Cm 4 ?_)|apply Ca 6;(refine Cm 6 ?_)|refine yyp ?_;try refine Ce ?_ ?_<;>intro hb|refine yy ?_|apply Cg 6;refine Ci (hc:=(by exact c1)) ?_;try refine Ce ?_ ?_<;>intro hb|apply Cg 15;refine Ci (hc:=(by exact c2)) ?_;try refine Ce ?_ ?_<;>intro hb|apply Cg 16;refine Ci (hc:=(by exact c3)) ?_;try refine Ce ?_ ?_<;>intro hb|apply Cg 7;refine Ci (hc:=(by exact hh)) ?_;try refine Ce ?_ ?_<;>intro hb|apply ah;refine Cc Oa ?_|(apply Gn (x:=.region 14 _ _);focus ((apply Cf 14;refine j0 [7] q06 ?_);(repeat' (first|apply Ca 4;(refine Cm 4 ?_)));(all_goals first|exact Wk.refl _ _|exact r9);done))|refine Cb λK hK=>?_|apply Cf 14;refine j0 [7] q06 ?_|apply_assumption -exfalso -symm)
  (refine j1 (j8 ?_))
  rfl
 rw[hme]at c3;have c5:=qa4 (glS mm) _ e (Au _) (by have:=ji8 hme;omega);simp only[k9]at c5
 (refine j5 func4 ntmps4 results4 λw M=>?_)
 ((repeat' first|apply Ca 4;(refine Cm 4 ?_)|apply Ca 6;(refine Cm 6 ?_)|refine jy6 4 ?_;refine halt ?_|refine yyp ?_;try refine Ce ?_ ?_<;>intro hb|refine yy ?_|apply Cg 6;refine Ci (hc:=(by exact c1)) ?_;try refine Ce ?_ ?_<;>intro hb|apply Cg 15;refine Ci (hc:=(by exact c2)) ?_;try refine Ce ?_ ?_<;>intro hb|apply Cg 16;refine Ci (hc:=(by exact c3)) ?_;try refine Ce ?_ ?_<;>intro hb|apply ah;refine Cc Oa ?_|(apply Gn (x:=.region 14 _ _);focus ((apply Cf 14;refine j0 [7] q06 ?_);(repeat' (first|apply Ca 4;(refine Cm 4 ?_)));(all_goals first|exact Wk.refl _ _|exact r9);done))|refine Cb λK hK=>?_|apply Cf 14;refine j0 [7] q06 ?_|apply_assumption -exfalso -symm);all_goals try refine unhalt ?_)
 refine jp1 [9] [] (λk:Int=>[(9,.d (.int .u8 k))]) (λ_=>[]) (λk=>k=2\/k=3/\(e.kind=4\/e.kind=5)) ?_ ?_
 ·(repeat' first|refine yyp ?_;try refine Ce ?_ ?_<;>intro hb|refine yy ?_|refine yy2 ?_ ?_<;>intro hcmp|apply ah;refine Cc Oa ?_|(apply Gn (x:=.region 14 _ _);focus ((apply Cf 14;refine j0 [7] q06 ?_);(repeat' (first|refine yyp ?_));(all_goals first|exact Wk.refl _ _|exact r9);done))|refine Cb λK hK=>?_|apply Cf 14;refine j0 [7] q06 ?_|apply_assumption -exfalso -symm)
  all_goals first
   |exact⟨2,.inl rfl,r9⟩
   |exact⟨3,.inr ⟨rfl,.inl hcmp⟩,r9⟩
   |exact⟨3,.inr ⟨rfl,.inr hcmp⟩,r9⟩
 rintro k hkk;dsimp only[Ac,Ad];have d1:=mo3 (glS mm) k x e p;have d2:=jn5 (mm:=mm) (Je k x e p);simp only[v6,k9]at d1 d2;by_cases h0:jh7 (Je k x e p)=0/\Il e≠[];rotate_left
 ·generalize jh7 (Je k x e p)=ae at h0 d2;generalize Il e=nm at h0 c5
  (repeat' first|apply Ca 10;(refine j3 10 ?_)|apply Ca 52;(refine mb2 (hc:=d2) ?_;rintro _ ⟨m,_,rfl⟩)|refine yyp ?_;try refine Ce ?_ ?_<;>intro hb|refine yy ?_|refine yy2 ?_ ?_<;>intro hcmp|apply Cg 17;refine Ci (hc:=(by exact d1)) ?_|apply Cg 18;refine Ci (hc:=(by exact c5)) ?_|apply Cg 7;refine Ci (hc:=(by exact hh)) ?_;try refine Ce ?_ ?_<;>intro hb|apply ah;refine Cc Oa ?_|(apply Gn (x:=.region 14 _ _);focus ((apply Cf 14;refine j0 [7] q06 ?_);(repeat' (first|apply Ca 10;(refine j3 10 ?_)));(all_goals first|exact Wk.refl _ _|exact r9);done))|refine Cb λK hK=>?_|apply Cf 14;refine j0 [7] q06 ?_|apply_assumption -exfalso -symm)
  all_goals first
   |((refine j1 (j8 ?_))
     rfl)
   |(exfalso;simp at hcmp;done)
   |(exfalso;exact h0 ⟨by omega,λh=>by rw[h]at hcmp;exact hcmp rfl⟩)
 obtain⟨h0,hne⟩:=h0;rw[h0]at d2;obtain⟨i,hi,hidx⟩:=qr3 hne n;have hvm:(Il e)[i]∈Il e:=At hi;have d3:=λv hv hx hmr=>mo8 (mm:=mm) (x:=x) (p:=p) (v:=v) hkk h0 hv hx hmr;have d4:=λv=>kr8 (glS mm) (jh8 k x e p v) (rs9 (k:=k) (x:=x) (e:=e) (v:=v) hk);have d5:=λv=>kn3 (glS mm) v (l7 1);have d6:=mo2 (glS mm) 1;have d7:=λv=>mo3 (glS mm) k x e (je6 p (Dy v (l7 1)));simp only[v6,k9]at d3 d4 d5 d6 d7;simp only[rs8]at d7;unfold jh8 at d3 d4;by_cases hx:(Il e)[i]=x
 ·clear d3 d4 d7
  (repeat' first|apply Ca 10;(refine j3 10 ?_)|apply Ca 52;(refine mb2 (hc:=d2) ?_;rintro _ ⟨m,_,rfl⟩)|apply Ca 71;(refine yyp ?_;rw[hidx])|refine yyp ?_;try refine Ce ?_ ?_<;>intro hb|refine yy ?_|refine yy2 ?_ ?_<;>intro hcmp|apply Cg 17;refine Ci (hc:=(by exact d1)) ?_|apply Cg 18;refine Ci (hc:=(by exact c5)) ?_|apply Cg 7;refine Ci (hc:=(by exact hh)) ?_;try refine Ce ?_ ?_<;>intro hb|apply ah;refine Cc Oa ?_|(apply Gn (x:=.region 14 _ _);focus ((apply Cf 14;refine j0 [7] q06 ?_);(repeat' (first|refine yyp ?_));(all_goals first|exact Wk.refl _ _|exact r9);done))|refine Cb λK hK=>?_|apply Cf 14;refine j0 [7] q06 ?_|apply_assumption -exfalso -symm)
  all_goals first
   |exact absurd hx hcmp
   |((refine j1 (j8 ?_))
     rfl)
 by_cases hmr:Gr (Je k x e (je6 p (Dy (Il e)[i] (l7 1))))=true
 ·have d3':=d3 _ hvm hx hmr;have d4':=d4 (Il e)[i];have d5':=d5 (Il e)[i];have d7':=d7 (Il e)[i];rw[hmr]at d4';clear d3 d4 d5 d7
  (repeat' first|apply Ca 10;(refine j3 10 ?_)|apply Ca 52;(refine mb2 (hc:=d2) ?_;rintro _ ⟨m,_,rfl⟩)|apply Ca 71;(refine yyp ?_;rw[hidx])|apply Ca 16;(refine j3 16 ?_)|refine yyp ?_;try refine Ce ?_ ?_<;>intro hb|refine yy ?_|refine yy2 ?_ ?_<;>intro hcmp|apply Cg 17;refine Ci (hc:=(by exact d1)) ?_|apply Cg 18;refine Ci (hc:=(by exact c5)) ?_|apply Cg 17;refine Ci (hc:=(by exact d7')) ?_|apply Cg 15;refine Ci (hc:=(by exact d4')) ?_;try refine Ce ?_ ?_<;>intro hb|apply Cg 13;refine Ci (hc:=(by exact d3')) ?_|apply Cg 7;refine Ci (hc:=(by exact hh)) ?_;try refine Ce ?_ ?_<;>intro hb|apply ah;refine Cc Oa ?_|(apply Gn (x:=.region 14 _ _);focus ((apply Cf 14;refine j0 [7] q06 ?_);(repeat' (first|apply Ca 15;(refine j3 15 ?_)|apply Ca 82;(refine Df 82 ?_)|apply Ca 83;refine z_p Cq ?_|refine yyp ?_|refine yy ?_|apply Cg 20;refine Ci (hc:=(by exact d6)) ?_|apply Cg 19;refine Ci (hc:=(by exact d5')) ?_|apply ah;refine Cc Oa ?_|refine ju0 ?_ ?_));(all_goals first|exact Wk.refl _ _|exact r9);done))|refine Cb λK hK=>?_|apply Cf 14;refine j0 [7] q06 ?_|apply_assumption -exfalso -symm)
  all_goals first
   |exact absurd hcmp hx
   |((refine j1 (j8 ?_))
     rfl)
   |(exfalso;exact hcmp rfl)
 ·have d4':=d4 (Il e)[i];have d5':=d5 (Il e)[i];have d7':=d7 (Il e)[i];rw[show Gr (Je k x e (je6 p (Dy (Il e)[i] (l7 1))))=false by simpa using hmr]at d4';clear d3 d4 d5 d7
  (repeat' first|apply Ca 10;(refine j3 10 ?_)|apply Ca 52;(refine mb2 (hc:=d2) ?_;rintro _ ⟨m,_,rfl⟩)|apply Ca 71;(refine yyp ?_;rw[hidx])|apply Ca 16;(refine j3 16 ?_)|refine yyp ?_;try refine Ce ?_ ?_<;>intro hb|refine yy ?_|refine yy2 ?_ ?_<;>intro hcmp|apply Cg 17;refine Ci (hc:=(by exact d1)) ?_|apply Cg 18;refine Ci (hc:=(by exact c5)) ?_|apply Cg 17;refine Ci (hc:=(by exact d7')) ?_|apply Cg 15;refine Ci (hc:=(by exact d4')) ?_;try refine Ce ?_ ?_<;>intro hb|apply Cg 7;refine Ci (hc:=(by exact hh)) ?_;try refine Ce ?_ ?_<;>intro hb|apply ah;refine Cc Oa ?_|(apply Gn (x:=.region 14 _ _);focus ((apply Cf 14;refine j0 [7] q06 ?_);(repeat' (first|apply Ca 15;(refine j3 15 ?_)|apply Ca 82;(refine Df 82 ?_)|apply Ca 83;refine z_p Cq ?_|refine yyp ?_|refine yy ?_|apply Cg 20;refine Ci (hc:=(by exact d6)) ?_|apply Cg 19;refine Ci (hc:=(by exact d5')) ?_|apply ah;refine Cc Oa ?_|refine ju0 ?_ ?_));(all_goals first|exact Wk.refl _ _|exact r9);done))|refine Cb λK hK=>?_|apply Cf 14;refine j0 [7] q06 ?_|apply_assumption -exfalso -symm)
  all_goals first
   |exact absurd hcmp hx
   |((refine j1 (j8 ?_))
     rfl)
theorem Ub (p:Pr)(hk:Lx.kPr p)(x:ByteArray)(e:Ex)(n:Int)(h0:0<=n)(h1:n<=255):FnD prog (glS mm) 4 [.d (dPr p),.d (.str x),.d (dEx e),.d (.int .u8 n)] (λv=>v=.d (.bool true)):=qa5 p hk x e n h0 h1 qr1
end Al
end
end Go.Proofs.YtklklgfpkpglgaaGreatDoor
