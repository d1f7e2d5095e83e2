/- Parts. -/
import Derived.Test.YtklklgfpkpglgaaGreatDoorW33
set_option linter.all false
set_option maxRecDepth 100000
set_option maxHeartbeats 0
namespace Go.Proofs.YtklklgfpkpglgaaGreatDoor
open Go.RowKit Go.Proofs.Tryz Sc Lx
section
def Oe:List Nat:=[0,1,3,5,7,9,11,13,17,18,19,20,34,35,36,37,45,46,47,48,60,61,62,63,72,73,74,75]
def jc7:Plan:=lin [0,4,8,16,13,21,25,28,35]
variable {mm:Int}
namespace Sc
open Classical in
noncomputable def Nb:List (ByteArray × Int)->ByteArray->List (ByteArray × Int)
 |[],s=>[(s,1)]
 |x::l,s=>if x.1=s then (x.1,x.2+1)::l else x::Nb l s
open Classical in
noncomputable def Nr:List (ByteArray × Int)->ByteArray->Int
 |[],_=>0
 |x::l,s=>if x.1=s then x.2 else Nr l s
noncomputable def Dv (tk:List (ByteArray × Int))(l:List ByteArray):List (ByteArray × Int):=l.foldl Nb tk
theorem Ju (tk:List (ByteArray × Int))(l m:List ByteArray):Dv tk (l++m)=Dv (Dv tk l) m:=List.foldl_append ..
theorem Tz (tk:List (ByteArray × Int))(l:List ByteArray)(s:ByteArray):Dv tk (l++[s])=Nb (Dv tk l) s:=by rw[Ju];rfl
def Vk (tk:List (ByteArray × Int))(b:Int):Prop:=∀ x∈tk,0<x.2/\x.2<=b
theorem qh5:∀ {tk:List (ByteArray × Int)} {b:Int} (s:ByteArray),0<=b->Vk tk b->Vk (Nb tk s) (b+1)
 |[],b,s,hb,_,x,hx=>by
  simp only[Nb,Bu]at hx;subst hx;exact⟨by dsimp only;omega,by dsimp only;omega⟩
 |y::l,b,s,hb,h,x,hx=>by
  have hy:=h y (Be ..);simp only[Nb]at hx;split at hx
  ·rcases Bg.1 hx with rfl|hx
   ·exact⟨by dsimp only;omega,by dsimp only;omega⟩
   ·have:=h x (Bh _ hx);exact⟨this.1,by omega⟩
  ·rcases Bg.1 hx with rfl|hx
   ·exact⟨hy.1,by omega⟩
   ·exact qh5 s hb (λx hx=>h x (Bh _ hx)) x hx
theorem Og:∀ (l:List ByteArray) {tk:List (ByteArray × Int)} {b:Int},0<=b->Vk tk b->Vk (Dv tk l) (b+l.length)
 |[],tk,b,_,h=>by simpa [Dv]using h
 |s::l,tk,b,hb,h=>by
  have:=Og l (by omega:(0:Int)<=b+1) (qh5 s hb h);rw[show b+((s::l).length:Int)=b+1+l.length by simp only[An];omega];exact this
theorem Vx:∀ {tk:List (ByteArray × Int)} {b:Int} (s:ByteArray),0<=b->Vk tk b->0<=Nr tk s/\Nr tk s<=b
 |[],b,s,hb,_=>⟨Ez _,hb⟩
 |y::l,b,s,hb,h=>by
  have hy:=h y (Be ..);simp only[Nr];split
  ·omega
  ·exact Vx s hb λx hx=>h x (Bh _ hx)
theorem Un:∀ {tk:List (ByteArray × Int)} {s:ByteArray} {i:Nat} {z:ByteArray × Int},tk[i]? =some z->z.1=s->(∀ j:Nat,j<i->∀ u,tk[j]? =some u->u.1≠s)->Nr tk s=z.2/\tkK (Nb tk s)=tkK tk/\tkV (Nb tk s)=(tkV tk).set i (.int .i64 (z.2+1))
 |[],s,i,z,h,_,_=>by simp at h
 |y::l,s,0,z,h,hz,_=>by
  simp only[List.getElem?_cons_zero,Bl]at h;subst h;simp[Nr,Nb,hz,tkK,tkV]
 |y::l,s,i+1,z,h,hz,hf=>by
  have hy:¬y.1=s:=hf 0 (by omega) y rfl;simp only[List.getElem?_cons_succ]at h;have ih:=Un h hz λj hj u hu=>hf (j+1) (by omega) u (by simpa using hu);simp only[Nr,Nb,Af hy];refine⟨ih.1,?_,?_⟩
  ·have:=ih.2.1;simp only[tkK,Ap]at this ⊢;rw[this]
  ·have:=ih.2.2;simp only[tkV,Ap,List.set_cons_succ]at this ⊢;rw[this]
theorem Tj:∀ {tk:List (ByteArray × Int)} {s:ByteArray},s∉tk.map (·.1)->Nr tk s=0/\tkK (Nb tk s)=tkK tk++[.str s]/\tkV (Nb tk s)=tkV tk++[.int .i64 1]
 |[],s,_=>⟨rfl,rfl,rfl⟩
 |y::l,s,h=>by
  simp only[Ap,Bg,not_or]at h;have ih:=Tj h.2;have hy:¬y.1=s:=λe=>h.1 e.symm;simp only[Nr,Nb,Af hy];refine⟨ih.1,?_,?_⟩
  ·have:=ih.2.1;simp only[tkK,Ap,Ac]at this ⊢;rw[this]
  ·have:=ih.2.2;simp only[tkV,Ap,Ac]at this ⊢;rw[this]
end Sc
section
variable {E:Set}{Q:Exit->Sd->Prop}{ops:Array Oper}{draw:Bool}{rest:Todo}{way:Jj}{ty:TypeId}{pos:String}{af:Array Edge}{gd:Option (Nat × Bool)}
variable {env:List (Nat × V)}{H:List (Nat × Ob)}{gl:List (Nat × List D)}{d:Nat}
theorem jq2 {t k e b:Nat}{x y:Operand}{tk:List (ByteArray × Int)}{s:ByteArray}[ht:TMap E.P t k e][hkk:TKey E.P k .str][hz:Jq E.P e (.d (.int .i64 0))](h:TR E draw ops Q rest ⟨(d,.d (.int .i64 (Nr tk s)))::env,H,gl⟩)(hx:Sd.ev ⟨env,H,gl⟩ x=some (.map b):=by exact rfl)(hox:Cn x=true:=by exact rfl)(hl:look b H=some (.map (Sc.tkK tk) (Sc.tkV tk)):=by exact rfl)(hy:Sd.ev ⟨env,H,gl⟩ y=some (.d (.str s)):=by exact rfl)(hoy:Cn y=true:=by exact rfl)
 (hd:d<E.C.nt:=by exact ltd rfl) (hg:Sd.gd ⟨env,H,gl⟩ ops ⟨some d,.lookup t x y false,ty,pos,af,gd⟩=some true:=by exact rfl) (hw:way.known=false:=by exact rfl):TR E draw ops Q (.step ⟨some d,.lookup t x y false,ty,pos,af,gd⟩ way rest) ⟨env,H,gl⟩:=
 jo1 hx hox hl hy hoy hd hg hw (λi z h1 h2 h3=>by rw[<-(Un h1 h2 h3).1];exact h) (λhm=>by rw[(Tj hm).1]at h;exact h)
theorem jq3 {t k e n:Nat}{x y z:Operand}{tk:List (ByteArray × Int)}{s:ByteArray}{c:Int}[ht:TMap E.P t k e][hkk:TKey E.P k .str](h:TR E draw ops Q rest ⟨env,(n,.map (Sc.tkK (Nb tk s)) (Sc.tkV (Nb tk s)))::H,gl⟩)(hx:Sd.ev ⟨env,H,gl⟩ x=some (.map n):=by exact rfl)(hox:Cn x=true:=by exact rfl)(hl:look n H=some (.map (Sc.tkK tk) (Sc.tkV tk)):=by exact rfl)(hy:Sd.ev ⟨env,H,gl⟩ y=some (.d (.str s)):=by exact rfl)(hoy:Cn y=true:=by exact rfl)
 (hz:Sd.ev ⟨env,H,gl⟩ z=some (.d (.int .i64 c)):=by exact rfl) (hoz:Cn z=true:=by exact rfl) (hc:c=Nr tk s+1:=by exact rfl) (hg:Sd.gd ⟨env,H,gl⟩ ops ⟨none,.mapUpdate t x y z,ty,pos,af,gd⟩=some true:=by exact rfl) (hw:Jy draw way=true:=by exact rfl):TR E draw ops Q (.step ⟨none,.mapUpdate t x y z,ty,pos,af,gd⟩ way rest) ⟨env,H,gl⟩:=by
 subst hc;refine ma2 (kk:=.str) hx hox hl hy hoy hz hoz (.d _) (.str _ _) hg hw (qf7 _ _) (λi h1 h2=>?_) (λhm=>?_)
 ·unfold Sc.tkK at h1 h2;rw[Bs]at h1;cases h3:tk[i]? with
  |none=>rw[h3]at h1;cases h1
  |some u=>
   rw[h3]at h1;simp only[Fa,Bl,D.str.injEq]at h1;have hh:=Un h3 h1 λj hj v hv e=>h2 j hj (by rw[Bs,hv,<-e];rfl);rw[hh.2.1,hh.2.2,<-hh.1]at h;exact h
 ·have hh:=Tj (tk:=tk) (s:=s) λhs=>hm (by obtain⟨u,hu,rfl⟩:=Bx.1 hs;exact Bx.2 ⟨u,hu,rfl⟩);rw[hh.2.1,hh.2.2]at h;rw[hh.1];exact h
end
theorem kv8:∀ l:List Pr,Kr l=l.flatMap Dr
 |[]=>rfl
 |p::l=>by simp only[Kr,Em,kv8 l]
theorem mr0:∀ l:List Gu,Lc l=l.flatMap Jt
 |[]=>rfl
 |p::l=>by simp only[Lc,Em,mr0 l]
theorem jh2 {α:Type}(f:α->List ByteArray)(l:List α)(j:Nat)(hj:j<l.length):(l.take (j+1)).flatMap f=(l.take j).flatMap f++f l[j]:=by
 rw[Ao hj,List.flatMap_append];simp
theorem kj8 {α:Type}(f:α->List ByteArray):∀ (l:List α) (j:Nat),((l.take j).flatMap f).length<=(l.flatMap f).length
 |[],j=>by simp
 |x::l,0=>by simp
 |x::l,j+1=>by
  have:=kj8 f l j;simp only[Fb,Em,Ag];omega
attribute [local irreducible] TR TC
theorem qx7 (p:Pr)(σ:W)(B:Int)(hB:0<=B)(hin:Vk σ.tk B)(hr:B+(Dr p).length<1000000000000000000)
 (ih:∀ x:Pr,(x∈p.l\/x∈p.spec.body\/∃ g∈p.ak,x∈g.body)->∀ (L:List ByteArray),L.length+(Dr x).length<=(Dr p).length->FnE prog (glS mm) 36 [.ptr 900 0,.d (dPr x)] (HW .none {σ with tk:=Dv σ.tk L}) (λv H1=>v=.tup []/\H1=HW .none {σ with tk:=Dv σ.tk (L++Dr x)})):
 FnE prog (glS mm) 36 [.ptr 900 0,.d (dPr p)] (HW .none σ) (λv H1=>v=.tup []/\H1=HW .none {σ with tk:=Dv σ.tk (Dr p)}):=by
 obtain⟨T,hT⟩:∃ T,T=Dr p:=⟨_,rfl⟩;have hTp:T=p.spec.aN.l.map (·.tag)++(p.spec.body.flatMap Dr++(p.ak.flatMap Jt++p.l.flatMap Dr)):=by
  rw[hT];obtain⟨kind,name,av,aj,au,rep,ak,l,ay,⟨sk,st,sn,se,spp,sf,sb⟩⟩:=p;simp only[Dr,kv8,mr0,Pr.spec,Pr.ak,Pr.l,Sp.aN,Sp.body]
 rw[<-hT]at hr ih ⊢;have hTl:T.length=p.spec.aN.l.length+((p.spec.body.flatMap Dr).length+((p.ak.flatMap Jt).length+(p.l.flatMap Dr).length)):=by
  rw[hTp];simp only[Ag,Aa]
 have hcnt:∀ (L:List ByteArray) (s:ByteArray),L.length<=T.length->0<=Nr (Dv σ.tk L) s/\Nr (Dv σ.tk L) s<1000000000000000000:=λL s hL=>by
  have h1:=Vx s (by omega) (Og L hB hin);omega
 dsimp only[HW,ja9,n7]at ih ⊢;rw[v6]
 (refine j2 func36 ntmps36 results36 λw M E b0=>?_)
 simp only[Ap,Ba]
 (repeat' first|apply Ca 3;(refine Cm 1003 ?_)|refine yyp ?_;try refine Ce ?_ ?_<;>intro hb|refine yy ?_|apply ah;refine Cc Oe ?_|refine Cb λK hK=>?_|apply Cf 4;refine j0 [8] jc7 ?_|apply Cf 14;refine j0 [8] jc7 ?_|apply_assumption -exfalso -symm)
 obtain⟨L1,hL1⟩:∃ L,L=p.spec.aN.l.map (·.tag):=⟨_,rfl⟩;obtain⟨L2,hL2⟩:∃ L,L=p.spec.body.flatMap Dr:=⟨_,rfl⟩;obtain⟨L3,hL3⟩:∃ L,L=p.ak.flatMap Jt:=⟨_,rfl⟩;obtain⟨L4,hL4⟩:∃ L,L=p.l.flatMap Dr:=⟨_,rfl⟩;have hl1:L1.length=p.spec.aN.l.length:=by rw[hL1,Aa]
 rw[<-hL1,<-hL2,<-hL3,<-hL4]at hTp;rw[<-hL2,<-hL3,<-hL4]at hTl;refine j9 [5,19,20,21,22,23,24,25,26,27,28,29,30,31] [902] (λj:Nat=>[(19,.d (.int .i64 j))]) (λj=>[(902,.map (Sc.tkK (Dv σ.tk ((p.spec.aN.l.take j).map (·.tag)))) (Sc.tkV (Dv σ.tk ((p.spec.aN.l.take j).map (·.tag)))))]) (λj=>j<=p.spec.aN.l.length) (λj=>p.spec.aN.l.length - j) 0 (Ai _) λj hj=>?_;dsimp only[Ac,Ad];rcases Ah j p.spec.aN.l.length with hj2|hj2
 ·have hc1:=hcnt ((p.spec.aN.l.take j).map (·.tag)) (p.spec.aN.l[j]).tag (by simp only[Aa,Ak];omega)
  (repeat' first|apply Ca 5;(refine j3 1105 ?_)|apply Ca 29;(refine jq2 ?_)|refine jg0 8 ?_;(refine jq3 ?_)|refine yyp ?_;try refine Ce ?_ ?_<;>intro hb|refine yy ?_|apply ah;refine Cc Oe ?_|refine Cb λK hK=>?_|apply Cf 4;refine j0 [8] jc7 ?_|apply Cf 14;refine j0 [8] jc7 ?_|apply_assumption -exfalso -symm)
  refine⟨j+1,by omega,by omega,?_⟩;rw[Ao hj2,Ar,Ap,Ba,Tz];exact r9
 obtain rfl:j=p.spec.aN.l.length:=by omega
 rw[Bk,<-hL1];simp only[v6]at ih
 (repeat' first|refine yyp ?_;try refine Ce ?_ ?_<;>intro hb|refine yy ?_|apply ah;refine Cc Oe ?_|refine Cb λK hK=>?_|apply Cf 4;refine j0 [8] jc7 ?_|apply Cf 14;refine j0 [8] jc7 ?_|apply_assumption -exfalso -symm)
 rw[v6];refine k7 34 rfl λhsm2=>?_;simp only[Aa]at hsm2;refine j9 ([1,17,18,19,20]++[7,36,37,38,39,40,41,42,43]) [902] (λj:Nat=>[(36,.d (.int .i64 j))]) (λj=>[(902,.map (Sc.tkK (Dv (Dv σ.tk L1) ((p.spec.body.take j).flatMap Dr))) (Sc.tkV (Dv (Dv σ.tk L1) ((p.spec.body.take j).flatMap Dr))))]) (λj=>j<=p.spec.body.length) (λj=>p.spec.body.length - j) 0 (Ai _) λj hj=>?_;dsimp only[Ac,Ad];rcases Ah j p.spec.body.length with hj2|hj2
 ·have hone:=ih p.spec.body[j] (.inr (.inl (At hj2))) (L1++(p.spec.body.take j).flatMap Dr) (by
   have h1:=kj8 Dr p.spec.body (j+1);rw[jh2 Dr _ _ hj2,<-hL2,Ag]at h1;rw[Ag];omega)
  simp only[Ju]at hone
  (repeat' first|apply Ca 7;(refine j3 1107 ?_)|apply Ca 42;refine Ch (hc:=hone) ?_|refine yyp ?_;try refine Ce ?_ ?_<;>intro hb|refine yy ?_|apply ah;refine Cc Oe ?_|refine Cb λK hK=>?_|apply Cf 4;refine j0 [8] jc7 ?_|apply Cf 14;refine j0 [8] jc7 ?_|apply_assumption -exfalso -symm)
  refine⟨j+1,by omega,by omega,?_⟩;rw[jh2 Dr _ _ hj2,Ju];exact r9
 obtain rfl:j=p.spec.body.length:=by omega
 rw[Bk,<-hL2]
 (repeat' first|refine yyp ?_;try refine Ce ?_ ?_<;>intro hb|refine yy ?_|apply ah;refine Cc Oe ?_|refine Cb λK hK=>?_|apply Cf 4;refine j0 [8] jc7 ?_|apply Cf 14;refine j0 [8] jc7 ?_|apply_assumption -exfalso -symm)
 rw[jb9];refine k7 45 rfl λhsm4=>?_;simp only[Aa]at hsm4;refine j9 ([1,34,35,36,37]++[9,11,47,48,49,50,51,52,53,54,55,56,57,58,59,60,61,62,63,64,65,66,67,68,69,70]) [902] (λj:Nat=>[(47,.d (.int .i64 j))]) (λj=>[(902,.map (Sc.tkK (Dv (Dv (Dv σ.tk L1) L2) ((p.ak.take j).flatMap Jt))) (Sc.tkV (Dv (Dv (Dv σ.tk L1) L2) ((p.ak.take j).flatMap Jt))))]) (λj=>j<=p.ak.length) (λj=>p.ak.length - j) 0 (Ai _) λj hj=>?_;dsimp only[Ac,Ad];rcases Ah j p.ak.length with hj2|hj2
 ·have hgl:=kj8 Jt p.ak (j+1);have hgt:Jt p.ak[j]=p.ak[j].name::p.ak[j].body.flatMap Dr:=by
   cases p.ak[j];simp only[Jt,kv8,Gu.name,Gu.body]
  rw[jh2 Jt _ _ hj2,<-hL3,Ag,hgt,An]at hgl;have hc1:=hcnt (L1++(L2++(p.ak.take j).flatMap Jt)) p.ak[j].name (by rw[Ag,Ag];omega);simp only[Ju]at hc1
  (repeat' first|apply Ca 9;(refine j3 1109 ?_)|apply Ca 57;(refine jq2 ?_)|refine jg0 8 ?_;(refine jq3 ?_)|refine yyp ?_;try refine Ce ?_ ?_<;>intro hb|refine yy ?_|apply ah;refine Cc Oe ?_|refine Cb λK hK=>?_|apply Cf 4;refine j0 [8] jc7 ?_|apply Cf 14;refine j0 [8] jc7 ?_|apply_assumption -exfalso -symm)
  rw[v6];refine k7 60 rfl λhsm6=>?_;simp only[Aa]at hsm6;refine j9 ([52,53,54,55,56,57,58,51]++[11,62,63,64,65,66,67,68,69]) [902] (λi:Nat=>[(62,.d (.int .i64 i))]) (λi=>[(902,.map (Sc.tkK (Dv (Nb (Dv (Dv (Dv σ.tk L1) L2) ((p.ak.take j).flatMap Jt)) p.ak[j].name) ((p.ak[j].body.take i).flatMap Dr))) (Sc.tkV (Dv (Nb (Dv (Dv (Dv σ.tk L1) L2) ((p.ak.take j).flatMap Jt)) p.ak[j].name) ((p.ak[j].body.take i).flatMap Dr))))]) (λi=>i<=p.ak[j].body.length) (λi=>p.ak[j].body.length - i) 0 (Ai _) λi hi=>?_;dsimp only[Ac,Ad];rcases Ah i p.ak[j].body.length with hi2|hi2
  ·have hone:=ih p.ak[j].body[i] (.inr (.inr ⟨p.ak[j],At hj2,At hi2⟩)) (L1++(L2++((p.ak.take j).flatMap Jt++([p.ak[j].name]++(p.ak[j].body.take i).flatMap Dr)))) (by
    have h1:=kj8 Dr p.ak[j].body (i+1);rw[jh2 Dr _ _ hi2,Ag]at h1;simp only[Ag,An,Av];omega)
   simp only[Ju]at hone
   (repeat' first|apply Ca 11;(refine j3 1211 ?_)|apply Ca 68;refine Ch (hc:=hone) ?_|refine yyp ?_;try refine Ce ?_ ?_<;>intro hb|refine yy ?_|apply ah;refine Cc Oe ?_|refine Cb λK hK=>?_|apply Cf 4;refine j0 [8] jc7 ?_|apply Cf 14;refine j0 [8] jc7 ?_|apply_assumption -exfalso -symm)
   refine⟨i+1,by omega,by omega,?_⟩;rw[jh2 Dr _ _ hi2,Ju];exact r9
  obtain rfl:i=p.ak[j].body.length:=by omega
  rw[Bk]
  (repeat' first|refine yyp ?_;try refine Ce ?_ ?_<;>intro hb|refine yy ?_|apply ah;refine Cc Oe ?_|refine Cb λK hK=>?_|apply Cf 4;refine j0 [8] jc7 ?_|apply Cf 14;refine j0 [8] jc7 ?_|apply_assumption -exfalso -symm)
  refine⟨j+1,by omega,by omega,?_⟩;rw[jh2 Jt _ _ hj2,Ju,hgt];exact r9
 obtain rfl:j=p.ak.length:=by omega
 rw[Bk,<-hL3]
 (repeat' first|refine yyp ?_;try refine Ce ?_ ?_<;>intro hb|refine yy ?_|apply ah;refine Cc Oe ?_|refine Cb λK hK=>?_|apply Cf 4;refine j0 [8] jc7 ?_|apply Cf 14;refine j0 [8] jc7 ?_|apply_assumption -exfalso -symm)
 refine k7 72 rfl λhsm8=>?_;simp only[Aa]at hsm8;refine j9 ([1,45,46,47,48]++[13,74,75,76,77,78,79,80,81]) [902] (λj:Nat=>[(74,.d (.int .i64 j))]) (λj=>[(902,.map (Sc.tkK (Dv (Dv (Dv (Dv σ.tk L1) L2) L3) ((p.l.take j).flatMap Dr))) (Sc.tkV (Dv (Dv (Dv (Dv σ.tk L1) L2) L3) ((p.l.take j).flatMap Dr))))]) (λj=>j<=p.l.length) (λj=>p.l.length - j) 0 (Ai _) λj hj=>?_;dsimp only[Ac,Ad];rcases Ah j p.l.length with hj2|hj2
 ·have hone:=ih p.l[j] (.inl (At hj2)) (L1++(L2++(L3++(p.l.take j).flatMap Dr))) (by
   have h1:=kj8 Dr p.l (j+1);rw[jh2 Dr _ _ hj2,<-hL4,Ag]at h1;simp only[Ag];omega)
  simp only[Ju]at hone
  (repeat' first|apply Ca 13;(refine j3 1113 ?_)|apply Ca 80;refine Ch (hc:=hone) ?_|refine yyp ?_;try refine Ce ?_ ?_<;>intro hb|refine yy ?_|apply ah;refine Cc Oe ?_|refine Cb λK hK=>?_|apply Cf 4;refine j0 [8] jc7 ?_|apply Cf 14;refine j0 [8] jc7 ?_|apply_assumption -exfalso -symm)
  refine⟨j+1,by omega,by omega,?_⟩;rw[jh2 Dr _ _ hj2,Ju];exact r9
 obtain rfl:j=p.l.length:=by omega
 rw[Bk,<-hL4]
 (repeat' first|refine yyp ?_;try refine Ce ?_ ?_<;>intro hb|refine yy ?_|apply ah;refine Cc Oe ?_|refine Cb λK hK=>?_|apply Cf 4;refine j0 [8] jc7 ?_|apply Cf 14;refine j0 [8] jc7 ?_|apply_assumption -exfalso -symm)
 rw[hTp];simp only[Ju];exact n9 ⟨rfl,rfl⟩
theorem qx8:∀ (n:Nat) (p:Pr),SizeOf.sizeOf p<=n->∀ (σ:W) (B:Int),0<=B->Vk σ.tk B->B+(Dr p).length<1000000000000000000->
 FnE prog (glS mm) 36 [.ptr 900 0,.d (dPr p)] (HW .none σ) (λv H1=>v=.tup []/\H1=HW .none {σ with tk:=Dv σ.tk (Dr p)}):=by
 intro n
 induction n with
 |zero=>intro p h;cases p;simp only[Pr.mk.sizeOf_spec]at h;omega
 |succ n ih=>
  intro p hp σ B hB hin hr;refine qx7 p σ B hB hin hr λx hx L hL=>?_;have hxs:SizeOf.sizeOf x<=n:=by
   rcases hx with hx|hx|⟨g,hg,hx⟩
   ·have:=rk7 hx;omega
   ·have:=rk9 hx;omega
   ·have:=rk8 hg hx;omega
  have h:=ih x hxs {σ with tk:=Dv σ.tk L} (B+L.length) (by omega) (Og L hB hin) (by omega);rw[Ju];exact h
end
section
def Tx:List Nat:=[0,1,2,3,4,5,6,7,8,10,17,27,31,32,33,34,45]
variable {mm:Int}
namespace Sc
noncomputable def Gi (p:Pr):List (ByteArray × Int):=Dv (Dv [] (Db p)) (Dr p)
noncomputable def Fz (p:Pr):Pr:=(Dp (start (Gi p)) p).1
structure Can (p:Pr):Prop where
 ok:Uu p
 cap:kv4 p
 fit0:(start []).fit (prN p+1)
 fit1:(start (Gi p)).fit (prN p+1)
 tags:(Db p).length+(Dr p).length<100000000000000000
end Sc
attribute [local irreducible] TR TC
theorem qh6 (p:Pr)(hw:Gr p=true->Sc.Can p):
 FnD prog (glS mm) 12 [.d (dPr p)] (λv=>v=.tup [.d (dPr (if Gr p=true/\(Kb p (Db p)).2=0 then Fz p else pr0)),.d (.int .i64 (if Gr p=true then (Kb p (Db p)).2 else 2))]):=by
 have c1:=rm8 (mm:=mm) p λh=>⟨(hw h).ok,(hw h).cap,(hw h).fit0⟩;have c2:=qx6 (mm:=mm) p (Db p) λh=>⟨(hw h).ok,(hw h).cap,(hw h).fit0⟩;by_cases hm:Gr p=true
 ·have hc:=hw hm;rw[Ae hm]at c1 c2 ⊢;rw[Ae hm]at c1 c2;by_cases he:(Kb p (Db p)).2=0
  ·rw[Ae ⟨hm,he⟩];rw[he]at c2 ⊢;have hft:=hc.tags;have c3:=jl0 (glS mm) .none [];have hin0:Vk ([]:List (ByteArray × Int)) 0:=λx hx=>by cases hx
   have hin:=Og (Db p) (Ez 0) hin0;have c4:=qx8 (mm:=mm) _ p (Au _) (Sc.start (Dv [] (Db p))) (0+(Db p).length) (by omega) hin (by omega);have c5:=kf3 (mm:=mm) .none _ p (Au _) hc.ok hc.cap (Sc.start (Gi p)) hc.fit1;have hcnt:∀ (L:List ByteArray) (s:ByteArray),0<=Nr (Dv [] L) s/\Nr (Dv [] L) s<=L.length:=λL s=>by
    have:=Vx s (by omega:(0:Int)<=0+L.length) (Og L (Ez 0) hin0);omega
   dsimp only[HW,ja9,n7,Sc.start]at c3 c4 c5;rw[show Dv (Dv [] (Db p)) (Dr p)=Gi p from rfl]at c4;have hU:Fz p=(Dp {env:=λ_=>[],tk:=Gi p,count:=0,ev:=[]} p).1:=rfl;rw[hU];obtain⟨r,hr⟩:∃ r,r=Dp {env:=λ_=>[],tk:=Gi p,count:=0,ev:=[]} p:=⟨_,rfl⟩;rw[<-hr]at c5 ⊢;clear hr hU hw hin hc;simp only[v6]at c1 c2 c4 c5 ⊢
   (refine j5 func12 ntmps12 results12 λw M=>?_)
   (repeat' first|apply Ca 1;(refine Cm 1001 ?_)|apply Ca 2;(refine j3 1002 ?_)|apply Ca 30;refine Ch (hc:=c3) ?_|refine yyp ?_;try refine Ce ?_ ?_<;>intro hb|refine yy ?_|apply Cg 10;refine Ci (hc:=c1) ?_|apply Cg 34;refine Ci (hc:=c2) ?_|apply ah;refine Cc Tx ?_|refine Cb λK hK=>?_|apply_assumption -exfalso -symm)
   refine k7 31 rfl λhsm=>?_;simp only[Aa]at hsm;refine j9 [10,33,34,35,36,37,38,39,40,41,42,43,44] [902] (λj:Nat=>[(33,.d (.int .i64 j))]) (λj=>[(902,.map (Sc.tkK (Dv [] ((Db p).take j))) (Sc.tkV (Dv [] ((Db p).take j))))]) (λj=>j<=(Db p).length) (λj=>(Db p).length - j) 0 (Ai _) λj hj=>?_;dsimp only[Ac,Ad];rcases Ah j (Db p).length with hj2|hj2
   ·have hc1:=hcnt ((Db p).take j) (Db p)[j];rw[Ak]at hc1
    (repeat' first|apply Ca 42;(refine jq2 ?_)|refine jg0 7 ?_;(refine jq3 ?_)|refine yyp ?_;try refine Ce ?_ ?_<;>intro hb|refine yy ?_|apply ah;refine Cc Tx ?_|refine Cb λK hK=>?_|apply_assumption -exfalso -symm)
    refine⟨j+1,by omega,by omega,?_⟩;rw[Ao hj2,Tz];exact r9
   obtain rfl:j=(Db p).length:=by omega
   rw[Bk]
   (repeat' first|apply Ca 47;refine Ch (hc:=c4) ?_|apply Ca 50;refine Ch (hc:=c5) ?_|refine yyp ?_;try refine Ce ?_ ?_<;>intro hb|refine yy ?_|apply ah;refine Cc Tx ?_|refine Cb λK hK=>?_|apply_assumption -exfalso -symm)
   (refine j1 (j8 ?_))
   rfl
  ·rw[Af λh=>he h.2];simp only[v6]at c1 c2 ⊢
   (refine j5 func12 ntmps12 results12 λw M=>?_)
   (repeat' first|apply Ca 1;(refine Cm 1001 ?_)|apply Ca 2;(refine j3 1002 ?_)|apply Ca 28;refine z_p Cq ?_|refine yyp ?_;try refine Ce ?_ ?_<;>intro hb|refine yy ?_|apply Cg 10;refine Ci (hc:=c1) ?_|apply Cg 34;refine Ci (hc:=c2) ?_|apply ah;refine Cc Tx ?_|refine Cb λK hK=>?_|apply_assumption -exfalso -symm)
   all_goals first
    |(exfalso;exact he (by assumption))
    |((refine j1 (j8 ?_))
      rfl)
 ·rw[Af hm]at c1;rw[Af hm]at c1;rw[Af λh=>hm h.1,Af hm];simp only[v6]at c1 ⊢
  (refine j5 func12 ntmps12 results12 λw M=>?_)
  (repeat' first|apply Ca 1;(refine Cm 1001 ?_)|apply Ca 2;(refine j3 1002 ?_)|apply Ca 18;refine z_p Cq ?_|refine yyp ?_;try refine Ce ?_ ?_<;>intro hb|refine yy ?_|apply Cg 10;refine Ci (hc:=c1) ?_|apply ah;refine Cc Tx ?_|refine Cb λK hK=>?_|apply_assumption -exfalso -symm)
  all_goals first
   |((refine j1 (j8 ?_))
     rfl)
end
section
variable {mm:Int}
namespace Sc
noncomputable def Im (p:Pr):Int:=if Gr p=true then (Kb p (Db p)).2 else 2
open Classical in
noncomputable def Yh (p:Pr):Pr:=if Gr p=true/\(Kb p (Db p)).2=0 then Fz p else pr0
end Sc
theorem mv9 (p:Pr)(hw:Gr p=true->Sc.Can p):FnD prog (glS mm) 12 [.d (dPr p)] (λv=>v=.tup [.d (dPr (Yh p)),.d (.int .i64 (Im p))]):=by
 have h:=qh6 (mm:=mm) p hw;unfold Yh Im;by_cases h1:Gr p=true/\(Kb p (Db p)).2=0
 ·rw[Ae h1]at h ⊢;exact h
 ·rw[Af h1]at h ⊢;exact h
end
end Go.Proofs.YtklklgfpkpglgaaGreatDoor
