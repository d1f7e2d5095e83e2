/- Parts. -/
import Derived.Test.YtklklgfpkpglgaaGreatDoorQ34
set_option linter.all false
set_option maxRecDepth 100000
set_option maxHeartbeats 0
namespace Go.Proofs.YtklklgfpkpglgaaGreatDoor
open Go.RowKit Go.Proofs.Tryz Sc Lx
section
def Nv:List Nat:=[0,1,3,5,7,9,11,13,17,18,19,20,34,35,36,37,45,46,47,48,60,61,62,63,72,73,74,75]
def jc3:Plan:=lin [0,4,8,16,13,21,25,28,35]
variable {mm:Int}
namespace Sc
open Classical in
noncomputable def Mr:List (ByteArray × Int)->ByteArray->List (ByteArray × Int)
 |[],s=>[(s,1)]
 |x::l,s=>if x.1=s then (x.1,x.2+1)::l else x::Mr l s
open Classical in
noncomputable def Ni:List (ByteArray × Int)->ByteArray->Int
 |[],_=>0
 |x::l,s=>if x.1=s then x.2 else Ni l s
noncomputable def Dt (tk:List (ByteArray × Int))(l:List ByteArray):List (ByteArray × Int):=l.foldl Mr tk
theorem Jt (tk:List (ByteArray × Int))(l m:List ByteArray):Dt tk (l++m)=Dt (Dt tk l) m:=List.foldl_append ..
theorem Ua (tk:List (ByteArray × Int))(l:List ByteArray)(s:ByteArray):Dt tk (l++[s])=Mr (Dt tk l) s:=by rw[Jt];rfl
def Vk (tk:List (ByteArray × Int))(b:Int):Prop:=∀ x∈tk,0<x.2/\x.2<=b
theorem qm5:∀ {tk:List (ByteArray × Int)} {b:Int} (s:ByteArray),0<=b->Vk tk b->Vk (Mr tk s) (b+1)
 |[],b,s,hb,_,x,hx=>by
  simp only[Mr,Bs]at hx;subst hx;exact⟨by dsimp only;omega,by dsimp only;omega⟩
 |y::l,b,s,hb,h,x,hx=>by
  have hy:=h y (Aw ..);simp only[Mr]at hx;split at hx
  ·rcases Bc.1 hx with rfl|hx
   ·exact⟨by dsimp only;omega,by dsimp only;omega⟩
   ·have:=h x (Ax _ hx);exact⟨this.1,by omega⟩
  ·rcases Bc.1 hx with rfl|hx
   ·exact⟨hy.1,by omega⟩
   ·exact qm5 s hb (λx hx=>h x (Ax _ hx)) x hx
theorem Nw:∀ (l:List ByteArray) {tk:List (ByteArray × Int)} {b:Int},0<=b->Vk tk b->Vk (Dt tk l) (b+l.length)
 |[],tk,b,_,h=>by simpa [Dt]using h
 |s::l,tk,b,hb,h=>by
  have:=Nw l (by omega:(0:Int)<=b+1) (qm5 s hb h);rw[show b+((s::l).length:Int)=b+1+l.length by simp only[Aj];omega];exact this
theorem Vy:∀ {tk:List (ByteArray × Int)} {b:Int} (s:ByteArray),0<=b->Vk tk b->0<=Ni tk s/\Ni tk s<=b
 |[],b,s,hb,_=>⟨Eu _,hb⟩
 |y::l,b,s,hb,h=>by
  have hy:=h y (Aw ..);simp only[Ni];split
  ·omega
  ·exact Vy s hb λx hx=>h x (Ax _ hx)
theorem Um:∀ {tk:List (ByteArray × Int)} {s:ByteArray} {i:Nat} {z:ByteArray × Int},tk[i]? =some z->z.1=s->(∀ j:Nat,j<i->∀ u,tk[j]? =some u->u.1≠s)->Ni tk s=z.2/\tkK (Mr tk s)=tkK tk/\tkV (Mr tk s)=(tkV tk).set i (.int .i64 (z.2+1))
 |[],s,i,z,h,_,_=>by simp at h
 |y::l,s,0,z,h,hz,_=>by
  simp only[List.getElem?_cons_zero,Bi]at h;subst h;simp[Ni,Mr,hz,tkK,tkV]
 |y::l,s,i+1,z,h,hz,hf=>by
  have hy:¬y.1=s:=hf 0 (by omega) y rfl;simp only[List.getElem?_cons_succ]at h;have ih:=Um h hz λj hj u hu=>hf (j+1) (by omega) u (by simpa using hu);simp only[Ni,Mr,Af hy];refine⟨ih.1,?_,?_⟩
  ·have:=ih.2.1;simp only[tkK,List.map_cons]at this ⊢;rw[this]
  ·have:=ih.2.2;simp only[tkV,List.map_cons,List.set_cons_succ]at this ⊢;rw[this]
theorem Tf:∀ {tk:List (ByteArray × Int)} {s:ByteArray},s∉tk.map (·.1)->Ni tk s=0/\tkK (Mr tk s)=tkK tk++[.str s]/\tkV (Mr tk s)=tkV tk++[.int .i64 1]
 |[],s,_=>⟨rfl,rfl,rfl⟩
 |y::l,s,h=>by
  simp only[List.map_cons,Bc,not_or]at h;have ih:=Tf h.2;have hy:¬y.1=s:=λe=>h.1 e.symm;simp only[Ni,Mr,Af hy];refine⟨ih.1,?_,?_⟩
  ·have:=ih.2.1;simp only[tkK,List.map_cons,Ac]at this ⊢;rw[this]
  ·have:=ih.2.2;simp only[tkV,List.map_cons,Ac]at this ⊢;rw[this]
end Sc
section
variable {E:Set}{Q:Exit->Sd->Prop}{ops:Array Oper}{draw:Bool}{rest:Todo}{way:Ji}{ty:TypeId}{pos:String}{af:Array Edge}{gd:Option (Nat × Bool)}
variable {env:List (Nat × V)}{H:List (Nat × Ob)}{gl:List (Nat × List D)}{d:Nat}
theorem jp1 {t k e b:Nat}{x y:Operand}{tk:List (ByteArray × Int)}{s:ByteArray}[ht:TMap E.P t k e][hkk:TKey E.P k .str][hz:Jo E.P e (.d (.int .i64 0))](h:TR E draw ops Q rest ⟨(d,.d (.int .i64 (Ni tk s)))::env,H,gl⟩)(hx:Sd.ev ⟨env,H,gl⟩ x=some (.map b):=by exact rfl)(hox:Cm x=true:=by exact rfl)(hl:look b H=some (.map (Sc.tkK tk) (Sc.tkV tk)):=by exact rfl)(hy:Sd.ev ⟨env,H,gl⟩ y=some (.d (.str s)):=by exact rfl)(hoy:Cm y=true:=by exact rfl)
 (hd:d<E.C.nt:=by exact ltd rfl) (hg:Sd.gd ⟨env,H,gl⟩ ops ⟨some d,.lookup t x y false,ty,pos,af,gd⟩=some true:=by exact rfl) (hw:way.known=false:=by exact rfl):TR E draw ops Q (.step ⟨some d,.lookup t x y false,ty,pos,af,gd⟩ way rest) ⟨env,H,gl⟩:=
 ki9 hx hox hl hy hoy hd hg hw (λi z h1 h2 h3=>by rw[<-(Um h1 h2 h3).1];exact h) (λhm=>by rw[(Tf hm).1]at h;exact h)
theorem jp2 {t k e n:Nat}{x y z:Operand}{tk:List (ByteArray × Int)}{s:ByteArray}{c:Int}[ht:TMap E.P t k e][hkk:TKey E.P k .str](h:TR E draw ops Q rest ⟨env,(n,.map (Sc.tkK (Mr tk s)) (Sc.tkV (Mr tk s)))::H,gl⟩)(hx:Sd.ev ⟨env,H,gl⟩ x=some (.map n):=by exact rfl)(hox:Cm x=true:=by exact rfl)(hl:look n H=some (.map (Sc.tkK tk) (Sc.tkV tk)):=by exact rfl)(hy:Sd.ev ⟨env,H,gl⟩ y=some (.d (.str s)):=by exact rfl)(hoy:Cm y=true:=by exact rfl)
 (hz:Sd.ev ⟨env,H,gl⟩ z=some (.d (.int .i64 c)):=by exact rfl) (hoz:Cm z=true:=by exact rfl) (hc:c=Ni tk s+1:=by exact rfl) (hg:Sd.gd ⟨env,H,gl⟩ ops ⟨none,.mapUpdate t x y z,ty,pos,af,gd⟩=some true:=by exact rfl) (hw:Jv draw way=true:=by exact rfl):TR E draw ops Q (.step ⟨none,.mapUpdate t x y z,ty,pos,af,gd⟩ way rest) ⟨env,H,gl⟩:=by
 subst hc;refine mc5 (kk:=.str) hx hox hl hy hoy hz hoz (.d _) (.str _ _) hg hw (qk4 _ _) (λi h1 h2=>?_) (λhm=>?_)
 ·unfold Sc.tkK at h1 h2;rw[Bp]at h1;cases h3:tk[i]? with
  |none=>rw[h3]at h1;cases h1
  |some u=>
   rw[h3]at h1;simp only[Er,Bi,D.str.injEq]at h1;have hh:=Um h3 h1 λj hj v hv e=>h2 j hj (by rw[Bp,hv,<-e];rfl);rw[hh.2.1,hh.2.2,<-hh.1]at h;exact h
 ·have hh:=Tf (tk:=tk) (s:=s) λhs=>hm (by obtain⟨u,hu,rfl⟩:=Br.1 hs;exact Br.2 ⟨u,hu,rfl⟩);rw[hh.2.1,hh.2.2]at h;rw[hh.1];exact h
end
theorem kx9:∀ l:List Pr,Jl l=l.flatMap Dm
 |[]=>rfl
 |p::l=>by simp only[Jl,El,kx9 l]
theorem mu1:∀ l:List Gu,Kc l=l.flatMap Jc
 |[]=>rfl
 |p::l=>by simp only[Kc,El,mu1 l]
theorem jg5 {α:Type}(f:α->List ByteArray)(l:List α)(j:Nat)(hj:j<l.length):(l.take (j+1)).flatMap f=(l.take j).flatMap f++f l[j]:=by
 rw[An hj,List.flatMap_append];simp
theorem kk3 {α:Type}(f:α->List ByteArray):∀ (l:List α) (j:Nat),((l.take j).flatMap f).length<=(l.flatMap f).length
 |[],j=>by simp
 |x::l,0=>by simp
 |x::l,j+1=>by
  have:=kk3 f l j;simp only[Ez,El,Ag];omega
attribute [local irreducible] TR TC
theorem rf1 (p:Pr)(σ:W)(B:Int)(hB:0<=B)(hin:Vk σ.tk B)(hr:B+(Dm p).length<1000000000000000000)
 (ih:∀ x:Pr,(x∈p.l\/x∈p.spec.body\/∃ g∈p.ak,x∈g.body)->∀ (L:List ByteArray),L.length+(Dm x).length<=(Dm p).length->FnE prog (glS mm) 36 [.ptr 900 0,.d (dPr x)] (HW .none {σ with tk:=Dt σ.tk L}) (λv H1=>v=.tup []/\H1=HW .none {σ with tk:=Dt σ.tk (L++Dm x)})):
 FnE prog (glS mm) 36 [.ptr 900 0,.d (dPr p)] (HW .none σ) (λv H1=>v=.tup []/\H1=HW .none {σ with tk:=Dt σ.tk (Dm p)}):=by
 obtain⟨T,hT⟩:∃ T,T=Dm p:=⟨_,rfl⟩;have hTp:T=p.spec.aN.l.map (·.tag)++(p.spec.body.flatMap Dm++(p.ak.flatMap Jc++p.l.flatMap Dm)):=by
  rw[hT];obtain⟨kind,name,av,aj,au,rep,ak,l,ay,⟨sk,st,sn,se,spp,sf,sb⟩⟩:=p;simp only[Dm,kx9,mu1,Pr.spec,Pr.ak,Pr.l,Sp.aN,Sp.body]
 rw[<-hT]at hr ih ⊢;have hTl:T.length=p.spec.aN.l.length+((p.spec.body.flatMap Dm).length+((p.ak.flatMap Jc).length+(p.l.flatMap Dm).length)):=by
  rw[hTp];simp only[Ag,Ab]
 have hcnt:∀ (L:List ByteArray) (s:ByteArray),L.length<=T.length->0<=Ni (Dt σ.tk L) s/\Ni (Dt σ.tk L) s<1000000000000000000:=λL s hL=>by
  have h1:=Vy s (by omega) (Nw L hB hin);omega
 dsimp only[HW,je0,jb3]at ih ⊢;rw[v7]
 (refine j3 func36 ntmps36 results36 λw M E b0=>?_)
 simp only[List.map_cons,Bj]
 (repeat' first|apply Ca 3;(refine Ck 1003 ?_)|refine yyp ?_;try refine Ce ?_ ?_<;>intro hb|refine yy ?_|apply ah;refine Cc Nv ?_|refine Cb λK hK=>?_|apply Cg 4;refine j0 [8] jc3 ?_|apply Cg 14;refine j0 [8] jc3 ?_|apply_assumption -exfalso -symm)
 obtain⟨L1,hL1⟩:∃ L,L=p.spec.aN.l.map (·.tag):=⟨_,rfl⟩;obtain⟨L2,hL2⟩:∃ L,L=p.spec.body.flatMap Dm:=⟨_,rfl⟩;obtain⟨L3,hL3⟩:∃ L,L=p.ak.flatMap Jc:=⟨_,rfl⟩;obtain⟨L4,hL4⟩:∃ L,L=p.l.flatMap Dm:=⟨_,rfl⟩;have hl1:L1.length=p.spec.aN.l.length:=by rw[hL1,Ab]
 rw[<-hL1,<-hL2,<-hL3,<-hL4]at hTp;rw[<-hL2,<-hL3,<-hL4]at hTl;refine k9 [5,19,20,21,22,23,24,25,26,27,28,29,30,31] [902] (λj:Nat=>[(19,.d (.int .i64 j))]) (λj=>[(902,.map (Sc.tkK (Dt σ.tk ((p.spec.aN.l.take j).map (·.tag)))) (Sc.tkV (Dt σ.tk ((p.spec.aN.l.take j).map (·.tag)))))]) (λj=>j<=p.spec.aN.l.length) (λj=>p.spec.aN.l.length - j) 0 (Ak _) λj hj=>?_;dsimp only[Ac,Ae];rcases Ai j p.spec.aN.l.length with hj2|hj2
 ·have hc1:=hcnt ((p.spec.aN.l.take j).map (·.tag)) (p.spec.aN.l[j]).tag (by simp only[Ab,Aq];omega)
  (repeat' first|apply Ca 5;(refine j2 1105 ?_)|apply Ca 29;(refine jp1 ?_)|refine ke4 8 ?_;(refine jp2 ?_)|refine yyp ?_;try refine Ce ?_ ?_<;>intro hb|refine yy ?_|apply ah;refine Cc Nv ?_|refine Cb λK hK=>?_|apply Cg 4;refine j0 [8] jc3 ?_|apply Cg 14;refine j0 [8] jc3 ?_|apply_assumption -exfalso -symm)
  refine⟨j+1,by omega,by omega,?_⟩;rw[An hj2,Av,List.map_cons,Bj,Ua];exact v6
 obtain rfl:j=p.spec.aN.l.length:=by omega
 rw[Bv,<-hL1];simp only[v7]at ih
 (repeat' first|refine yyp ?_;try refine Ce ?_ ?_<;>intro hb|refine yy ?_|apply ah;refine Cc Nv ?_|refine Cb λK hK=>?_|apply Cg 4;refine j0 [8] jc3 ?_|apply Cg 14;refine j0 [8] jc3 ?_|apply_assumption -exfalso -symm)
 rw[v7];refine k7 34 rfl λhsm2=>?_;simp only[Ab]at hsm2;refine k9 ([1,17,18,19,20]++[7,36,37,38,39,40,41,42,43]) [902] (λj:Nat=>[(36,.d (.int .i64 j))]) (λj=>[(902,.map (Sc.tkK (Dt (Dt σ.tk L1) ((p.spec.body.take j).flatMap Dm))) (Sc.tkV (Dt (Dt σ.tk L1) ((p.spec.body.take j).flatMap Dm))))]) (λj=>j<=p.spec.body.length) (λj=>p.spec.body.length - j) 0 (Ak _) λj hj=>?_;dsimp only[Ac,Ae];rcases Ai j p.spec.body.length with hj2|hj2
 ·have hone:=ih p.spec.body[j] (.inr (.inl (Ao hj2))) (L1++(p.spec.body.take j).flatMap Dm) (by
   have h1:=kk3 Dm p.spec.body (j+1);rw[jg5 Dm _ _ hj2,<-hL2,Ag]at h1;rw[Ag];omega)
  simp only[Jt]at hone
  (repeat' first|apply Ca 7;(refine j2 1107 ?_)|apply Ca 42;refine Ch (hc:=hone) ?_|refine yyp ?_;try refine Ce ?_ ?_<;>intro hb|refine yy ?_|apply ah;refine Cc Nv ?_|refine Cb λK hK=>?_|apply Cg 4;refine j0 [8] jc3 ?_|apply Cg 14;refine j0 [8] jc3 ?_|apply_assumption -exfalso -symm)
  refine⟨j+1,by omega,by omega,?_⟩;rw[jg5 Dm _ _ hj2,Jt];exact v6
 obtain rfl:j=p.spec.body.length:=by omega
 rw[Bv,<-hL2]
 (repeat' first|refine yyp ?_;try refine Ce ?_ ?_<;>intro hb|refine yy ?_|apply ah;refine Cc Nv ?_|refine Cb λK hK=>?_|apply Cg 4;refine j0 [8] jc3 ?_|apply Cg 14;refine j0 [8] jc3 ?_|apply_assumption -exfalso -symm)
 rw[jb7];refine k7 45 rfl λhsm4=>?_;simp only[Ab]at hsm4;refine k9 ([1,34,35,36,37]++[9,11,47,48,49,50,51,52,53,54,55,56,57,58,59,60,61,62,63,64,65,66,67,68,69,70]) [902] (λj:Nat=>[(47,.d (.int .i64 j))]) (λj=>[(902,.map (Sc.tkK (Dt (Dt (Dt σ.tk L1) L2) ((p.ak.take j).flatMap Jc))) (Sc.tkV (Dt (Dt (Dt σ.tk L1) L2) ((p.ak.take j).flatMap Jc))))]) (λj=>j<=p.ak.length) (λj=>p.ak.length - j) 0 (Ak _) λj hj=>?_;dsimp only[Ac,Ae];rcases Ai j p.ak.length with hj2|hj2
 ·have hgl:=kk3 Jc p.ak (j+1);have hgt:Jc p.ak[j]=p.ak[j].name::p.ak[j].body.flatMap Dm:=by
   cases p.ak[j];simp only[Jc,kx9,Gu.name,Gu.body]
  rw[jg5 Jc _ _ hj2,<-hL3,Ag,hgt,Aj]at hgl;have hc1:=hcnt (L1++(L2++(p.ak.take j).flatMap Jc)) p.ak[j].name (by rw[Ag,Ag];omega);simp only[Jt]at hc1
  (repeat' first|apply Ca 9;(refine j2 1109 ?_)|apply Ca 57;(refine jp1 ?_)|refine ke4 8 ?_;(refine jp2 ?_)|refine yyp ?_;try refine Ce ?_ ?_<;>intro hb|refine yy ?_|apply ah;refine Cc Nv ?_|refine Cb λK hK=>?_|apply Cg 4;refine j0 [8] jc3 ?_|apply Cg 14;refine j0 [8] jc3 ?_|apply_assumption -exfalso -symm)
  rw[v7];refine k7 60 rfl λhsm6=>?_;simp only[Ab]at hsm6;refine k9 ([52,53,54,55,56,57,58,51]++[11,62,63,64,65,66,67,68,69]) [902] (λi:Nat=>[(62,.d (.int .i64 i))]) (λi=>[(902,.map (Sc.tkK (Dt (Mr (Dt (Dt (Dt σ.tk L1) L2) ((p.ak.take j).flatMap Jc)) p.ak[j].name) ((p.ak[j].body.take i).flatMap Dm))) (Sc.tkV (Dt (Mr (Dt (Dt (Dt σ.tk L1) L2) ((p.ak.take j).flatMap Jc)) p.ak[j].name) ((p.ak[j].body.take i).flatMap Dm))))]) (λi=>i<=p.ak[j].body.length) (λi=>p.ak[j].body.length - i) 0 (Ak _) λi hi=>?_;dsimp only[Ac,Ae];rcases Ai i p.ak[j].body.length with hi2|hi2
  ·have hone:=ih p.ak[j].body[i] (.inr (.inr ⟨p.ak[j],Ao hj2,Ao hi2⟩)) (L1++(L2++((p.ak.take j).flatMap Jc++([p.ak[j].name]++(p.ak[j].body.take i).flatMap Dm)))) (by
    have h1:=kk3 Dm p.ak[j].body (i+1);rw[jg5 Dm _ _ hi2,Ag]at h1;simp only[Ag,Aj,Az];omega)
   simp only[Jt]at hone
   (repeat' first|apply Ca 11;(refine j2 1211 ?_)|apply Ca 68;refine Ch (hc:=hone) ?_|refine yyp ?_;try refine Ce ?_ ?_<;>intro hb|refine yy ?_|apply ah;refine Cc Nv ?_|refine Cb λK hK=>?_|apply Cg 4;refine j0 [8] jc3 ?_|apply Cg 14;refine j0 [8] jc3 ?_|apply_assumption -exfalso -symm)
   refine⟨i+1,by omega,by omega,?_⟩;rw[jg5 Dm _ _ hi2,Jt];exact v6
  obtain rfl:i=p.ak[j].body.length:=by omega
  rw[Bv]
  (repeat' first|refine yyp ?_;try refine Ce ?_ ?_<;>intro hb|refine yy ?_|apply ah;refine Cc Nv ?_|refine Cb λK hK=>?_|apply Cg 4;refine j0 [8] jc3 ?_|apply Cg 14;refine j0 [8] jc3 ?_|apply_assumption -exfalso -symm)
  refine⟨j+1,by omega,by omega,?_⟩;rw[jg5 Jc _ _ hj2,Jt,hgt];exact v6
 obtain rfl:j=p.ak.length:=by omega
 rw[Bv,<-hL3]
 (repeat' first|refine yyp ?_;try refine Ce ?_ ?_<;>intro hb|refine yy ?_|apply ah;refine Cc Nv ?_|refine Cb λK hK=>?_|apply Cg 4;refine j0 [8] jc3 ?_|apply Cg 14;refine j0 [8] jc3 ?_|apply_assumption -exfalso -symm)
 refine k7 72 rfl λhsm8=>?_;simp only[Ab]at hsm8;refine k9 ([1,45,46,47,48]++[13,74,75,76,77,78,79,80,81]) [902] (λj:Nat=>[(74,.d (.int .i64 j))]) (λj=>[(902,.map (Sc.tkK (Dt (Dt (Dt (Dt σ.tk L1) L2) L3) ((p.l.take j).flatMap Dm))) (Sc.tkV (Dt (Dt (Dt (Dt σ.tk L1) L2) L3) ((p.l.take j).flatMap Dm))))]) (λj=>j<=p.l.length) (λj=>p.l.length - j) 0 (Ak _) λj hj=>?_;dsimp only[Ac,Ae];rcases Ai j p.l.length with hj2|hj2
 ·have hone:=ih p.l[j] (.inl (Ao hj2)) (L1++(L2++(L3++(p.l.take j).flatMap Dm))) (by
   have h1:=kk3 Dm p.l (j+1);rw[jg5 Dm _ _ hj2,<-hL4,Ag]at h1;simp only[Ag];omega)
  simp only[Jt]at hone
  (repeat' first|apply Ca 13;(refine j2 1113 ?_)|apply Ca 80;refine Ch (hc:=hone) ?_|refine yyp ?_;try refine Ce ?_ ?_<;>intro hb|refine yy ?_|apply ah;refine Cc Nv ?_|refine Cb λK hK=>?_|apply Cg 4;refine j0 [8] jc3 ?_|apply Cg 14;refine j0 [8] jc3 ?_|apply_assumption -exfalso -symm)
  refine⟨j+1,by omega,by omega,?_⟩;rw[jg5 Dm _ _ hj2,Jt];exact v6
 obtain rfl:j=p.l.length:=by omega
 rw[Bv,<-hL4]
 (repeat' first|refine yyp ?_;try refine Ce ?_ ?_<;>intro hb|refine yy ?_|apply ah;refine Cc Nv ?_|refine Cb λK hK=>?_|apply Cg 4;refine j0 [8] jc3 ?_|apply Cg 14;refine j0 [8] jc3 ?_|apply_assumption -exfalso -symm)
 rw[hTp];simp only[Jt];exact ji3 ⟨rfl,rfl⟩
theorem rf2:∀ (n:Nat) (p:Pr),SizeOf.sizeOf p<=n->∀ (σ:W) (B:Int),0<=B->Vk σ.tk B->B+(Dm p).length<1000000000000000000->
 FnE prog (glS mm) 36 [.ptr 900 0,.d (dPr p)] (HW .none σ) (λv H1=>v=.tup []/\H1=HW .none {σ with tk:=Dt σ.tk (Dm p)}):=by
 intro n
 induction n with
 |zero=>intro p h;cases p;simp only[Pr.mk.sizeOf_spec]at h;omega
 |succ n ih=>
  intro p hp σ B hB hin hr;refine rf1 p σ B hB hin hr λx hx L hL=>?_;have hxs:SizeOf.sizeOf x<=n:=by
   rcases hx with hx|hx|⟨g,hg,hx⟩
   ·have:=ru4 hx;omega
   ·have:=ru6 hx;omega
   ·have:=ru5 hg hx;omega
  have h:=ih x hxs {σ with tk:=Dt σ.tk L} (B+L.length) (by omega) (Nw L hB hin) (by omega);rw[Jt];exact h
end
section
def Tx:List Nat:=[0,1,2,3,4,5,6,7,8,10,17,27,31,32,33,34,45]
variable {mm:Int}
namespace Sc
noncomputable def Di (p:Pr):List (ByteArray × Int):=Dt (Dt [] (Cy p)) (Dm p)
noncomputable def Dg (p:Pr):Pr:=(Fz (start (Di p)) p).1
structure Can (p:Pr):Prop where
 ok:Tj p
 cap:kx5 p
 fit0:(start []).fit (prN p+1)
 fit1:(start (Di p)).fit (prN p+1)
 tags:(Cy p).length+(Dm p).length<100000000000000000
end Sc
attribute [local irreducible] TR TC
theorem qm6 (p:Pr)(hw:Gq p=true->Sc.Can p):
 FnD prog (glS mm) 12 [.d (dPr p)] (λv=>v=.tup [.d (dPr (if Gq p=true/\(Ja p (Cy p)).2=0 then Dg p else pr0)),.d (.int .i64 (if Gq p=true then (Ja p (Cy p)).2 else 2))]):=by
 have c1:=qm4 (mm:=mm) p λh=>⟨(hw h).ok,(hw h).cap,(hw h).fit0⟩;have c2:=rf0 (mm:=mm) p (Cy p) λh=>⟨(hw h).ok,(hw h).cap,(hw h).fit0⟩;by_cases hm:Gq p=true
 ·have hc:=hw hm;rw[Ad hm]at c1 c2 ⊢;rw[Ad hm]at c1 c2;by_cases he:(Ja p (Cy p)).2=0
  ·rw[Ad ⟨hm,he⟩];rw[he]at c2 ⊢;have hft:=hc.tags;have c3:=jk0 (glS mm) .none [];have hin0:Vk ([]:List (ByteArray × Int)) 0:=λx hx=>by cases hx
   have hin:=Nw (Cy p) (Eu 0) hin0;have c4:=rf2 (mm:=mm) _ p (Ap _) (Sc.start (Dt [] (Cy p))) (0+(Cy p).length) (by omega) hin (by omega);have c5:=kf3 (mm:=mm) .none _ p (Ap _) hc.ok hc.cap (Sc.start (Di p)) hc.fit1;have hcnt:∀ (L:List ByteArray) (s:ByteArray),0<=Ni (Dt [] L) s/\Ni (Dt [] L) s<=L.length:=λL s=>by
    have:=Vy s (by omega:(0:Int)<=0+L.length) (Nw L (Eu 0) hin0);omega
   dsimp only[HW,je0,jb3,Sc.start]at c3 c4 c5;rw[show Dt (Dt [] (Cy p)) (Dm p)=Di p from rfl]at c4;have hU:Dg p=(Fz {env:=λ_=>[],tk:=Di p,count:=0,ev:=[]} p).1:=rfl;rw[hU];obtain⟨r,hr⟩:∃ r,r=Fz {env:=λ_=>[],tk:=Di p,count:=0,ev:=[]} p:=⟨_,rfl⟩;rw[<-hr]at c5 ⊢;clear hr hU hw hin hc;simp only[v7]at c1 c2 c4 c5 ⊢
   (refine j4 func12 ntmps12 results12 λw M=>?_)
   (repeat' first|apply Ca 1;(refine Ck 1001 ?_)|apply Ca 2;(refine j2 1002 ?_)|apply Ca 30;refine Ch (hc:=c3) ?_|refine yyp ?_;try refine Ce ?_ ?_<;>intro hb|refine yy ?_|apply Cf 10;refine Ci (hc:=c1) ?_|apply Cf 34;refine Ci (hc:=c2) ?_|apply ah;refine Cc Tx ?_|refine Cb λK hK=>?_|apply_assumption -exfalso -symm)
   refine k7 31 rfl λhsm=>?_;simp only[Ab]at hsm;refine k9 [10,33,34,35,36,37,38,39,40,41,42,43,44] [902] (λj:Nat=>[(33,.d (.int .i64 j))]) (λj=>[(902,.map (Sc.tkK (Dt [] ((Cy p).take j))) (Sc.tkV (Dt [] ((Cy p).take j))))]) (λj=>j<=(Cy p).length) (λj=>(Cy p).length - j) 0 (Ak _) λj hj=>?_;dsimp only[Ac,Ae];rcases Ai j (Cy p).length with hj2|hj2
   ·have hc1:=hcnt ((Cy p).take j) (Cy p)[j];rw[Aq]at hc1
    (repeat' first|apply Ca 42;(refine jp1 ?_)|refine ke4 7 ?_;(refine jp2 ?_)|refine yyp ?_;try refine Ce ?_ ?_<;>intro hb|refine yy ?_|apply ah;refine Cc Tx ?_|refine Cb λK hK=>?_|apply_assumption -exfalso -symm)
    refine⟨j+1,by omega,by omega,?_⟩;rw[An hj2,Ua];exact v6
   obtain rfl:j=(Cy p).length:=by omega
   rw[Bv]
   (repeat' first|apply Ca 47;refine Ch (hc:=c4) ?_|apply Ca 50;refine Ch (hc:=c5) ?_|refine yyp ?_;try refine Ce ?_ ?_<;>intro hb|refine yy ?_|apply ah;refine Cc Tx ?_|refine Cb λK hK=>?_|apply_assumption -exfalso -symm)
   (refine j1 (j7 ?_))
   rfl
  ·rw[Af λh=>he h.2];simp only[v7]at c1 c2 ⊢
   (refine j4 func12 ntmps12 results12 λw M=>?_)
   (repeat' first|apply Ca 1;(refine Ck 1001 ?_)|apply Ca 2;(refine j2 1002 ?_)|apply Ca 28;refine z_p Cu ?_|refine yyp ?_;try refine Ce ?_ ?_<;>intro hb|refine yy ?_|apply Cf 10;refine Ci (hc:=c1) ?_|apply Cf 34;refine Ci (hc:=c2) ?_|apply ah;refine Cc Tx ?_|refine Cb λK hK=>?_|apply_assumption -exfalso -symm)
   all_goals first
    |(exfalso;exact he (by assumption))
    |((refine j1 (j7 ?_))
      rfl)
 ·rw[Af hm]at c1;rw[Af hm]at c1;rw[Af λh=>hm h.1,Af hm];simp only[v7]at c1 ⊢
  (refine j4 func12 ntmps12 results12 λw M=>?_)
  (repeat' first|apply Ca 1;(refine Ck 1001 ?_)|apply Ca 2;(refine j2 1002 ?_)|apply Ca 18;refine z_p Cu ?_|refine yyp ?_;try refine Ce ?_ ?_<;>intro hb|refine yy ?_|apply Cf 10;refine Ci (hc:=c1) ?_|apply ah;refine Cc Tx ?_|refine Cb λK hK=>?_|apply_assumption -exfalso -symm)
  all_goals first
   |((refine j1 (j7 ?_))
     rfl)
end
section
variable {mm:Int}
namespace Sc
noncomputable def Gn (p:Pr):Int:=if Gq p=true then (Ja p (Cy p)).2 else 2
open Classical in
noncomputable def Yn (p:Pr):Pr:=if Gq p=true/\(Ja p (Cy p)).2=0 then Dg p else pr0
end Sc
theorem qa2 (p:Pr)(hw:Gq p=true->Sc.Can p):FnD prog (glS mm) 12 [.d (dPr p)] (λv=>v=.tup [.d (dPr (Yn p)),.d (.int .i64 (Gn p))]):=by
 have h:=qm6 (mm:=mm) p hw;unfold Yn Gn;by_cases h1:Gq p=true/\(Ja p (Cy p)).2=0
 ·rw[Ad h1]at h ⊢;exact h
 ·rw[Af h1]at h ⊢;exact h
end
end Go.Proofs.YtklklgfpkpglgaaGreatDoor
