/- Parts: S44, S45, S46. -/
import Derived.Test.YtklklgfpkpglgaaGreatDoorP29
set_option linter.all false
set_option maxRecDepth 100000
set_option maxHeartbeats 16000000
namespace Go.Proofs.YtklklgfpkpglgaaGreatDoor
open Go.RowKit Go.Proofs.Tryz
section
def Ny:List Nat:=[0,1,3,5,7,9,11,13,17,18,19,20,34,35,36,37,45,46,47,48,60,61,62,63,72,73,74,75]
def jb9:Plan:=lin [0,4,8,16,13,21,25,28,35]
variable {mm:Int}
namespace Sc
open Classical in
noncomputable def Ms:List (ByteArray × Int)->ByteArray->List (ByteArray × Int)
 |[],s=>[(s,1)]
 |x::l,s=>if x.1=s then (x.1,x.2+1)::l else x::Ms l s
open Classical in
noncomputable def Nn:List (ByteArray × Int)->ByteArray->Int
 |[],_=>0
 |x::l,s=>if x.1=s then x.2 else Nn l s
noncomputable def Fw (tk:List (ByteArray × Int))(l:List ByteArray):List (ByteArray × Int):=l.foldl Ms tk
theorem Jq (tk:List (ByteArray × Int))(l m:List ByteArray):Fw tk (l++m)=Fw (Fw tk l) m:=List.foldl_append ..
theorem Sz (tk:List (ByteArray × Int))(l:List ByteArray)(s:ByteArray):Fw tk (l++[s])=Ms (Fw tk l) s:=by rw[Jq];rfl
def Uf (tk:List (ByteArray × Int))(b:Int):Prop:=∀ x∈tk,0<x.2/\x.2<=b
theorem qh6:∀ {tk:List (ByteArray × Int)} {b:Int} (s:ByteArray),0<=b->Uf tk b->Uf (Ms tk s) (b+1)
 |[],b,s,hb,_,x,hx=>by
  simp only[Ms,Bn]at hx;subst hx;exact⟨by dsimp only;omega,by dsimp only;omega⟩
 |y::l,b,s,hb,h,x,hx=>by
  have hy:=h y (Az ..);simp only[Ms]at hx;split at hx
  ·rcases Bc.1 hx with rfl|hx
   ·exact⟨by dsimp only;omega,by dsimp only;omega⟩
   ·have:=h x (Bb _ hx);exact⟨this.1,by omega⟩
  ·rcases Bc.1 hx with rfl|hx
   ·exact⟨hy.1,by omega⟩
   ·exact qh6 s hb (fun x hx=>h x (Bb _ hx)) x hx
theorem Nz:∀ (l:List ByteArray) {tk:List (ByteArray × Int)} {b:Int},0<=b->Uf tk b->Uf (Fw tk l) (b+l.length)
 |[],tk,b,_,h=>by simpa [Fw]using h
 |s::l,tk,b,hb,h=>by
  have:=Nz l (by omega:(0:Int)<=b+1) (qh6 s hb h);rw[show b+((s::l).length:Int)=b+1+l.length by simp only[An];omega];exact this
theorem Ur:∀ {tk:List (ByteArray × Int)} {b:Int} (s:ByteArray),0<=b->Uf tk b->0<=Nn tk s/\Nn tk s<=b
 |[],b,s,hb,_=>⟨Ed _,hb⟩
 |y::l,b,s,hb,h=>by
  have hy:=h y (Az ..);simp only[Nn];split
  ·omega
  ·exact Ur s hb fun x hx=>h x (Bb _ hx)
theorem Tm:∀ {tk:List (ByteArray × Int)} {s:ByteArray} {i:Nat} {z:ByteArray × Int},tk[i]? =some z->z.1=s->(∀ j:Nat,j<i->∀ u,tk[j]? =some u->u.1≠s)->Nn tk s=z.2/\tkK (Ms tk s)=tkK tk/\tkV (Ms tk s)=(tkV tk).set i (.int .i64 (z.2+1))
 |[],s,i,z,h,_,_=>by simp at h
 |y::l,s,0,z,h,hz,_=>by
  simp only[List.getElem?_cons_zero,Bf]at h;subst h;simp[Nn,Ms,hz,tkK,tkV]
 |y::l,s,i+1,z,h,hz,hf=>by
  have hy:¬y.1=s:=hf 0 (by omega) y rfl;simp only[List.getElem?_cons_succ]at h;have ih:=Tm h hz fun j hj u hu=>hf (j+1) (by omega) u (by simpa using hu);simp only[Nn,Ms,Ae hy];refine⟨ih.1,?_,?_⟩
  ·have:=ih.2.1;simp only[tkK,Aq]at this ⊢;rw[this]
  ·have:=ih.2.2;simp only[tkV,Aq,List.set_cons_succ]at this ⊢;rw[this]
theorem Sm:∀ {tk:List (ByteArray × Int)} {s:ByteArray},s∉tk.map (·.1)->Nn tk s=0/\tkK (Ms tk s)=tkK tk++[.str s]/\tkV (Ms tk s)=tkV tk++[.int .i64 1]
 |[],s,_=>⟨rfl,rfl,rfl⟩
 |y::l,s,h=>by
  simp only[Aq,Bc,not_or]at h;have ih:=Sm h.2;have hy:¬y.1=s:=fun e=>h.1 e.symm;simp only[Nn,Ms,Ae hy];refine⟨ih.1,?_,?_⟩
  ·have:=ih.2.1;simp only[tkK,Aq,Ac]at this ⊢;rw[this]
  ·have:=ih.2.2;simp only[tkV,Aq,Ac]at this ⊢;rw[this]
end Sc
section
variable {E:Set}{Q:Exit->Sd->Prop}{ops:Array Oper}{draw:Bool}{rest:Todo}{way:Jh}{ty:TypeId}{pos:String}{af:Array Edge}{gd:Option (Nat × Bool)}
variable {env:List (Nat × V)}{H:List (Nat × Ob)}{gl:List (Nat × List D)}{d:Nat}
theorem jq2 {t k e b:Nat}{x y:Operand}{tk:List (ByteArray × Int)}{s:ByteArray}[ht:TMap E.P t k e][hkk:TKey E.P k .str][hz:Jp E.P e (.d (.int .i64 0))](h:TR E draw ops Q rest ⟨(d,.d (.int .i64 (Sc.Nn tk s)))::env,H,gl⟩)(hx:Sd.ev ⟨env,H,gl⟩ x=some (.map b):=by exact rfl)(hox:Cn x=true:=by exact rfl)(hl:look b H=some (.map (Sc.tkK tk) (Sc.tkV tk)):=by exact rfl)(hy:Sd.ev ⟨env,H,gl⟩ y=some (.d (.str s)):=by exact rfl)(hoy:Cn y=true:=by exact rfl)
 (hd:d<E.C.nt:=by exact ltd rfl) (hg:Sd.gd ⟨env,H,gl⟩ ops ⟨some d,.lookup t x y false,ty,pos,af,gd⟩=some true:=by exact rfl) (hw:way.known=false:=by exact rfl):TR E draw ops Q (.step ⟨some d,.lookup t x y false,ty,pos,af,gd⟩ way rest) ⟨env,H,gl⟩:=
 jo2 hx hox hl hy hoy hd hg hw (fun i z h1 h2 h3=>by rw[<-(Sc.Tm h1 h2 h3).1];exact h) (fun hm=>by rw[(Sc.Sm hm).1]at h;exact h)
theorem jq3 {t k e n:Nat}{x y z:Operand}{tk:List (ByteArray × Int)}{s:ByteArray}{c:Int}[ht:TMap E.P t k e][hkk:TKey E.P k .str](h:TR E draw ops Q rest ⟨env,(n,.map (Sc.tkK (Sc.Ms tk s)) (Sc.tkV (Sc.Ms tk s)))::H,gl⟩)(hx:Sd.ev ⟨env,H,gl⟩ x=some (.map n):=by exact rfl)(hox:Cn x=true:=by exact rfl)(hl:look n H=some (.map (Sc.tkK tk) (Sc.tkV tk)):=by exact rfl)(hy:Sd.ev ⟨env,H,gl⟩ y=some (.d (.str s)):=by exact rfl)(hoy:Cn y=true:=by exact rfl)
 (hz:Sd.ev ⟨env,H,gl⟩ z=some (.d (.int .i64 c)):=by exact rfl) (hoz:Cn z=true:=by exact rfl) (hc:c=Sc.Nn tk s+1:=by exact rfl) (hg:Sd.gd ⟨env,H,gl⟩ ops ⟨none,.mapUpdate t x y z,ty,pos,af,gd⟩=some true:=by exact rfl) (hw:Js draw way=true:=by exact rfl):TR E draw ops Q (.step ⟨none,.mapUpdate t x y z,ty,pos,af,gd⟩ way rest) ⟨env,H,gl⟩:=by
 subst hc;refine mb4 (kk:=.str) hx hox hl hy hoy hz hoz (.d _) (.str _ _) hg hw (qg0 _ _) (fun i h1 h2=>?_) (fun hm=>?_)
 ·unfold Sc.tkK at h1 h2;rw[Bp]at h1;cases h3:tk[i]? with
  |none=>rw[h3]at h1;cases h1
  |some u=>
   rw[h3]at h1;simp only[Ey,Bf,D.str.injEq]at h1;have hh:=Sc.Tm h3 h1 fun j hj v hv e=>h2 j hj (by rw[Bp,hv,<-e];rfl);rw[hh.2.1,hh.2.2,<-hh.1]at h;exact h
 ·have hh:=Sc.Sm (tk:=tk) (s:=s) fun hs=>hm (by obtain⟨u,hu,rfl⟩:=Bl.1 hs;exact Bl.2 ⟨u,hu,rfl⟩);rw[hh.2.1,hh.2.2]at h;rw[hh.1];exact h
end
theorem kw2:∀ l:List Pr,Sc.Jz l=l.flatMap Sc.Dt
 |[]=>rfl
 |p::l=>by simp only[Sc.Jz,En,kw2 l]
theorem ms1:∀ l:List Gu,Sc.Ki l=l.flatMap Sc.Jf
 |[]=>rfl
 |p::l=>by simp only[Sc.Ki,En,ms1 l]
theorem jh4 {α:Type}(f:α->List ByteArray)(l:List α)(j:Nat)(hj:j<l.length):(l.take (j+1)).flatMap f=(l.take j).flatMap f++f l[j]:=by
 rw[Ao hj,List.flatMap_append];simp
theorem kk8 {α:Type}(f:α->List ByteArray):∀ (l:List α) (j:Nat),((l.take j).flatMap f).length<=(l.flatMap f).length
 |[],j=>by simp
 |x::l,0=>by simp
 |x::l,j+1=>by
  have:=kk8 f l j;simp only[Fc,En,Ag];omega
attribute [local irreducible] TR TC
theorem qx5 (p:Pr)(σ:Sc.W)(B:Int)(hB:0<=B)(hin:Sc.Uf σ.tk B)(hr:B+(Sc.Dt p).length<1000000000000000000)
 (ih:∀ x:Pr,(x∈p.l\/x∈p.spec.body\/∃ g∈p.guards,x∈g.body)->∀ (L:List ByteArray),L.length+(Sc.Dt x).length<=(Sc.Dt p).length->FnE prog (glS mm) 36 [.ptr 900 0,.d (dPr x)] (HW .none {σ with tk:=Sc.Fw σ.tk L}) (fun v H1=>v=.tup []/\H1=HW .none {σ with tk:=Sc.Fw σ.tk (L++Sc.Dt x)})):
 FnE prog (glS mm) 36 [.ptr 900 0,.d (dPr p)] (HW .none σ) (fun v H1=>v=.tup []/\H1=HW .none {σ with tk:=Sc.Fw σ.tk (Sc.Dt p)}):=by
 obtain⟨T,hT⟩:∃ T,T=Sc.Dt p:=⟨_,rfl⟩;have hTp:T=p.spec.proto.l.map (·.tag)++(p.spec.body.flatMap Sc.Dt++(p.guards.flatMap Sc.Jf++p.l.flatMap Sc.Dt)):=by
  rw[hT];obtain⟨kind,name,chan,targets,exprs,rep,guards,l,procs,⟨sk,st,sn,se,spp,sf,sb⟩⟩:=p;simp only[Sc.Dt,kw2,ms1,Pr.spec,Pr.guards,Pr.l,Sp.proto,Sp.body]
 rw[<-hT]at hr ih ⊢;have hTl:T.length=p.spec.proto.l.length+((p.spec.body.flatMap Sc.Dt).length+((p.guards.flatMap Sc.Jf).length+(p.l.flatMap Sc.Dt).length)):=by
  rw[hTp];simp only[Ag,Ab]
 have hcnt:∀ (L:List ByteArray) (s:ByteArray),L.length<=T.length->0<=Sc.Nn (Sc.Fw σ.tk L) s/\Sc.Nn (Sc.Fw σ.tk L) s<1000000000000000000:=fun L s hL=>by
  have h1:=Sc.Ur s (by omega) (Sc.Nz L hB hin);omega
 dsimp only[HW,ja0,z6]at ih ⊢;rw[j9]
 (refine j2 func36 ntmps36 results36 fun w M E b0=>?_)
 simp only[Aq,Ax]
 (repeat' first|refine Ca 3 ?_;(refine Cq 1003 ?_)|refine yyp ?_;try refine Ce ?_ ?_<;>intro hb|refine yy ?_|refine at_nil ?_;refine Cc Ny ?_|refine Cb fun K hK=>?_|refine Cf 4 ?_;refine j0 [8] jb9 ?_|refine Cf 14 ?_;refine j0 [8] jb9 ?_|apply_assumption -exfalso -symm)
 obtain⟨L1,hL1⟩:∃ L,L=p.spec.proto.l.map (·.tag):=⟨_,rfl⟩;obtain⟨L2,hL2⟩:∃ L,L=p.spec.body.flatMap Sc.Dt:=⟨_,rfl⟩;obtain⟨L3,hL3⟩:∃ L,L=p.guards.flatMap Sc.Jf:=⟨_,rfl⟩;obtain⟨L4,hL4⟩:∃ L,L=p.l.flatMap Sc.Dt:=⟨_,rfl⟩;have hl1:L1.length=p.spec.proto.l.length:=by rw[hL1,Ab]
 rw[<-hL1,<-hL2,<-hL3,<-hL4]at hTp;rw[<-hL2,<-hL3,<-hL4]at hTl;refine j6 [5,19,20,21,22,23,24,25,26,27,28,29,30,31] [902] (fun j:Nat=>[(19,.d (.int .i64 j))]) (fun j=>[(902,.map (Sc.tkK (Sc.Fw σ.tk ((p.spec.proto.l.take j).map (·.tag)))) (Sc.tkV (Sc.Fw σ.tk ((p.spec.proto.l.take j).map (·.tag)))))]) (fun j=>j<=p.spec.proto.l.length) (fun j=>p.spec.proto.l.length - j) 0 (Ai _) fun j hj=>?_;dsimp only[Ac,Af];rcases Ah j p.spec.proto.l.length with hj2|hj2
 ·have hc1:=hcnt ((p.spec.proto.l.take j).map (·.tag)) (p.spec.proto.l[j]).tag (by simp only[Ab,Aj];omega)
  (repeat' first|refine Ca 5 ?_;(refine j3 1105 ?_)|refine Ca 29 ?_;(refine jq2 ?_)|refine jg0 8 ?_;(refine jq3 ?_)|refine yyp ?_;try refine Ce ?_ ?_<;>intro hb|refine yy ?_|refine at_nil ?_;refine Cc Ny ?_|refine Cb fun K hK=>?_|refine Cf 4 ?_;refine j0 [8] jb9 ?_|refine Cf 14 ?_;refine j0 [8] jb9 ?_|apply_assumption -exfalso -symm)
  refine⟨j+1,by omega,by omega,?_⟩;rw[Ao hj2,As,Aq,Ax,Sc.Sz];exact k8
 obtain rfl:j=p.spec.proto.l.length:=by omega
 rw[Bg,<-hL1];simp only[j9]at ih
 (repeat' first|refine yyp ?_;try refine Ce ?_ ?_<;>intro hb|refine yy ?_|refine at_nil ?_;refine Cc Ny ?_|refine Cb fun K hK=>?_|refine Cf 4 ?_;refine j0 [8] jb9 ?_|refine Cf 14 ?_;refine j0 [8] jb9 ?_|apply_assumption -exfalso -symm)
 rw[j9];refine j8 34 rfl fun hsm2=>?_;simp only[Ab]at hsm2;refine j6 ([1,17,18,19,20]++[7,36,37,38,39,40,41,42,43]) [902] (fun j:Nat=>[(36,.d (.int .i64 j))]) (fun j=>[(902,.map (Sc.tkK (Sc.Fw (Sc.Fw σ.tk L1) ((p.spec.body.take j).flatMap Sc.Dt))) (Sc.tkV (Sc.Fw (Sc.Fw σ.tk L1) ((p.spec.body.take j).flatMap Sc.Dt))))]) (fun j=>j<=p.spec.body.length) (fun j=>p.spec.body.length - j) 0 (Ai _) fun j hj=>?_;dsimp only[Ac,Af];rcases Ah j p.spec.body.length with hj2|hj2
 ·have hone:=ih p.spec.body[j] (.inr (.inl (Aw hj2))) (L1++(p.spec.body.take j).flatMap Sc.Dt) (by
   have h1:=kk8 Sc.Dt p.spec.body (j+1);rw[jh4 Sc.Dt _ _ hj2,<-hL2,Ag]at h1;rw[Ag];omega)
  simp only[Sc.Jq]at hone
  (repeat' first|refine Ca 7 ?_;(refine j3 1107 ?_)|refine Ca 42 ?_;refine Cg (hc:=hone) ?_|refine yyp ?_;try refine Ce ?_ ?_<;>intro hb|refine yy ?_|refine at_nil ?_;refine Cc Ny ?_|refine Cb fun K hK=>?_|refine Cf 4 ?_;refine j0 [8] jb9 ?_|refine Cf 14 ?_;refine j0 [8] jb9 ?_|apply_assumption -exfalso -symm)
  refine⟨j+1,by omega,by omega,?_⟩;rw[jh4 Sc.Dt _ _ hj2,Sc.Jq];exact k8
 obtain rfl:j=p.spec.body.length:=by omega
 rw[Bg,<-hL2]
 (repeat' first|refine yyp ?_;try refine Ce ?_ ?_<;>intro hb|refine yy ?_|refine at_nil ?_;refine Cc Ny ?_|refine Cb fun K hK=>?_|refine Cf 4 ?_;refine j0 [8] jb9 ?_|refine Cf 14 ?_;refine j0 [8] jb9 ?_|apply_assumption -exfalso -symm)
 rw[jd7];refine j8 45 rfl fun hsm4=>?_;simp only[Ab]at hsm4;refine j6 ([1,34,35,36,37]++[9,11,47,48,49,50,51,52,53,54,55,56,57,58,59,60,61,62,63,64,65,66,67,68,69,70]) [902] (fun j:Nat=>[(47,.d (.int .i64 j))]) (fun j=>[(902,.map (Sc.tkK (Sc.Fw (Sc.Fw (Sc.Fw σ.tk L1) L2) ((p.guards.take j).flatMap Sc.Jf))) (Sc.tkV (Sc.Fw (Sc.Fw (Sc.Fw σ.tk L1) L2) ((p.guards.take j).flatMap Sc.Jf))))]) (fun j=>j<=p.guards.length) (fun j=>p.guards.length - j) 0 (Ai _) fun j hj=>?_;dsimp only[Ac,Af];rcases Ah j p.guards.length with hj2|hj2
 ·have hgl:=kk8 Sc.Jf p.guards (j+1);have hgt:Sc.Jf p.guards[j]=p.guards[j].name::p.guards[j].body.flatMap Sc.Dt:=by
   cases p.guards[j];simp only[Sc.Jf,kw2,Gu.name,Gu.body]
  rw[jh4 Sc.Jf _ _ hj2,<-hL3,Ag,hgt,An]at hgl;have hc1:=hcnt (L1++(L2++(p.guards.take j).flatMap Sc.Jf)) p.guards[j].name (by rw[Ag,Ag];omega);simp only[Sc.Jq]at hc1
  (repeat' first|refine Ca 9 ?_;(refine j3 1109 ?_)|refine Ca 57 ?_;(refine jq2 ?_)|refine jg0 8 ?_;(refine jq3 ?_)|refine yyp ?_;try refine Ce ?_ ?_<;>intro hb|refine yy ?_|refine at_nil ?_;refine Cc Ny ?_|refine Cb fun K hK=>?_|refine Cf 4 ?_;refine j0 [8] jb9 ?_|refine Cf 14 ?_;refine j0 [8] jb9 ?_|apply_assumption -exfalso -symm)
  rw[j9];refine j8 60 rfl fun hsm6=>?_;simp only[Ab]at hsm6;refine j6 ([52,53,54,55,56,57,58,51]++[11,62,63,64,65,66,67,68,69]) [902] (fun i:Nat=>[(62,.d (.int .i64 i))]) (fun i=>[(902,.map (Sc.tkK (Sc.Fw (Sc.Ms (Sc.Fw (Sc.Fw (Sc.Fw σ.tk L1) L2) ((p.guards.take j).flatMap Sc.Jf)) p.guards[j].name) ((p.guards[j].body.take i).flatMap Sc.Dt))) (Sc.tkV (Sc.Fw (Sc.Ms (Sc.Fw (Sc.Fw (Sc.Fw σ.tk L1) L2) ((p.guards.take j).flatMap Sc.Jf)) p.guards[j].name) ((p.guards[j].body.take i).flatMap Sc.Dt))))]) (fun i=>i<=p.guards[j].body.length) (fun i=>p.guards[j].body.length - i) 0 (Ai _) fun i hi=>?_;dsimp only[Ac,Af];rcases Ah i p.guards[j].body.length with hi2|hi2
  ·have hone:=ih p.guards[j].body[i] (.inr (.inr ⟨p.guards[j],Aw hj2,Aw hi2⟩)) (L1++(L2++((p.guards.take j).flatMap Sc.Jf++([p.guards[j].name]++(p.guards[j].body.take i).flatMap Sc.Dt)))) (by
    have h1:=kk8 Sc.Dt p.guards[j].body (i+1);rw[jh4 Sc.Dt _ _ hi2,Ag]at h1;simp only[Ag,An,Av];omega)
   simp only[Sc.Jq]at hone
   (repeat' first|refine Ca 11 ?_;(refine j3 1211 ?_)|refine Ca 68 ?_;refine Cg (hc:=hone) ?_|refine yyp ?_;try refine Ce ?_ ?_<;>intro hb|refine yy ?_|refine at_nil ?_;refine Cc Ny ?_|refine Cb fun K hK=>?_|refine Cf 4 ?_;refine j0 [8] jb9 ?_|refine Cf 14 ?_;refine j0 [8] jb9 ?_|apply_assumption -exfalso -symm)
   refine⟨i+1,by omega,by omega,?_⟩;rw[jh4 Sc.Dt _ _ hi2,Sc.Jq];exact k8
  obtain rfl:i=p.guards[j].body.length:=by omega
  rw[Bg]
  (repeat' first|refine yyp ?_;try refine Ce ?_ ?_<;>intro hb|refine yy ?_|refine at_nil ?_;refine Cc Ny ?_|refine Cb fun K hK=>?_|refine Cf 4 ?_;refine j0 [8] jb9 ?_|refine Cf 14 ?_;refine j0 [8] jb9 ?_|apply_assumption -exfalso -symm)
  refine⟨j+1,by omega,by omega,?_⟩;rw[jh4 Sc.Jf _ _ hj2,Sc.Jq,hgt];exact k8
 obtain rfl:j=p.guards.length:=by omega
 rw[Bg,<-hL3]
 (repeat' first|refine yyp ?_;try refine Ce ?_ ?_<;>intro hb|refine yy ?_|refine at_nil ?_;refine Cc Ny ?_|refine Cb fun K hK=>?_|refine Cf 4 ?_;refine j0 [8] jb9 ?_|refine Cf 14 ?_;refine j0 [8] jb9 ?_|apply_assumption -exfalso -symm)
 refine j8 72 rfl fun hsm8=>?_;simp only[Ab]at hsm8;refine j6 ([1,45,46,47,48]++[13,74,75,76,77,78,79,80,81]) [902] (fun j:Nat=>[(74,.d (.int .i64 j))]) (fun j=>[(902,.map (Sc.tkK (Sc.Fw (Sc.Fw (Sc.Fw (Sc.Fw σ.tk L1) L2) L3) ((p.l.take j).flatMap Sc.Dt))) (Sc.tkV (Sc.Fw (Sc.Fw (Sc.Fw (Sc.Fw σ.tk L1) L2) L3) ((p.l.take j).flatMap Sc.Dt))))]) (fun j=>j<=p.l.length) (fun j=>p.l.length - j) 0 (Ai _) fun j hj=>?_;dsimp only[Ac,Af];rcases Ah j p.l.length with hj2|hj2
 ·have hone:=ih p.l[j] (.inl (Aw hj2)) (L1++(L2++(L3++(p.l.take j).flatMap Sc.Dt))) (by
   have h1:=kk8 Sc.Dt p.l (j+1);rw[jh4 Sc.Dt _ _ hj2,<-hL4,Ag]at h1;simp only[Ag];omega)
  simp only[Sc.Jq]at hone
  (repeat' first|refine Ca 13 ?_;(refine j3 1113 ?_)|refine Ca 80 ?_;refine Cg (hc:=hone) ?_|refine yyp ?_;try refine Ce ?_ ?_<;>intro hb|refine yy ?_|refine at_nil ?_;refine Cc Ny ?_|refine Cb fun K hK=>?_|refine Cf 4 ?_;refine j0 [8] jb9 ?_|refine Cf 14 ?_;refine j0 [8] jb9 ?_|apply_assumption -exfalso -symm)
  refine⟨j+1,by omega,by omega,?_⟩;rw[jh4 Sc.Dt _ _ hj2,Sc.Jq];exact k8
 obtain rfl:j=p.l.length:=by omega
 rw[Bg,<-hL4]
 (repeat' first|refine yyp ?_;try refine Ce ?_ ?_<;>intro hb|refine yy ?_|refine at_nil ?_;refine Cc Ny ?_|refine Cb fun K hK=>?_|refine Cf 4 ?_;refine j0 [8] jb9 ?_|refine Cf 14 ?_;refine j0 [8] jb9 ?_|apply_assumption -exfalso -symm)
 rw[hTp];simp only[Sc.Jq];exact g8 ⟨rfl,rfl⟩
theorem qx6:∀ (n:Nat) (p:Pr),SizeOf.sizeOf p<=n->∀ (σ:Sc.W) (B:Int),0<=B->Sc.Uf σ.tk B->B+(Sc.Dt p).length<1000000000000000000->
 FnE prog (glS mm) 36 [.ptr 900 0,.d (dPr p)] (HW .none σ) (fun v H1=>v=.tup []/\H1=HW .none {σ with tk:=Sc.Fw σ.tk (Sc.Dt p)}):=by
 intro n
 induction n with
 |zero=>intro p h;cases p;simp only[Pr.mk.sizeOf_spec]at h;omega
 |succ n ih=>
  intro p hp σ B hB hin hr;refine qx5 p σ B hB hin hr fun x hx L hL=>?_;have hxs:SizeOf.sizeOf x<=n:=by
   rcases hx with hx|hx|⟨g,hg,hx⟩
   ·have:=rt4 hx;omega
   ·have:=rt6 hx;omega
   ·have:=rt5 hg hx;omega
  have h:=ih x hxs {σ with tk:=Sc.Fw σ.tk L} (B+L.length) (by omega) (Sc.Nz L hB hin) (by omega);rw[Sc.Jq];exact h
end
section
def Sy:List Nat:=[0,1,2,3,4,5,6,7,8,10,17,27,31,32,33,34,45]
variable {mm:Int}
namespace Sc
noncomputable def Dx (p:Pr):List (ByteArray × Int):=Fw (Fw [] (Cx p)) (Dt p)
noncomputable def Dc (p:Pr):Pr:=(Fx (start (Dx p)) p).1
structure Can (p:Pr):Prop where
 ok:Sn p
 cap:kx1 p
 fit0:(start []).fit (prN p+1)
 fit1:(start (Dx p)).fit (prN p+1)
 tags:(Cx p).length+(Dt p).length<100000000000000000
end Sc
attribute [local irreducible] TR TC
theorem qh7 (p:Pr)(hw:Lx.He p=true->Sc.Can p):
 FnD prog (glS mm) 12 [.d (dPr p)] (fun v=>v=.tup [.d (dPr (if Lx.He p=true/\(Sc.Ij p (Sc.Cx p)).2=0 then Sc.Dc p else pr0)),.d (.int .i64 (if Lx.He p=true then (Sc.Ij p (Sc.Cx p)).2 else 2))]):=by
 have c1:=qh3 (mm:=mm) p fun h=>⟨(hw h).ok,(hw h).cap,(hw h).fit0⟩;have c2:=qx2 (mm:=mm) p (Sc.Cx p) fun h=>⟨(hw h).ok,(hw h).cap,(hw h).fit0⟩;by_cases hm:Lx.He p=true
 ·have hc:=hw hm;rw[Ad hm]at c1 c2 ⊢;rw[Ad hm]at c1 c2;by_cases he:(Sc.Ij p (Sc.Cx p)).2=0
  ·rw[Ad ⟨hm,he⟩];rw[he]at c2 ⊢;have hft:=hc.tags;have c3:=jl6 (glS mm) .none [];have hin0:Sc.Uf ([]:List (ByteArray × Int)) 0:=fun x hx=>by cases hx
   have hin:=Sc.Nz (Sc.Cx p) (Ed 0) hin0;have c4:=qx6 (mm:=mm) _ p (Au _) (Sc.start (Sc.Fw [] (Sc.Cx p))) (0+(Sc.Cx p).length) (by omega) hin (by omega);have c5:=kg7 (mm:=mm) .none _ p (Au _) hc.ok hc.cap (Sc.start (Sc.Dx p)) hc.fit1;have hcnt:∀ (L:List ByteArray) (s:ByteArray),0<=Sc.Nn (Sc.Fw [] L) s/\Sc.Nn (Sc.Fw [] L) s<=L.length:=fun L s=>by
    have:=Sc.Ur s (by omega:(0:Int)<=0+L.length) (Sc.Nz L (Ed 0) hin0);omega
   dsimp only[HW,ja0,z6,Sc.start]at c3 c4 c5;rw[show Sc.Fw (Sc.Fw [] (Sc.Cx p)) (Sc.Dt p)=Sc.Dx p from rfl]at c4;have hU:Sc.Dc p=(Sc.Fx {env:=fun _=>[],tk:=Sc.Dx p,count:=0,ev:=[]} p).1:=rfl;rw[hU];obtain⟨r,hr⟩:∃ r,r=Sc.Fx {env:=fun _=>[],tk:=Sc.Dx p,count:=0,ev:=[]} p:=⟨_,rfl⟩;rw[<-hr]at c5 ⊢;clear hr hU hw hin hc;simp only[j9]at c1 c2 c4 c5 ⊢
   (refine j7 func12 ntmps12 results12 fun w M=>?_)
   (repeat' first|refine Ca 1 ?_;(refine Cq 1001 ?_)|refine Ca 2 ?_;(refine j3 1002 ?_)|refine Ca 30 ?_;refine Cg (hc:=c3) ?_|refine yyp ?_;try refine Ce ?_ ?_<;>intro hb|refine yy ?_|refine Ch 10 ?_;refine Ck (hc:=c1) ?_|refine Ch 34 ?_;refine Ck (hc:=c2) ?_|refine at_nil ?_;refine Cc Sy ?_|refine Cb fun K hK=>?_|apply_assumption -exfalso -symm)
   refine j8 31 rfl fun hsm=>?_;simp only[Ab]at hsm;refine j6 [10,33,34,35,36,37,38,39,40,41,42,43,44] [902] (fun j:Nat=>[(33,.d (.int .i64 j))]) (fun j=>[(902,.map (Sc.tkK (Sc.Fw [] ((Sc.Cx p).take j))) (Sc.tkV (Sc.Fw [] ((Sc.Cx p).take j))))]) (fun j=>j<=(Sc.Cx p).length) (fun j=>(Sc.Cx p).length - j) 0 (Ai _) fun j hj=>?_;dsimp only[Ac,Af];rcases Ah j (Sc.Cx p).length with hj2|hj2
   ·have hc1:=hcnt ((Sc.Cx p).take j) (Sc.Cx p)[j];rw[Aj]at hc1
    (repeat' first|refine Ca 42 ?_;(refine jq2 ?_)|refine jg0 7 ?_;(refine jq3 ?_)|refine yyp ?_;try refine Ce ?_ ?_<;>intro hb|refine yy ?_|refine at_nil ?_;refine Cc Sy ?_|refine Cb fun K hK=>?_|apply_assumption -exfalso -symm)
    refine⟨j+1,by omega,by omega,?_⟩;rw[Ao hj2,Sc.Sz];exact k8
   obtain rfl:j=(Sc.Cx p).length:=by omega
   rw[Bg]
   (repeat' first|refine Ca 47 ?_;refine Cg (hc:=c4) ?_|refine Ca 50 ?_;refine Cg (hc:=c5) ?_|refine yyp ?_;try refine Ce ?_ ?_<;>intro hb|refine yy ?_|refine at_nil ?_;refine Cc Sy ?_|refine Cb fun K hK=>?_|apply_assumption -exfalso -symm)
   (refine j1 (k7 ?_))
   rfl
  ·rw[Ae fun h=>he h.2];simp only[j9]at c1 c2 ⊢
   (refine j7 func12 ntmps12 results12 fun w M=>?_)
   (repeat' first|refine Ca 1 ?_;(refine Cq 1001 ?_)|refine Ca 2 ?_;(refine j3 1002 ?_)|refine Ca 28 ?_;refine z_p Dk ?_|refine yyp ?_;try refine Ce ?_ ?_<;>intro hb|refine yy ?_|refine Ch 10 ?_;refine Ck (hc:=c1) ?_|refine Ch 34 ?_;refine Ck (hc:=c2) ?_|refine at_nil ?_;refine Cc Sy ?_|refine Cb fun K hK=>?_|apply_assumption -exfalso -symm)
   all_goals first
    |(exfalso;exact he (by assumption))
    |((refine j1 (k7 ?_))
      rfl)
 ·rw[Ae hm]at c1;rw[Ae hm]at c1;rw[Ae fun h=>hm h.1,Ae hm];simp only[j9]at c1 ⊢
  (refine j7 func12 ntmps12 results12 fun w M=>?_)
  (repeat' first|refine Ca 1 ?_;(refine Cq 1001 ?_)|refine Ca 2 ?_;(refine j3 1002 ?_)|refine Ca 18 ?_;refine z_p Dk ?_|refine yyp ?_;try refine Ce ?_ ?_<;>intro hb|refine yy ?_|refine Ch 10 ?_;refine Ck (hc:=c1) ?_|refine at_nil ?_;refine Cc Sy ?_|refine Cb fun K hK=>?_|apply_assumption -exfalso -symm)
  all_goals first
   |((refine j1 (k7 ?_))
     rfl)
end
section
variable {mm:Int}
namespace Sc
noncomputable def Ht (p:Pr):Int:=if Lx.He p=true then (Ij p (Cx p)).2 else 2
open Classical in
noncomputable def Vf (p:Pr):Pr:=if Lx.He p=true/\(Ij p (Cx p)).2=0 then Dc p else pr0
end Sc
theorem my3 (p:Pr)(hw:Lx.He p=true->Sc.Can p):FnD prog (glS mm) 12 [.d (dPr p)] (fun v=>v=.tup [.d (dPr (Sc.Vf p)),.d (.int .i64 (Sc.Ht p))]):=by
 have h:=qh7 (mm:=mm) p hw;unfold Sc.Vf Sc.Ht;by_cases h1:Lx.He p=true/\(Sc.Ij p (Sc.Cx p)).2=0
 ·rw[Ad h1]at h ⊢;exact h
 ·rw[Ae h1]at h ⊢;exact h
end
end Go.Proofs.YtklklgfpkpglgaaGreatDoor
