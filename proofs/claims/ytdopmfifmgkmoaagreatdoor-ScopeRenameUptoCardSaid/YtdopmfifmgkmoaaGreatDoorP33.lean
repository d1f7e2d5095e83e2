/- Parts: S44, S45, S46. -/
import Derived.Test.YtdopmfifmgkmoaaGreatDoorP32
set_option linter.all false
set_option maxRecDepth 100000
set_option maxHeartbeats 16000000
namespace Go.Proofs.YtdopmfifmgkmoaaGreatDoor
open Go.RowKit Go.Proofs.Tryz
section
def jo2:List Nat:=[0,1,3,5,7,9,11,13,17,18,19,20,34,35,36,37,45,46,47,48,60,61,62,63,72,73,74,75]
def jc2:Plan:=lin [0,4,8,16,13,21,25,28,35]
variable {mm:Int}
namespace Sc
open Classical in
noncomputable def Mx:List (ByteArray × Int)->ByteArray->List (ByteArray × Int)
 |[],s=>[(s,1)]
 |x::l,s=>if x.1=s then (x.1,x.2+1)::l else x::Mx l s
open Classical in
noncomputable def Nv:List (ByteArray × Int)->ByteArray->Int
 |[],_=>0
 |x::l,s=>if x.1=s then x.2 else Nv l s
noncomputable def Fw (tk:List (ByteArray × Int))(l:List ByteArray):List (ByteArray × Int):=l.foldl Mx tk
theorem Ju (tk:List (ByteArray × Int))(l m:List ByteArray):Fw tk (l++m)=Fw (Fw tk l) m:=List.foldl_append ..
theorem Tw (tk:List (ByteArray × Int))(l:List ByteArray)(s:ByteArray):Fw tk (l++[s])=Mx (Fw tk l) s:=by rw[Ju];rfl
def Ux (tk:List (ByteArray × Int))(b:Int):Prop:=∀ x∈tk,0<x.2/\x.2<=b
theorem qc8:∀ {tk:List (ByteArray × Int)} {b:Int} (s:ByteArray),0<=b->Ux tk b->Ux (Mx tk s) (b+1)
 |[],b,s,hb,_,x,hx=>by
  simp only[Mx,Em]at hx;subst hx;exact⟨by dsimp only;omega,by dsimp only;omega⟩
 |y::l,b,s,hb,h,x,hx=>by
  have hy:=h y (Bi ..);simp only[Mx]at hx;split at hx
  ·rcases Bf.1 hx with rfl|hx
   ·exact⟨by dsimp only;omega,by dsimp only;omega⟩
   ·have:=h x (Bk _ hx);exact⟨this.1,by omega⟩
  ·rcases Bf.1 hx with rfl|hx
   ·exact⟨hy.1,by omega⟩
   ·exact qc8 s hb (fun x hx=>h x (Bk _ hx)) x hx
theorem Oa:∀ (l:List ByteArray) {tk:List (ByteArray × Int)} {b:Int},0<=b->Ux tk b->Ux (Fw tk l) (b+l.length)
 |[],tk,b,_,h=>by simpa [Fw]using h
 |s::l,tk,b,hb,h=>by
  have:=Oa l (by omega:(0:Int)<=b+1) (qc8 s hb h);rw[show b+((s::l).length:Int)=b+1+l.length by simp only[Ai];omega];exact this
theorem Wj:∀ {tk:List (ByteArray × Int)} {b:Int} (s:ByteArray),0<=b->Ux tk b->0<=Nv tk s/\Nv tk s<=b
 |[],b,s,hb,_=>⟨Int.le_refl _,hb⟩
 |y::l,b,s,hb,h=>by
  have hy:=h y (Bi ..);simp only[Nv];split
  ·omega
  ·exact Wj s hb fun x hx=>h x (Bk _ hx)
theorem Uy:∀ {tk:List (ByteArray × Int)} {s:ByteArray} {i:Nat} {z:ByteArray × Int},tk[i]? =some z->z.1=s->(∀ j:Nat,j<i->∀ u,tk[j]? =some u->u.1≠s)->Nv tk s=z.2/\tkK (Mx tk s)=tkK tk/\tkV (Mx tk s)=(tkV tk).set i (.int .i64 (z.2+1))
 |[],s,i,z,h,_,_=>by simp at h
 |y::l,s,0,z,h,hz,_=>by
  simp only[List.getElem?_cons_zero,Bm]at h;subst h;simp[Nv,Mx,hz,tkK,tkV]
 |y::l,s,i+1,z,h,hz,hf=>by
  have hy:¬y.1=s:=hf 0 (by omega) y rfl;simp only[List.getElem?_cons_succ]at h;have ih:=Uy h hz fun j hj u hu=>hf (j+1) (by omega) u (by simpa using hu);simp only[Nv,Mx,Af hy];refine⟨ih.1,?_,?_⟩
  ·have:=ih.2.1;simp only[tkK,Am]at this ⊢;rw[this]
  ·have:=ih.2.2;simp only[tkV,Am,List.set_cons_succ]at this ⊢;rw[this]
theorem Tv:∀ {tk:List (ByteArray × Int)} {s:ByteArray},s∉tk.map (·.1)->Nv tk s=0/\tkK (Mx tk s)=tkK tk++[.str s]/\tkV (Mx tk s)=tkV tk++[.int .i64 1]
 |[],s,_=>⟨rfl,rfl,rfl⟩
 |y::l,s,h=>by
  simp only[Am,Bf,not_or]at h;have ih:=Tv h.2;have hy:¬y.1=s:=fun e=>h.1 e.symm;simp only[Nv,Mx,Af hy];refine⟨ih.1,?_,?_⟩
  ·have:=ih.2.1;simp only[tkK,Am,Ac]at this ⊢;rw[this]
  ·have:=ih.2.2;simp only[tkV,Am,Ac]at this ⊢;rw[this]
end Sc
section
variable {E:Set}{Q:Exit->Sd->Prop}{ops:Array Oper}{draw:Bool}{rest:Todo}{way:Kt}{ty:TypeId}{pos:String}{af:Array Edge}{gd:Option (Nat × Bool)}
variable {env:List (Nat × V)}{H:List (Nat × Ob)}{gl:List (Nat × List D)}{d:Nat}
theorem jo3 {t k e b:Nat}{x y:Operand}{tk:List (ByteArray × Int)}{s:ByteArray}[ht:TMap E.P t k e][hkk:TKey E.P k .str][hz:Om E.P e (.d (.int .i64 0))](h:TR E draw ops Q rest ⟨(d,.d (.int .i64 (Sc.Nv tk s)))::env,H,gl⟩)(hx:Sd.ev ⟨env,H,gl⟩ x=some (.map b):=by exact rfl)(hox:Cw x=true:=by exact rfl)(hl:look b H=some (.map (Sc.tkK tk) (Sc.tkV tk)):=by exact rfl)(hy:Sd.ev ⟨env,H,gl⟩ y=some (.d (.str s)):=by exact rfl)(hoy:Cw y=true:=by exact rfl)
 (hd:d<E.C.nt:=by exact ltd rfl) (hg:Sd.gd ⟨env,H,gl⟩ ops ⟨some d,.lookup t x y false,ty,pos,af,gd⟩=some true:=by exact rfl) (hw:way.known=false:=by exact rfl):TR E draw ops Q (.step ⟨some d,.lookup t x y false,ty,pos,af,gd⟩ way rest) ⟨env,H,gl⟩:=
 jm7 hx hox hl hy hoy hd hg hw (fun i z h1 h2 h3=>by rw[<-(Sc.Uy h1 h2 h3).1];exact h) (fun hm=>by rw[(Sc.Tv hm).1]at h;exact h)
theorem jo4 {t k e n:Nat}{x y z:Operand}{tk:List (ByteArray × Int)}{s:ByteArray}{c:Int}[ht:TMap E.P t k e][hkk:TKey E.P k .str](h:TR E draw ops Q rest ⟨env,(n,.map (Sc.tkK (Sc.Mx tk s)) (Sc.tkV (Sc.Mx tk s)))::H,gl⟩)(hx:Sd.ev ⟨env,H,gl⟩ x=some (.map n):=by exact rfl)(hox:Cw x=true:=by exact rfl)(hl:look n H=some (.map (Sc.tkK tk) (Sc.tkV tk)):=by exact rfl)(hy:Sd.ev ⟨env,H,gl⟩ y=some (.d (.str s)):=by exact rfl)(hoy:Cw y=true:=by exact rfl)
 (hz:Sd.ev ⟨env,H,gl⟩ z=some (.d (.int .i64 c)):=by exact rfl) (hoz:Cw z=true:=by exact rfl) (hc:c=Sc.Nv tk s+1:=by exact rfl) (hg:Sd.gd ⟨env,H,gl⟩ ops ⟨none,.mapUpdate t x y z,ty,pos,af,gd⟩=some true:=by exact rfl) (hw:Mr draw way=true:=by exact rfl):TR E draw ops Q (.step ⟨none,.mapUpdate t x y z,ty,pos,af,gd⟩ way rest) ⟨env,H,gl⟩:=by
 subst hc;refine jc9 (kk:=.str) hx hox hl hy hoy hz hoz (.d _) (.str _ _) hg hw (qb3 _ _) (fun i h1 h2=>?_) (fun hm=>?_)
 ·unfold Sc.tkK at h1 h2;rw[Bx]at h1;cases h3:tk[i]? with
  |none=>rw[h3]at h1;cases h1
  |some u=>
   rw[h3]at h1;simp only[Fl,Bm,D.str.injEq]at h1;have hh:=Sc.Uy h3 h1 fun j hj v hv e=>h2 j hj (by rw[Bx,hv,<-e];rfl);rw[hh.2.1,hh.2.2,<-hh.1]at h;exact h
 ·have hh:=Sc.Tv (tk:=tk) (s:=s) fun hs=>hm (by obtain⟨u,hu,rfl⟩:=Bs.1 hs;exact Bs.2 ⟨u,hu,rfl⟩);rw[hh.2.1,hh.2.2]at h;rw[hh.1];exact h
end
theorem ks9:∀ l:List Pr,Sc.Du l=l.flatMap Sc.Dk
 |[]=>rfl
 |p::l=>by simp only[Sc.Du,List.flatMap_cons,ks9 l]
theorem ml5:∀ l:List Gu,Sc.Gb l=l.flatMap Sc.Jw
 |[]=>rfl
 |p::l=>by simp only[Sc.Gb,List.flatMap_cons,ml5 l]
theorem jg2 {α:Type}(f:α->List ByteArray)(l:List α)(j:Nat)(hj:j<l.length):(l.take (j+1)).flatMap f=(l.take j).flatMap f++f l[j]:=by
 rw[Ba hj,List.flatMap_append];simp
theorem kh2 {α:Type}(f:α->List ByteArray):∀ (l:List α) (j:Nat),((l.take j).flatMap f).length<=(l.flatMap f).length
 |[],j=>by simp
 |x::l,0=>by simp
 |x::l,j+1=>by
  have:=kh2 f l j;simp only[Eg,List.flatMap_cons,Ag];omega
attribute [local irreducible] TR TC
theorem qq4 (p:Pr)(σ:Sc.W)(B:Int)(hB:0<=B)(hin:Sc.Ux σ.tk B)(hr:B+(Sc.Dk p).length<1000000000000000000)
 (ih:∀ x:Pr,(x∈p.l\/x∈p.spec.body\/∃ g∈p.guards,x∈g.body)->∀ (L:List ByteArray),L.length+(Sc.Dk x).length<=(Sc.Dk p).length->FnE prog (glS mm) 43 [.ptr 900 0,.d (dPr x)] (HW .none {σ with tk:=Sc.Fw σ.tk L}) (fun v H1=>v=.tup []/\H1=HW .none {σ with tk:=Sc.Fw σ.tk (L++Sc.Dk x)})):
 FnE prog (glS mm) 43 [.ptr 900 0,.d (dPr p)] (HW .none σ) (fun v H1=>v=.tup []/\H1=HW .none {σ with tk:=Sc.Fw σ.tk (Sc.Dk p)}):=by
 obtain⟨T,hT⟩:∃ T,T=Sc.Dk p:=⟨_,rfl⟩;have hTp:T=p.spec.proto.l.map (·.tag)++(p.spec.body.flatMap Sc.Dk++(p.guards.flatMap Sc.Jw++p.l.flatMap Sc.Dk)):=by
  rw[hT];obtain⟨kind,name,chan,targets,exprs,rep,guards,l,procs,⟨sk,st,sn,se,spp,sf,sb⟩⟩:=p;simp only[Sc.Dk,ks9,ml5,Pr.spec,Pr.guards,Pr.l,Sp.proto,Sp.body]
 rw[<-hT]at hr ih ⊢;have hTl:T.length=p.spec.proto.l.length+((p.spec.body.flatMap Sc.Dk).length+((p.guards.flatMap Sc.Jw).length+(p.l.flatMap Sc.Dk).length)):=by
  rw[hTp];simp only[Ag,Aa]
 have hcnt:∀ (L:List ByteArray) (s:ByteArray),L.length<=T.length->0<=Sc.Nv (Sc.Fw σ.tk L) s/\Sc.Nv (Sc.Fw σ.tk L) s<1000000000000000000:=fun L s hL=>by
  have h1:=Sc.Wj s (by omega) (Sc.Oa L hB hin);omega
 dsimp only[HW,ja4,n6]at ih ⊢;rw[v8]
 (refine j4 func43 ntmps43 results43 fun w M E b0=>?_)
 simp only[Am,Aw]
 (repeat' first|refine Ca 3 ?_;(refine j6 1003 ?_)|refine Ca 5 ?_;(refine Cj 1005 ?_)|refine Ca 7 ?_;(refine Cj 1007 ?_)|refine Ca 9 ?_;(refine Cj 1009 ?_)|refine Ca 11 ?_;(refine Cj 1011 ?_)|refine Ca 13 ?_;(refine Cj 1013 ?_)|refine yyp ?_;try refine Cc ?_ ?_<;>intro hb|refine yy ?_|refine yy2 ?_ ?_<;>intro hcmp|refine at_lookup ?_;(first|(refine s_lookup_d rfl rfl rfl rfl (by first|exact Comp.int ..|exact Comp.str ..|exact Comp.agg (by(repeat (first|exact EqC.nil|apply EqC.int|apply EqC.bool|apply EqC.str));fail_if_success intros)) (ltd rfl) rfl rfl (by(assumption)) (by(simp)) (fun ki kz hki hkz hkf=>?_) (fun hmiss=>?_))|(refine jc8 rfl rfl rfl rfl rfl (by first|exact Comp.int ..|exact Comp.str ..|exact Comp.agg (by(repeat (first|exact EqC.nil|apply EqC.int|apply EqC.bool|apply EqC.str));fail_if_success intros)) (ltd rfl) rfl rfl (by(assumption)) (by(simp)) (fun ki kz hki hkz hkf=>?_) (fun hmiss=>?_)))|refine jc9 rfl rfl rfl rfl rfl rfl rfl (by first|exact ToD.d _|exact ToD.nils _|exact ToD.own rfl) (by first|exact Comp.int ..|exact Comp.str ..|exact Comp.agg (by(repeat (first|exact EqC.nil|apply EqC.int|apply EqC.bool|apply EqC.str));fail_if_success intros)) rfl rfl (by(assumption)) (fun ki hki hkf=>?_) (fun hmiss=>?_)|refine at_nil ?_;refine Ce jo2 ?_|refine Cb fun K hK=>?_|refine Ck 4 ?_;refine j1 [8] jc2 ?_|refine Ck 14 ?_;refine j1 [8] jc2 ?_|apply_assumption -exfalso -symm)
 obtain⟨L1,hL1⟩:∃ L,L=p.spec.proto.l.map (·.tag):=⟨_,rfl⟩;obtain⟨L2,hL2⟩:∃ L,L=p.spec.body.flatMap Sc.Dk:=⟨_,rfl⟩;obtain⟨L3,hL3⟩:∃ L,L=p.guards.flatMap Sc.Jw:=⟨_,rfl⟩;obtain⟨L4,hL4⟩:∃ L,L=p.l.flatMap Sc.Dk:=⟨_,rfl⟩;have hl1:L1.length=p.spec.proto.l.length:=by rw[hL1,Aa]
 rw[<-hL1,<-hL2,<-hL3,<-hL4]at hTp;rw[<-hL2,<-hL3,<-hL4]at hTl;refine j8 [5,19,20,21,22,23,24,25,26,27,28,29,30,31] [902] (fun j:Nat=>[(19,.d (.int .i64 j))]) (fun j=>[(902,.map (Sc.tkK (Sc.Fw σ.tk ((p.spec.proto.l.take j).map (·.tag)))) (Sc.tkV (Sc.Fw σ.tk ((p.spec.proto.l.take j).map (·.tag)))))]) (fun j=>j<=p.spec.proto.l.length) (fun j=>p.spec.proto.l.length - j) 0 (Ak _) fun j hj=>?_;dsimp only[Ac,Ad];rcases Ah j p.spec.proto.l.length with hj2|hj2
 ·have hc1:=hcnt ((p.spec.proto.l.take j).map (·.tag)) (p.spec.proto.l[j]).tag (by simp only[Aa,Aj];omega)
  (repeat' first|refine Ca 3 ?_;(refine j6 1103 ?_)|refine Ca 5 ?_;(refine Cj 1105 ?_)|refine Ca 29 ?_;(refine jo3 ?_)|refine jr6 8 ?_;(refine jo4 ?_)|refine Ca 7 ?_;(refine Cj 1107 ?_)|refine Ca 9 ?_;(refine Cj 1109 ?_)|refine Ca 11 ?_;(refine Cj 1111 ?_)|refine Ca 13 ?_;(refine Cj 1113 ?_)|refine yyp ?_;try refine Cc ?_ ?_<;>intro hb|refine yy ?_|refine yy2 ?_ ?_<;>intro hcmp|refine at_lookup ?_;(first|(refine s_lookup_d rfl rfl rfl rfl (by first|exact Comp.int ..|exact Comp.str ..|exact Comp.agg (by(repeat (first|exact EqC.nil|apply EqC.int|apply EqC.bool|apply EqC.str));fail_if_success intros)) (ltd rfl) rfl rfl (by(assumption)) (by(simp)) (fun ki kz hki hkz hkf=>?_) (fun hmiss=>?_))|(refine jc8 rfl rfl rfl rfl rfl (by first|exact Comp.int ..|exact Comp.str ..|exact Comp.agg (by(repeat (first|exact EqC.nil|apply EqC.int|apply EqC.bool|apply EqC.str));fail_if_success intros)) (ltd rfl) rfl rfl (by(assumption)) (by(simp)) (fun ki kz hki hkz hkf=>?_) (fun hmiss=>?_)))|refine jc9 rfl rfl rfl rfl rfl rfl rfl (by first|exact ToD.d _|exact ToD.nils _|exact ToD.own rfl) (by first|exact Comp.int ..|exact Comp.str ..|exact Comp.agg (by(repeat (first|exact EqC.nil|apply EqC.int|apply EqC.bool|apply EqC.str));fail_if_success intros)) rfl rfl (by(assumption)) (fun ki hki hkf=>?_) (fun hmiss=>?_)|refine at_nil ?_;refine Ce jo2 ?_|refine Cb fun K hK=>?_|refine Ck 4 ?_;refine j1 [8] jc2 ?_|refine Ck 14 ?_;refine j1 [8] jc2 ?_|apply_assumption -exfalso -symm)
  refine⟨j+1,by omega,by omega,?_⟩;rw[Ba hj2,Ap,Am,Aw,Sc.Tw];exact v6
 obtain rfl:j=p.spec.proto.l.length:=by omega
 rw[Au,<-hL1];simp only[v8]at ih
 (repeat' first|refine Ca 3 ?_;(refine j6 3 ?_)|refine Ca 5 ?_;(refine Cj 5 ?_)|refine Ca 7 ?_;(refine Cj 7 ?_)|refine Ca 9 ?_;(refine Cj 9 ?_)|refine Ca 11 ?_;(refine Cj 11 ?_)|refine Ca 13 ?_;(refine Cj 13 ?_)|refine yyp ?_;try refine Cc ?_ ?_<;>intro hb|refine yy ?_|refine yy2 ?_ ?_<;>intro hcmp|refine at_lookup ?_;(first|(refine s_lookup_d rfl rfl rfl rfl (by first|exact Comp.int ..|exact Comp.str ..|exact Comp.agg (by(repeat (first|exact EqC.nil|apply EqC.int|apply EqC.bool|apply EqC.str));fail_if_success intros)) (ltd rfl) rfl rfl (by(assumption)) (by(simp)) (fun ki kz hki hkz hkf=>?_) (fun hmiss=>?_))|(refine jc8 rfl rfl rfl rfl rfl (by first|exact Comp.int ..|exact Comp.str ..|exact Comp.agg (by(repeat (first|exact EqC.nil|apply EqC.int|apply EqC.bool|apply EqC.str));fail_if_success intros)) (ltd rfl) rfl rfl (by(assumption)) (by(simp)) (fun ki kz hki hkz hkf=>?_) (fun hmiss=>?_)))|refine jc9 rfl rfl rfl rfl rfl rfl rfl (by first|exact ToD.d _|exact ToD.nils _|exact ToD.own rfl) (by first|exact Comp.int ..|exact Comp.str ..|exact Comp.agg (by(repeat (first|exact EqC.nil|apply EqC.int|apply EqC.bool|apply EqC.str));fail_if_success intros)) rfl rfl (by(assumption)) (fun ki hki hkf=>?_) (fun hmiss=>?_)|refine at_nil ?_;refine Ce jo2 ?_|refine Cb fun K hK=>?_|refine Ck 4 ?_;refine j1 [8] jc2 ?_|refine Ck 14 ?_;refine j1 [8] jc2 ?_|apply_assumption -exfalso -symm)
 rw[v8];refine r7 34 rfl fun hsm2=>?_;simp only[Aa]at hsm2;refine j8 ([1,17,18,19,20]++[7,36,37,38,39,40,41,42,43]) [902] (fun j:Nat=>[(36,.d (.int .i64 j))]) (fun j=>[(902,.map (Sc.tkK (Sc.Fw (Sc.Fw σ.tk L1) ((p.spec.body.take j).flatMap Sc.Dk))) (Sc.tkV (Sc.Fw (Sc.Fw σ.tk L1) ((p.spec.body.take j).flatMap Sc.Dk))))]) (fun j=>j<=p.spec.body.length) (fun j=>p.spec.body.length - j) 0 (Ak _) fun j hj=>?_;dsimp only[Ac,Ad];rcases Ah j p.spec.body.length with hj2|hj2
 ·have hone:=ih p.spec.body[j] (.inr (.inl (Ar hj2))) (L1++(p.spec.body.take j).flatMap Sc.Dk) (by
   have h1:=kh2 Sc.Dk p.spec.body (j+1);rw[jg2 Sc.Dk _ _ hj2,<-hL2,Ag]at h1;rw[Ag];omega)
  simp only[Sc.Ju]at hone
  (repeat' first|refine Ca 3 ?_;(refine j6 1103 ?_)|refine Ca 5 ?_;(refine Cj 1105 ?_)|refine Ca 7 ?_;(refine Cj 1107 ?_)|refine Ca 42 ?_;refine Ch (hc:=hone) ?_|refine Ca 9 ?_;(refine Cj 1109 ?_)|refine Ca 11 ?_;(refine Cj 1111 ?_)|refine Ca 13 ?_;(refine Cj 1113 ?_)|refine yyp ?_;try refine Cc ?_ ?_<;>intro hb|refine yy ?_|refine yy2 ?_ ?_<;>intro hcmp|refine at_lookup ?_;(first|(refine s_lookup_d rfl rfl rfl rfl (by first|exact Comp.int ..|exact Comp.str ..|exact Comp.agg (by(repeat (first|exact EqC.nil|apply EqC.int|apply EqC.bool|apply EqC.str));fail_if_success intros)) (ltd rfl) rfl rfl (by(assumption)) (by(simp)) (fun ki kz hki hkz hkf=>?_) (fun hmiss=>?_))|(refine jc8 rfl rfl rfl rfl rfl (by first|exact Comp.int ..|exact Comp.str ..|exact Comp.agg (by(repeat (first|exact EqC.nil|apply EqC.int|apply EqC.bool|apply EqC.str));fail_if_success intros)) (ltd rfl) rfl rfl (by(assumption)) (by(simp)) (fun ki kz hki hkz hkf=>?_) (fun hmiss=>?_)))|refine jc9 rfl rfl rfl rfl rfl rfl rfl (by first|exact ToD.d _|exact ToD.nils _|exact ToD.own rfl) (by first|exact Comp.int ..|exact Comp.str ..|exact Comp.agg (by(repeat (first|exact EqC.nil|apply EqC.int|apply EqC.bool|apply EqC.str));fail_if_success intros)) rfl rfl (by(assumption)) (fun ki hki hkf=>?_) (fun hmiss=>?_)|refine at_nil ?_;refine Ce jo2 ?_|refine Cb fun K hK=>?_|refine Ck 4 ?_;refine j1 [8] jc2 ?_|refine Ck 14 ?_;refine j1 [8] jc2 ?_|apply_assumption -exfalso -symm)
  refine⟨j+1,by omega,by omega,?_⟩;rw[jg2 Sc.Dk _ _ hj2,Sc.Ju];exact v6
 obtain rfl:j=p.spec.body.length:=by omega
 rw[Au,<-hL2]
 (repeat' first|refine Ca 3 ?_;(refine j6 3 ?_)|refine Ca 5 ?_;(refine Cj 5 ?_)|refine Ca 7 ?_;(refine Cj 7 ?_)|refine Ca 9 ?_;(refine Cj 9 ?_)|refine Ca 11 ?_;(refine Cj 11 ?_)|refine Ca 13 ?_;(refine Cj 13 ?_)|refine yyp ?_;try refine Cc ?_ ?_<;>intro hb|refine yy ?_|refine yy2 ?_ ?_<;>intro hcmp|refine at_lookup ?_;(first|(refine s_lookup_d rfl rfl rfl rfl (by first|exact Comp.int ..|exact Comp.str ..|exact Comp.agg (by(repeat (first|exact EqC.nil|apply EqC.int|apply EqC.bool|apply EqC.str));fail_if_success intros)) (ltd rfl) rfl rfl (by(assumption)) (by(simp)) (fun ki kz hki hkz hkf=>?_) (fun hmiss=>?_))|(refine jc8 rfl rfl rfl rfl rfl (by first|exact Comp.int ..|exact Comp.str ..|exact Comp.agg (by(repeat (first|exact EqC.nil|apply EqC.int|apply EqC.bool|apply EqC.str));fail_if_success intros)) (ltd rfl) rfl rfl (by(assumption)) (by(simp)) (fun ki kz hki hkz hkf=>?_) (fun hmiss=>?_)))|refine jc9 rfl rfl rfl rfl rfl rfl rfl (by first|exact ToD.d _|exact ToD.nils _|exact ToD.own rfl) (by first|exact Comp.int ..|exact Comp.str ..|exact Comp.agg (by(repeat (first|exact EqC.nil|apply EqC.int|apply EqC.bool|apply EqC.str));fail_if_success intros)) rfl rfl (by(assumption)) (fun ki hki hkf=>?_) (fun hmiss=>?_)|refine at_nil ?_;refine Ce jo2 ?_|refine Cb fun K hK=>?_|refine Ck 4 ?_;refine j1 [8] jc2 ?_|refine Ck 14 ?_;refine j1 [8] jc2 ?_|apply_assumption -exfalso -symm)
 rw[je9];refine r7 45 rfl fun hsm4=>?_;simp only[Aa]at hsm4;refine j8 ([1,34,35,36,37]++[9,11,47,48,49,50,51,52,53,54,55,56,57,58,59,60,61,62,63,64,65,66,67,68,69,70]) [902] (fun j:Nat=>[(47,.d (.int .i64 j))]) (fun j=>[(902,.map (Sc.tkK (Sc.Fw (Sc.Fw (Sc.Fw σ.tk L1) L2) ((p.guards.take j).flatMap Sc.Jw))) (Sc.tkV (Sc.Fw (Sc.Fw (Sc.Fw σ.tk L1) L2) ((p.guards.take j).flatMap Sc.Jw))))]) (fun j=>j<=p.guards.length) (fun j=>p.guards.length - j) 0 (Ak _) fun j hj=>?_;dsimp only[Ac,Ad];rcases Ah j p.guards.length with hj2|hj2
 ·have hgl:=kh2 Sc.Jw p.guards (j+1);have hgt:Sc.Jw p.guards[j]=p.guards[j].name::p.guards[j].body.flatMap Sc.Dk:=by
   cases p.guards[j];simp only[Sc.Jw,ks9,Gu.name,Gu.body]
  rw[jg2 Sc.Jw _ _ hj2,<-hL3,Ag,hgt,Ai]at hgl;have hc1:=hcnt (L1++(L2++(p.guards.take j).flatMap Sc.Jw)) p.guards[j].name (by rw[Ag,Ag];omega);simp only[Sc.Ju]at hc1
  (repeat' first|refine Ca 3 ?_;(refine j6 1103 ?_)|refine Ca 5 ?_;(refine Cj 1105 ?_)|refine Ca 7 ?_;(refine Cj 1107 ?_)|refine Ca 9 ?_;(refine Cj 1109 ?_)|refine Ca 57 ?_;(refine jo3 ?_)|refine jr6 8 ?_;(refine jo4 ?_)|refine Ca 11 ?_;(refine Cj 1111 ?_)|refine Ca 13 ?_;(refine Cj 1113 ?_)|refine yyp ?_;try refine Cc ?_ ?_<;>intro hb|refine yy ?_|refine yy2 ?_ ?_<;>intro hcmp|refine at_lookup ?_;(first|(refine s_lookup_d rfl rfl rfl rfl (by first|exact Comp.int ..|exact Comp.str ..|exact Comp.agg (by(repeat (first|exact EqC.nil|apply EqC.int|apply EqC.bool|apply EqC.str));fail_if_success intros)) (ltd rfl) rfl rfl (by(assumption)) (by(simp)) (fun ki kz hki hkz hkf=>?_) (fun hmiss=>?_))|(refine jc8 rfl rfl rfl rfl rfl (by first|exact Comp.int ..|exact Comp.str ..|exact Comp.agg (by(repeat (first|exact EqC.nil|apply EqC.int|apply EqC.bool|apply EqC.str));fail_if_success intros)) (ltd rfl) rfl rfl (by(assumption)) (by(simp)) (fun ki kz hki hkz hkf=>?_) (fun hmiss=>?_)))|refine jc9 rfl rfl rfl rfl rfl rfl rfl (by first|exact ToD.d _|exact ToD.nils _|exact ToD.own rfl) (by first|exact Comp.int ..|exact Comp.str ..|exact Comp.agg (by(repeat (first|exact EqC.nil|apply EqC.int|apply EqC.bool|apply EqC.str));fail_if_success intros)) rfl rfl (by(assumption)) (fun ki hki hkf=>?_) (fun hmiss=>?_)|refine at_nil ?_;refine Ce jo2 ?_|refine Cb fun K hK=>?_|refine Ck 4 ?_;refine j1 [8] jc2 ?_|refine Ck 14 ?_;refine j1 [8] jc2 ?_|apply_assumption -exfalso -symm)
  rw[v8];refine r7 60 rfl fun hsm6=>?_;simp only[Aa]at hsm6;refine j8 ([52,53,54,55,56,57,58,51]++[11,62,63,64,65,66,67,68,69]) [902] (fun i:Nat=>[(62,.d (.int .i64 i))]) (fun i=>[(902,.map (Sc.tkK (Sc.Fw (Sc.Mx (Sc.Fw (Sc.Fw (Sc.Fw σ.tk L1) L2) ((p.guards.take j).flatMap Sc.Jw)) p.guards[j].name) ((p.guards[j].body.take i).flatMap Sc.Dk))) (Sc.tkV (Sc.Fw (Sc.Mx (Sc.Fw (Sc.Fw (Sc.Fw σ.tk L1) L2) ((p.guards.take j).flatMap Sc.Jw)) p.guards[j].name) ((p.guards[j].body.take i).flatMap Sc.Dk))))]) (fun i=>i<=p.guards[j].body.length) (fun i=>p.guards[j].body.length - i) 0 (Ak _) fun i hi=>?_;dsimp only[Ac,Ad];rcases Ah i p.guards[j].body.length with hi2|hi2
  ·have hone:=ih p.guards[j].body[i] (.inr (.inr ⟨p.guards[j],Ar hj2,Ar hi2⟩)) (L1++(L2++((p.guards.take j).flatMap Sc.Jw++([p.guards[j].name]++(p.guards[j].body.take i).flatMap Sc.Dk)))) (by
    have h1:=kh2 Sc.Dk p.guards[j].body (i+1);rw[jg2 Sc.Dk _ _ hi2,Ag]at h1;simp only[Ag,Ai,Aq];omega)
   simp only[Sc.Ju]at hone
   (repeat' first|refine Ca 3 ?_;(refine j6 1203 ?_)|refine Ca 5 ?_;(refine Cj 1205 ?_)|refine Ca 7 ?_;(refine Cj 1207 ?_)|refine Ca 9 ?_;(refine Cj 1209 ?_)|refine Ca 11 ?_;(refine Cj 1211 ?_)|refine Ca 68 ?_;refine Ch (hc:=hone) ?_|refine Ca 13 ?_;(refine Cj 1213 ?_)|refine yyp ?_;try refine Cc ?_ ?_<;>intro hb|refine yy ?_|refine yy2 ?_ ?_<;>intro hcmp|refine at_lookup ?_;(first|(refine s_lookup_d rfl rfl rfl rfl (by first|exact Comp.int ..|exact Comp.str ..|exact Comp.agg (by(repeat (first|exact EqC.nil|apply EqC.int|apply EqC.bool|apply EqC.str));fail_if_success intros)) (ltd rfl) rfl rfl (by(assumption)) (by(simp)) (fun ki kz hki hkz hkf=>?_) (fun hmiss=>?_))|(refine jc8 rfl rfl rfl rfl rfl (by first|exact Comp.int ..|exact Comp.str ..|exact Comp.agg (by(repeat (first|exact EqC.nil|apply EqC.int|apply EqC.bool|apply EqC.str));fail_if_success intros)) (ltd rfl) rfl rfl (by(assumption)) (by(simp)) (fun ki kz hki hkz hkf=>?_) (fun hmiss=>?_)))|refine jc9 rfl rfl rfl rfl rfl rfl rfl (by first|exact ToD.d _|exact ToD.nils _|exact ToD.own rfl) (by first|exact Comp.int ..|exact Comp.str ..|exact Comp.agg (by(repeat (first|exact EqC.nil|apply EqC.int|apply EqC.bool|apply EqC.str));fail_if_success intros)) rfl rfl (by(assumption)) (fun ki hki hkf=>?_) (fun hmiss=>?_)|refine at_nil ?_;refine Ce jo2 ?_|refine Cb fun K hK=>?_|refine Ck 4 ?_;refine j1 [8] jc2 ?_|refine Ck 14 ?_;refine j1 [8] jc2 ?_|apply_assumption -exfalso -symm)
   refine⟨i+1,by omega,by omega,?_⟩;rw[jg2 Sc.Dk _ _ hi2,Sc.Ju];exact v6
  obtain rfl:i=p.guards[j].body.length:=by omega
  rw[Au]
  (repeat' first|refine Ca 3 ?_;(refine j6 3 ?_)|refine Ca 5 ?_;(refine Cj 5 ?_)|refine Ca 7 ?_;(refine Cj 7 ?_)|refine Ca 9 ?_;(refine Cj 9 ?_)|refine Ca 11 ?_;(refine Cj 11 ?_)|refine Ca 13 ?_;(refine Cj 13 ?_)|refine yyp ?_;try refine Cc ?_ ?_<;>intro hb|refine yy ?_|refine yy2 ?_ ?_<;>intro hcmp|refine at_lookup ?_;(first|(refine s_lookup_d rfl rfl rfl rfl (by first|exact Comp.int ..|exact Comp.str ..|exact Comp.agg (by(repeat (first|exact EqC.nil|apply EqC.int|apply EqC.bool|apply EqC.str));fail_if_success intros)) (ltd rfl) rfl rfl (by(assumption)) (by(simp)) (fun ki kz hki hkz hkf=>?_) (fun hmiss=>?_))|(refine jc8 rfl rfl rfl rfl rfl (by first|exact Comp.int ..|exact Comp.str ..|exact Comp.agg (by(repeat (first|exact EqC.nil|apply EqC.int|apply EqC.bool|apply EqC.str));fail_if_success intros)) (ltd rfl) rfl rfl (by(assumption)) (by(simp)) (fun ki kz hki hkz hkf=>?_) (fun hmiss=>?_)))|refine jc9 rfl rfl rfl rfl rfl rfl rfl (by first|exact ToD.d _|exact ToD.nils _|exact ToD.own rfl) (by first|exact Comp.int ..|exact Comp.str ..|exact Comp.agg (by(repeat (first|exact EqC.nil|apply EqC.int|apply EqC.bool|apply EqC.str));fail_if_success intros)) rfl rfl (by(assumption)) (fun ki hki hkf=>?_) (fun hmiss=>?_)|refine at_nil ?_;refine Ce jo2 ?_|refine Cb fun K hK=>?_|refine Ck 4 ?_;refine j1 [8] jc2 ?_|refine Ck 14 ?_;refine j1 [8] jc2 ?_|apply_assumption -exfalso -symm)
  refine⟨j+1,by omega,by omega,?_⟩;rw[jg2 Sc.Jw _ _ hj2,Sc.Ju,hgt];exact v6
 obtain rfl:j=p.guards.length:=by omega
 rw[Au,<-hL3]
 (repeat' first|refine Ca 3 ?_;(refine j6 3 ?_)|refine Ca 5 ?_;(refine Cj 5 ?_)|refine Ca 7 ?_;(refine Cj 7 ?_)|refine Ca 9 ?_;(refine Cj 9 ?_)|refine Ca 11 ?_;(refine Cj 11 ?_)|refine Ca 13 ?_;(refine Cj 13 ?_)|refine yyp ?_;try refine Cc ?_ ?_<;>intro hb|refine yy ?_|refine yy2 ?_ ?_<;>intro hcmp|refine at_lookup ?_;(first|(refine s_lookup_d rfl rfl rfl rfl (by first|exact Comp.int ..|exact Comp.str ..|exact Comp.agg (by(repeat (first|exact EqC.nil|apply EqC.int|apply EqC.bool|apply EqC.str));fail_if_success intros)) (ltd rfl) rfl rfl (by(assumption)) (by(simp)) (fun ki kz hki hkz hkf=>?_) (fun hmiss=>?_))|(refine jc8 rfl rfl rfl rfl rfl (by first|exact Comp.int ..|exact Comp.str ..|exact Comp.agg (by(repeat (first|exact EqC.nil|apply EqC.int|apply EqC.bool|apply EqC.str));fail_if_success intros)) (ltd rfl) rfl rfl (by(assumption)) (by(simp)) (fun ki kz hki hkz hkf=>?_) (fun hmiss=>?_)))|refine jc9 rfl rfl rfl rfl rfl rfl rfl (by first|exact ToD.d _|exact ToD.nils _|exact ToD.own rfl) (by first|exact Comp.int ..|exact Comp.str ..|exact Comp.agg (by(repeat (first|exact EqC.nil|apply EqC.int|apply EqC.bool|apply EqC.str));fail_if_success intros)) rfl rfl (by(assumption)) (fun ki hki hkf=>?_) (fun hmiss=>?_)|refine at_nil ?_;refine Ce jo2 ?_|refine Cb fun K hK=>?_|refine Ck 4 ?_;refine j1 [8] jc2 ?_|refine Ck 14 ?_;refine j1 [8] jc2 ?_|apply_assumption -exfalso -symm)
 refine r7 72 rfl fun hsm8=>?_;simp only[Aa]at hsm8;refine j8 ([1,45,46,47,48]++[13,74,75,76,77,78,79,80,81]) [902] (fun j:Nat=>[(74,.d (.int .i64 j))]) (fun j=>[(902,.map (Sc.tkK (Sc.Fw (Sc.Fw (Sc.Fw (Sc.Fw σ.tk L1) L2) L3) ((p.l.take j).flatMap Sc.Dk))) (Sc.tkV (Sc.Fw (Sc.Fw (Sc.Fw (Sc.Fw σ.tk L1) L2) L3) ((p.l.take j).flatMap Sc.Dk))))]) (fun j=>j<=p.l.length) (fun j=>p.l.length - j) 0 (Ak _) fun j hj=>?_;dsimp only[Ac,Ad];rcases Ah j p.l.length with hj2|hj2
 ·have hone:=ih p.l[j] (.inl (Ar hj2)) (L1++(L2++(L3++(p.l.take j).flatMap Sc.Dk))) (by
   have h1:=kh2 Sc.Dk p.l (j+1);rw[jg2 Sc.Dk _ _ hj2,<-hL4,Ag]at h1;simp only[Ag];omega)
  simp only[Sc.Ju]at hone
  (repeat' first|refine Ca 3 ?_;(refine j6 1103 ?_)|refine Ca 5 ?_;(refine Cj 1105 ?_)|refine Ca 7 ?_;(refine Cj 1107 ?_)|refine Ca 9 ?_;(refine Cj 1109 ?_)|refine Ca 11 ?_;(refine Cj 1111 ?_)|refine Ca 13 ?_;(refine Cj 1113 ?_)|refine Ca 80 ?_;refine Ch (hc:=hone) ?_|refine yyp ?_;try refine Cc ?_ ?_<;>intro hb|refine yy ?_|refine yy2 ?_ ?_<;>intro hcmp|refine at_lookup ?_;(first|(refine s_lookup_d rfl rfl rfl rfl (by first|exact Comp.int ..|exact Comp.str ..|exact Comp.agg (by(repeat (first|exact EqC.nil|apply EqC.int|apply EqC.bool|apply EqC.str));fail_if_success intros)) (ltd rfl) rfl rfl (by(assumption)) (by(simp)) (fun ki kz hki hkz hkf=>?_) (fun hmiss=>?_))|(refine jc8 rfl rfl rfl rfl rfl (by first|exact Comp.int ..|exact Comp.str ..|exact Comp.agg (by(repeat (first|exact EqC.nil|apply EqC.int|apply EqC.bool|apply EqC.str));fail_if_success intros)) (ltd rfl) rfl rfl (by(assumption)) (by(simp)) (fun ki kz hki hkz hkf=>?_) (fun hmiss=>?_)))|refine jc9 rfl rfl rfl rfl rfl rfl rfl (by first|exact ToD.d _|exact ToD.nils _|exact ToD.own rfl) (by first|exact Comp.int ..|exact Comp.str ..|exact Comp.agg (by(repeat (first|exact EqC.nil|apply EqC.int|apply EqC.bool|apply EqC.str));fail_if_success intros)) rfl rfl (by(assumption)) (fun ki hki hkf=>?_) (fun hmiss=>?_)|refine at_nil ?_;refine Ce jo2 ?_|refine Cb fun K hK=>?_|refine Ck 4 ?_;refine j1 [8] jc2 ?_|refine Ck 14 ?_;refine j1 [8] jc2 ?_|apply_assumption -exfalso -symm)
  refine⟨j+1,by omega,by omega,?_⟩;rw[jg2 Sc.Dk _ _ hj2,Sc.Ju];exact v6
 obtain rfl:j=p.l.length:=by omega
 rw[Au,<-hL4]
 (repeat' first|refine Ca 3 ?_;(refine j6 3 ?_)|refine Ca 5 ?_;(refine Cj 5 ?_)|refine Ca 7 ?_;(refine Cj 7 ?_)|refine Ca 9 ?_;(refine Cj 9 ?_)|refine Ca 11 ?_;(refine Cj 11 ?_)|refine Ca 13 ?_;(refine Cj 13 ?_)|refine yyp ?_;try refine Cc ?_ ?_<;>intro hb|refine yy ?_|refine yy2 ?_ ?_<;>intro hcmp|refine at_lookup ?_;(first|(refine s_lookup_d rfl rfl rfl rfl (by first|exact Comp.int ..|exact Comp.str ..|exact Comp.agg (by(repeat (first|exact EqC.nil|apply EqC.int|apply EqC.bool|apply EqC.str));fail_if_success intros)) (ltd rfl) rfl rfl (by(assumption)) (by(simp)) (fun ki kz hki hkz hkf=>?_) (fun hmiss=>?_))|(refine jc8 rfl rfl rfl rfl rfl (by first|exact Comp.int ..|exact Comp.str ..|exact Comp.agg (by(repeat (first|exact EqC.nil|apply EqC.int|apply EqC.bool|apply EqC.str));fail_if_success intros)) (ltd rfl) rfl rfl (by(assumption)) (by(simp)) (fun ki kz hki hkz hkf=>?_) (fun hmiss=>?_)))|refine jc9 rfl rfl rfl rfl rfl rfl rfl (by first|exact ToD.d _|exact ToD.nils _|exact ToD.own rfl) (by first|exact Comp.int ..|exact Comp.str ..|exact Comp.agg (by(repeat (first|exact EqC.nil|apply EqC.int|apply EqC.bool|apply EqC.str));fail_if_success intros)) rfl rfl (by(assumption)) (fun ki hki hkf=>?_) (fun hmiss=>?_)|refine at_nil ?_;refine Ce jo2 ?_|refine Cb fun K hK=>?_|refine Ck 4 ?_;refine j1 [8] jc2 ?_|refine Ck 14 ?_;refine j1 [8] jc2 ?_|apply_assumption -exfalso -symm)
 rw[hTp];simp only[Sc.Ju];exact je0 ⟨rfl,rfl⟩
theorem qq5:∀ (n:Nat) (p:Pr),SizeOf.sizeOf p<=n->∀ (σ:Sc.W) (B:Int),0<=B->Sc.Ux σ.tk B->B+(Sc.Dk p).length<1000000000000000000->
 FnE prog (glS mm) 43 [.ptr 900 0,.d (dPr p)] (HW .none σ) (fun v H1=>v=.tup []/\H1=HW .none {σ with tk:=Sc.Fw σ.tk (Sc.Dk p)}):=by
 intro n
 induction n with
 |zero=>intro p h;cases p;simp only[Pr.mk.sizeOf_spec]at h;omega
 |succ n ih=>
  intro p hp σ B hB hin hr;refine qq4 p σ B hB hin hr fun x hx L hL=>?_;have hxs:SizeOf.sizeOf x<=n:=by
   rcases hx with hx|hx|⟨g,hg,hx⟩
   ·have:=mv0 hx;omega
   ·have:=mv2 hx;omega
   ·have:=mv1 hg hx;omega
  have h:=ih x hxs {σ with tk:=Sc.Fw σ.tk L} (B+L.length) (by omega) (Sc.Oa L hB hin) (by omega);rw[Sc.Ju];exact h
end
section
def Tj:List Nat:=[0,1,2,3,4,5,6,7,8,10,17,27,31,32,33,34,45]
variable {mm:Int}
namespace Sc
noncomputable def Km (p:Pr):List (ByteArray × Int):=Fw (Fw [] (Dl p)) (Dk p)
noncomputable def Qm (p:Pr):Pr:=(Fv (start (Km p)) p).1
structure Can (p:Pr):Prop where
 ok:Ry p
 cap:kc2 p
 fit0:(start []).fit (prN p+1)
 fit1:(start (Km p)).fit (prN p+1)
 tags:(Dl p).length+(Dk p).length<100000000000000000
end Sc
attribute [local irreducible] TR TC
theorem qc9 (p:Pr)(hw:Lx.Dz p=true->Sc.Can p):
 FnD prog (glS mm) 18 [.d (dPr p)] (fun v=>v=.tup [.d (dPr (if Lx.Dz p=true/\(Sc.Hq p (Sc.Dl p)).2=0 then Sc.Qm p else pr0)),.d (.int .i64 (if Lx.Dz p=true then (Sc.Hq p (Sc.Dl p)).2 else 2))]):=by
 have c1:=qc7 (mm:=mm) p fun h=>⟨(hw h).ok,(hw h).cap,(hw h).fit0⟩;have c2:=ml4 (mm:=mm) p (Sc.Dl p) fun h=>⟨(hw h).ok,(hw h).cap,(hw h).fit0⟩;by_cases hm:Lx.Dz p=true
 ·have hc:=hw hm;rw[Ae hm]at c1 c2 ⊢;rw[Ae hm]at c1 c2;by_cases he:(Sc.Hq p (Sc.Dl p)).2=0
  ·rw[Ae ⟨hm,he⟩];rw[he]at c2 ⊢;have hft:=hc.tags;have c3:=jo1 (glS mm) .none [];have hin0:Sc.Ux ([]:List (ByteArray × Int)) 0:=fun x hx=>by cases hx
   have hin:=Sc.Oa (Sc.Dl p) (Int.le_refl 0) hin0;have c4:=qq5 (mm:=mm) _ p (As _) (Sc.start (Sc.Fw [] (Sc.Dl p))) (0+(Sc.Dl p).length) (by omega) hin (by omega);have c5:=ks7 (mm:=mm) .none _ p (As _) hc.ok hc.cap (Sc.start (Sc.Km p)) hc.fit1;have hcnt:∀ (L:List ByteArray) (s:ByteArray),0<=Sc.Nv (Sc.Fw [] L) s/\Sc.Nv (Sc.Fw [] L) s<=L.length:=fun L s=>by
    have:=Sc.Wj s (by omega:(0:Int)<=0+L.length) (Sc.Oa L (Int.le_refl 0) hin0);omega
   dsimp only[HW,ja4,n6,Sc.start]at c3 c4 c5;rw[show Sc.Fw (Sc.Fw [] (Sc.Dl p)) (Sc.Dk p)=Sc.Km p from rfl]at c4;have hU:Sc.Qm p=(Sc.Fv {env:=fun _=>[],tk:=Sc.Km p,count:=0,ev:=[]} p).1:=rfl;rw[hU];obtain⟨r,hr⟩:∃ r,r=Sc.Fv {env:=fun _=>[],tk:=Sc.Km p,count:=0,ev:=[]} p:=⟨_,rfl⟩;rw[<-hr]at c5 ⊢;clear hr hU hw hin hc;simp only[v8]at c1 c2 c4 c5 ⊢
   (refine j3 func18 ntmps18 results18 fun w M=>?_)
   (repeat' first|refine Ca 1 ?_;(refine j6 1001 ?_)|refine Ca 2 ?_;(refine Cj 1002 ?_)|refine Ca 30 ?_;refine Ch (hc:=c3) ?_|refine yyp ?_;try refine Cc ?_ ?_<;>intro hb|refine yy ?_|refine Cf 12 ?_;refine Cg (hc:=c1) ?_|refine Cf 15 ?_;refine Cg (hc:=c2) ?_|refine at_nil ?_;refine Ce Tj ?_|refine Cb fun K hK=>?_|apply_assumption -exfalso -symm)
   refine r7 31 rfl fun hsm=>?_;simp only[Aa]at hsm;refine j8 [10,33,34,35,36,37,38,39,40,41,42,43,44] [902] (fun j:Nat=>[(33,.d (.int .i64 j))]) (fun j=>[(902,.map (Sc.tkK (Sc.Fw [] ((Sc.Dl p).take j))) (Sc.tkV (Sc.Fw [] ((Sc.Dl p).take j))))]) (fun j=>j<=(Sc.Dl p).length) (fun j=>(Sc.Dl p).length - j) 0 (Ak _) fun j hj=>?_;dsimp only[Ac,Ad];rcases Ah j (Sc.Dl p).length with hj2|hj2
   ·have hc1:=hcnt ((Sc.Dl p).take j) (Sc.Dl p)[j];rw[Aj]at hc1
    (repeat' first|refine Ca 42 ?_;(refine jo3 ?_)|refine jr6 7 ?_;(refine jo4 ?_)|refine yyp ?_;try refine Cc ?_ ?_<;>intro hb|refine yy ?_|refine at_nil ?_;refine Ce Tj ?_|refine Cb fun K hK=>?_|apply_assumption -exfalso -symm)
    refine⟨j+1,by omega,by omega,?_⟩;rw[Ba hj2,Sc.Tw];exact v6
   obtain rfl:j=(Sc.Dl p).length:=by omega
   rw[Au]
   (repeat' first|refine Ca 47 ?_;refine Ch (hc:=c4) ?_|refine Ca 50 ?_;refine Ch (hc:=c5) ?_|refine yyp ?_;try refine Cc ?_ ?_<;>intro hb|refine yy ?_|refine at_nil ?_;refine Ce Tj ?_|refine Cb fun K hK=>?_|apply_assumption -exfalso -symm)
   (refine j0 (j5 ?_))
   rfl
  ·rw[Af fun h=>he h.2];simp only[v8]at c1 c2 ⊢
   (refine j3 func18 ntmps18 results18 fun w M=>?_)
   (repeat' first|refine Ca 1 ?_;(refine j6 1001 ?_)|refine Ca 2 ?_;(refine Cj 1002 ?_)|refine Ca 28 ?_;refine z_p Cr ?_|refine yyp ?_;try refine Cc ?_ ?_<;>intro hb|refine yy ?_|refine Cf 12 ?_;refine Cg (hc:=c1) ?_|refine Cf 15 ?_;refine Cg (hc:=c2) ?_|refine at_nil ?_;refine Ce Tj ?_|refine Cb fun K hK=>?_|apply_assumption -exfalso -symm)
   all_goals first
    |(exfalso;exact he (by assumption))
    |((refine j0 (j5 ?_))
      rfl)
 ·rw[Af hm]at c1;rw[Af hm]at c1;rw[Af fun h=>hm h.1,Af hm];simp only[v8]at c1 ⊢
  (refine j3 func18 ntmps18 results18 fun w M=>?_)
  (repeat' first|refine Ca 1 ?_;(refine j6 1001 ?_)|refine Ca 2 ?_;(refine Cj 1002 ?_)|refine Ca 18 ?_;refine z_p Cr ?_|refine yyp ?_;try refine Cc ?_ ?_<;>intro hb|refine yy ?_|refine Cf 12 ?_;refine Cg (hc:=c1) ?_|refine at_nil ?_;refine Ce Tj ?_|refine Cb fun K hK=>?_|apply_assumption -exfalso -symm)
  all_goals first
   |((refine j0 (j5 ?_))
     rfl)
end
section
variable {mm:Int}
namespace Sc
noncomputable def Je (p:Pr):Int:=if Lx.Dz p=true then (Hq p (Dl p)).2 else 2
open Classical in
noncomputable def Ke (p:Pr):Pr:=if Lx.Dz p=true/\(Hq p (Dl p)).2=0 then Qm p else pr0
end Sc
theorem jy5 (p:Pr)(hw:Lx.Dz p=true->Sc.Can p):FnD prog (glS mm) 18 [.d (dPr p)] (fun v=>v=.tup [.d (dPr (Sc.Ke p)),.d (.int .i64 (Sc.Je p))]):=by
 have h:=qc9 (mm:=mm) p hw;unfold Sc.Ke Sc.Je;by_cases h1:Lx.Dz p=true/\(Sc.Hq p (Sc.Dl p)).2=0
 ·rw[Ae h1]at h ⊢;exact h
 ·rw[Af h1]at h ⊢;exact h
attribute [local irreducible] TR TC
theorem qq6 (a b:Pr)(ha:Lx.Dz a=true->Sc.Can a)(hb':Lx.Dz b=true->Sc.Can b):
 FnD prog (glS mm) 20 [.d (dPr a),.d (dPr b)] (fun v=>v=.d (.bool (decide (Sc.Je a=0) && (decide (Sc.Je b=0) && eqB (Sc.Ke a) (Sc.Ke b))))):=by
 have c1:=jy5 (mm:=mm) a ha;have c2:=jy5 (mm:=mm) b hb';have c3:=mz7 (glS mm) _ (Sc.Ke a) (Sc.Ke b) (As _);clear ha hb';obtain⟨x,hx⟩:∃ x,x=Sc.Ke a:=⟨_,rfl⟩;obtain⟨y,hy⟩:∃ y,y=Sc.Ke b:=⟨_,rfl⟩;obtain⟨e,he⟩:∃ e,e=Sc.Je a:=⟨_,rfl⟩;obtain⟨f,hf⟩:∃ f,f=Sc.Je b:=⟨_,rfl⟩;rw[<-hx,<-he]at c1;rw[<-hy,<-hf]at c2;rw[<-hx,<-hy]at c3 ⊢;rw[<-he,<-hf];clear hx hy he hf;simp only[v8]at c1 c2 c3 ⊢
 (refine j3 func20 ntmps20 results20 fun w M=>?_)
 (repeat' first|refine Ca 2 ?_;(refine j6 1002 ?_)|refine Ca 3 ?_;(refine j6 1003 ?_)|refine Ca 5 ?_;(refine Cj 1005 ?_)|refine Ca 7 ?_;(refine Cj 1007 ?_)|refine yyp ?_;try refine Cc ?_ ?_<;>intro hb|refine yy ?_|refine yy2 ?_ ?_<;>intro hcmp|refine Cf 18 ?_;refine Cg (hc:=c1) ?_|refine Cf 18 ?_;refine Cg (hc:=c2) ?_|refine Cf 49 ?_;refine Cg (hc:=c3) ?_;try refine Cc ?_ ?_<;>intro hb|refine at_nil ?_;refine Ce [0,1,2,3,4,5,6,7,8] ?_|refine Cb fun K hK=>?_|apply_assumption -exfalso -symm)
 all_goals first
  |((refine j0 (j5 ?_))
    simp[oneOf, *])
end
end Go.Proofs.YtdopmfifmgkmoaaGreatDoor
