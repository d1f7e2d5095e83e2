/- Parts: L12, S54, L15. -/
import Derived.Test.YtdopmfifmgkmoaaGreatDoorKRenameA2
set_option linter.all false
set_option maxRecDepth 100000
set_option maxHeartbeats 16000000
namespace Go.Proofs.YtdopmfifmgkmoaaGreatDoor
open Go.RowKit Go.Proofs.Tryz
section
def Mt:List Nat:=[0,1,2,3,4,5,6,7,8,9,22,42,61,77,97,116]
theorem kc3 (l:List Pr)(j:Nat)(hj:j<l.length):Sc.Fx (l.take (j+1))=Sc.Fx (l.take j)++Sc.Fy l[j]:=by
 induction l generalizing j with
 |nil=>simp at hj
 |cons x l ih=>
  cases j with
  |zero=>simp[Sc.Fx]
  |succ j=>
   have:=ih j (by simpa using hj);simp only[Eg,Sc.Fx,Bz,this,Bb]
theorem mj2 (l:List Gu)(j:Nat)(hj:j<l.length):Sc.Gj (l.take (j+1))=Sc.Gj (l.take j)++l[j].name::Sc.Fx l[j].body:=by
 induction l generalizing j with
 |nil=>simp at hj
 |cons x l ih=>
  obtain⟨_,_,_,_,_,_,_,body⟩:=x;cases j with
  |zero=>simp[Sc.Gj,Sc.Rm,Gu.body,Gu.name]
  |succ j=>
   have:=ih j (by simpa using hj);simp only[Eg,Sc.Gj,Bz,this,Bb]
theorem km5 (p:Pr):Sc.Fy p=[p.name,p.spec.type.proto]++(p.spec.formals.map (·.type.proto)++(p.spec.proto.l.map (·.tag)++(Sc.Fx p.spec.body++(Sc.Gj p.guards++Sc.Fx p.l)))):=by
 obtain⟨_,_,_,_,_,_,_,_,_,⟨⟩⟩:=p;rw[Sc.Fy];rfl
theorem md2 (l:List Pr)(j:Nat)(hj:j<l.length):(Sc.Fx (l.take j)).length+(Sc.Fy l[j]).length<=(Sc.Fx l).length:=by
 have h1:Sc.Fx l=Sc.Fx (l.take (j+1))++Sc.Fx (l.drop (j+1)):=by
  have:∀ a b:List Pr,Sc.Fx (a++b)=Sc.Fx a++Sc.Fx b:=fun a b=>by
   induction a with
   |nil=>simp[Sc.Fx]
   |cons x a ih=>simp only[Ac,Sc.Fx,ih,Bb]
  rw[<-this,Ev]
 rw[h1,kc3 l j hj];simp only[Ag];omega
theorem qy7 (l:List Gu)(j:Nat)(hj:j<l.length):(Sc.Gj (l.take j)).length+1+(Sc.Fx l[j].body).length<=(Sc.Gj l).length:=by
 have h1:Sc.Gj l=Sc.Gj (l.take (j+1))++Sc.Gj (l.drop (j+1)):=by
  have:∀ a b:List Gu,Sc.Gj (a++b)=Sc.Gj a++Sc.Gj b:=fun a b=>by
   induction a with
   |nil=>simp[Sc.Gj]
   |cons x a ih=>simp only[Ac,Sc.Gj,ih,Bb]
  rw[<-this,Ev]
 rw[h1,mj2 l j hj];simp only[Ag,Ai];omega
attribute [local irreducible] TR TC
theorem qm3 (gl:List (Nat × List D))(p:Pr)(hb:(Sc.Fy p).length<=1000000000)
 (ih:∀ x:Pr,(x∈p.l\/x∈p.spec.body\/∃ g∈p.guards,x∈g.body)->(Sc.Fy x).length<=1000000000->FnD prog gl 25 [.d (dPr x)] (fun v=>v=.d (.list 1 ((Sc.Fy x).map .str)))):
 FnD prog gl 25 [.d (dPr p)] (fun v=>v=.d (.list 1 ((Sc.Fy p).map .str))):=by
 have hb0:=hb;rw[km5]at hb0;simp only[Ag,Aa,Ai,Aq]at hb0;have hdecl:=km5 p;generalize Sc.Fy p=dp at hdecl hb ⊢;simp only[v8]at ih ⊢
 (refine j3 func25 ntmps25 results25 fun w M=>?_)
 refine k9 0 24 rfl rfl fun hnl=>?_;refine k9 0 23 rfl rfl fun hng=>?_;refine k9 0 40 rfl rfl fun hnf=>?_;refine k9 0 39 rfl rfl fun hnv=>?_;refine k9 0 41 rfl rfl fun hns=>?_;simp only[Aa]at hnl hng hnf hnv hns
 (repeat' first|refine Ca 1 ?_;(refine j6 1 ?_)|refine Ca 16 ?_;(refine Dh 16 ?_)|refine yyp ?_;try refine Cc ?_ ?_<;>intro hb|refine yy ?_|refine at_nil ?_;refine Ce Mt ?_|refine Cb fun K hK=>?_|apply_assumption -exfalso -symm)
 obtain⟨C,hC⟩:∃ C:List D,C=[D.str p.name,D.str p.spec.type.proto]:=⟨_,rfl⟩;rw[<-hC,<-Bp C];have hCl:C.length=2:=by rw[hC];rfl
 refine j8 [3,4,17,18,19,20,21,22,23,24,25,26,27,28,29,30,31,32,33,34,35] [16] (fun x:Nat × Nat=>[(4,.d (.int .i64 x.1)),(3,.own 16 x.2)]) (fun x=>[(16,.row 9 1 true (C++(p.spec.formals.take x.1).map (fun f=>D.str f.type.proto)) x.2)]) (fun x=>x.1<=p.spec.formals.length) (fun x=>p.spec.formals.length - x.1) (0,0) (Ak _) fun⟨j,kv⟩ hj=>?_;dsimp only[Ac,Ad]at hj ⊢;rcases Ah j p.spec.formals.length with hj2|hj2
 ·have hlj:(C++(p.spec.formals.take j).map (fun f=>D.str f.type.proto)).length<=1000000000:=by simp only[Ag,Aa,Aj];omega
  (repeat' first|refine Ca 34 ?_;(refine Dh 34 ?_)|refine yyp ?_;try refine Cc ?_ ?_<;>intro hb|refine yy ?_|(refine Cq ?_;first|(refine Cs (fun kv=>?_))|(refine z_append_suf (fun sx sp kv hsx hsp hsl=>?_)))|refine at_nil ?_;refine Ce Mt ?_|refine Cb fun K hK=>?_|apply_assumption -exfalso -symm)
  refine⟨(j+1,kv),by dsimp only;omega,by dsimp only;omega,?_⟩;dsimp only;rw[<-ja3 _ _ hj2];simp only[Ap,Am,Aw,<-Bb];exact v6
 obtain rfl:j=p.spec.formals.length:=by omega
 rw[Au]
 (repeat' first|refine yyp ?_;try refine Cc ?_ ?_<;>intro hb|refine yy ?_|refine at_nil ?_;refine Ce Mt ?_|refine Cb fun K hK=>?_|apply_assumption -exfalso -symm)
 obtain⟨C1,hC1⟩:∃ C1:List D,C1=C++p.spec.formals.map (fun f=>D.str f.type.proto):=⟨_,rfl⟩;rw[<-hC1,<-Bp C1];have hC1l:C1.length=C.length+p.spec.formals.length:=by rw[hC1,Ag,Aa]
 refine j8 [3,5,36,37,38,39,40,41,42,43,44,45,46,47,48,49,50,51,52,53,54,55] [16] (fun x:Nat × Nat=>[(5,.d (.int .i64 x.1)),(3,.own 16 x.2)]) (fun x=>[(16,.row 9 1 true (C1++(p.spec.proto.l.take x.1).map (fun f=>D.str f.tag)) x.2)]) (fun x=>x.1<=p.spec.proto.l.length) (fun x=>p.spec.proto.l.length - x.1) (0,kv) (Ak _) fun⟨j,kv⟩ hj=>?_;dsimp only[Ac,Ad]at hj ⊢;rcases Ah j p.spec.proto.l.length with hj2|hj2
 ·have hlj:(C1++(p.spec.proto.l.take j).map (fun f=>D.str f.tag)).length<=1000000000:=by simp only[Ag,Aa,Aj];omega
  (repeat' first|refine Ca 54 ?_;(refine Dh 54 ?_)|refine yyp ?_;try refine Cc ?_ ?_<;>intro hb|refine yy ?_|(refine Cq ?_;first|(refine Cs (fun kv=>?_))|(refine z_append_suf (fun sx sp kv hsx hsp hsl=>?_)))|refine at_nil ?_;refine Ce Mt ?_|refine Cb fun K hK=>?_|apply_assumption -exfalso -symm)
  refine⟨(j+1,kv),by dsimp only;omega,by dsimp only;omega,?_⟩;dsimp only;rw[<-ja3 _ _ hj2];simp only[Ap,Am,Aw,<-Bb];exact v6
 obtain rfl:j=p.spec.proto.l.length:=by omega
 rw[Au]
 (repeat' first|refine yyp ?_;try refine Cc ?_ ?_<;>intro hb|refine yy ?_|refine at_nil ?_;refine Ce Mt ?_|refine Cb fun K hK=>?_|apply_assumption -exfalso -symm)
 obtain⟨C2,hC2⟩:∃ C2:List D,C2=C1++p.spec.proto.l.map (fun f=>D.str f.tag):=⟨_,rfl⟩;rw[<-hC2,<-Bp C2];simp only[v8];have hC2l:C2.length=C1.length+p.spec.proto.l.length:=by rw[hC2,Ag,Aa]
 refine j8 [3,6,56,57,58,59,60,61,62,63,64,65,66,67,68,69,70,71,72] [16] (fun x:Nat × Nat=>[(6,.d (.int .i64 x.1)),(3,.own 16 x.2)]) (fun x=>[(16,.row 9 1 true (C2++(Sc.Fx (p.spec.body.take x.1)).map D.str) x.2)]) (fun x=>x.1<=p.spec.body.length) (fun x=>p.spec.body.length - x.1) (0,kv) (Ak _) fun⟨j,kv⟩ hj=>?_;dsimp only[Ac,Ad]at hj ⊢;rcases Ah j p.spec.body.length with hj2|hj2
 ·have hsub:=md2 p.spec.body j hj2;have hone:=ih p.spec.body[j] (.inr (.inl (Ar hj2))) (by omega)
  (repeat' first|refine yyp ?_;try refine Cc ?_ ?_<;>intro hb|refine yy ?_|(refine Cq ?_;first|(refine Cs (fun kv=>?_))|(refine z_append_suf (fun sx sp kv hsx hsp hsl=>?_)))|refine Cf 25 ?_;refine Cg (hc:=hone) ?_|refine at_nil ?_;refine Ce Mt ?_|refine Cb fun K hK=>?_|apply_assumption -exfalso -symm)
  refine⟨(j+1,kv),by dsimp only;omega,by dsimp only;omega,?_⟩;dsimp only;rw[kc3 _ _ hj2];simp only[Ap,<-Bb];exact v6
 obtain rfl:j=p.spec.body.length:=by omega
 rw[Au]
 (repeat' first|refine yyp ?_;try refine Cc ?_ ?_<;>intro hb|refine yy ?_|refine at_nil ?_;refine Ce Mt ?_|refine Cb fun K hK=>?_|apply_assumption -exfalso -symm)
 obtain⟨C3,hC3⟩:∃ C3:List D,C3=C2++(Sc.Fx p.spec.body).map D.str:=⟨_,rfl⟩;rw[<-hC3,<-Bp C3];have hC3l:C3.length=C2.length+(Sc.Fx p.spec.body).length:=by rw[hC3,Ag,Aa]
 rw[qe3];refine j8 [3,7,8,73,74,75,76,77,78,79,80,81,82,83,84,85,86,87,88,89,90,91,92,93,94,95,96,97,98,99,100,101,102,103,104,105,106,107,108,109,110,111] [16] (fun x:Nat × Nat=>[(7,.d (.int .i64 x.1)),(3,.own 16 x.2)]) (fun x=>[(16,.row 9 1 true (C3++(Sc.Gj (p.guards.take x.1)).map D.str) x.2)]) (fun x=>x.1<=p.guards.length) (fun x=>p.guards.length - x.1) (0,kv) (Ak _) fun⟨j,kv⟩ hj=>?_;dsimp only[Ac,Ad]at hj ⊢;rcases Ah j p.guards.length with hj2|hj2
 ·have hsg:=qy7 p.guards j hj2;have hlj:(C3++(Sc.Gj (p.guards.take j)).map D.str).length+1<=1000000000:=by simp only[Ag,Aa];omega
  (repeat' first|refine Ca 87 ?_;(refine Dh 87 ?_)|refine yyp ?_;try refine Cc ?_ ?_<;>intro hb|refine yy ?_|(refine Cq ?_;first|(refine Cs (fun kv=>?_))|(refine z_append_suf (fun sx sp kv hsx hsp hsl=>?_)))|refine at_nil ?_;refine Ce Mt ?_|refine Cb fun K hK=>?_|apply_assumption -exfalso -symm)
  refine jq5 1 23 j 22 rfl rfl (by rw[Bx,Be hj2];rfl) rfl fun hsb=>?_;simp only[Aa]at hsb;obtain⟨C4,hC4⟩:∃ C4:List D,C4=C3++(Sc.Gj (p.guards.take j)).map D.str++[D.str p.guards[j].name]:=⟨_,rfl⟩;rw[<-hC4,<-Bp C4];have hC4l:C4.length=C3.length+(Sc.Gj (p.guards.take j)).length+1:=by rw[hC4];simp only[Ag,Aa,Ai,Aq]
  refine j8 [3,8,89,90,91,92,93,94,95,96,97,98,99,100,101,102,103,104,105,106,107,108,109,110,111] [16] (fun x:Nat × Nat=>[(8,.d (.int .i64 x.1)),(3,.own 16 x.2)]) (fun x=>[(16,.row 9 1 true (C4++(Sc.Fx (p.guards[j].body.take x.1)).map D.str) x.2)]) (fun x=>x.1<=p.guards[j].body.length) (fun x=>p.guards[j].body.length - x.1) (0,kv) (Ak _) fun⟨i,kv⟩ hi=>?_;dsimp only[Ac,Ad]at hi ⊢;rcases Ah i p.guards[j].body.length with hi2|hi2
  ·have hsub:=md2 p.guards[j].body i hi2;have hone:=ih p.guards[j].body[i] (.inr (.inr ⟨p.guards[j],Ar hj2,Ar hi2⟩)) (by omega)
   (repeat' first|refine yyp ?_;try refine Cc ?_ ?_<;>intro hb|refine yy ?_|(refine Cq ?_;first|(refine Cs (fun kv=>?_))|(refine z_append_suf (fun sx sp kv hsx hsp hsl=>?_)))|refine Cf 25 ?_;refine Cg (hc:=hone) ?_|refine at_nil ?_;refine Ce Mt ?_|refine Cb fun K hK=>?_|apply_assumption -exfalso -symm)
   refine⟨(i+1,kv),by dsimp only;omega,by dsimp only;omega,?_⟩;dsimp only;rw[kc3 _ _ hi2];simp only[Ap,<-Bb];exact v6
  obtain rfl:i=p.guards[j].body.length:=by omega
  rw[Au]
  (repeat' first|refine yyp ?_;try refine Cc ?_ ?_<;>intro hb|refine yy ?_|refine at_nil ?_;refine Ce Mt ?_|refine Cb fun K hK=>?_|apply_assumption -exfalso -symm)
  refine⟨(j+1,kv),by dsimp only;omega,by dsimp only;omega,?_⟩;dsimp only;rw[mj2 _ _ hj2,hC4,show ∀ a b,List.map D.str (a++p.guards[j].name::b)=a.map D.str++[D.str p.guards[j].name]++b.map D.str from fun a b=>by simp];simp only[<-Bb];exact v6
 obtain rfl:j=p.guards.length:=by omega
 rw[Au]
 (repeat' first|refine yyp ?_;try refine Cc ?_ ?_<;>intro hb|refine yy ?_|refine at_nil ?_;refine Ce Mt ?_|refine Cb fun K hK=>?_|apply_assumption -exfalso -symm)
 obtain⟨C5,hC5⟩:∃ C5:List D,C5=C3++(Sc.Gj p.guards).map D.str:=⟨_,rfl⟩;rw[<-hC5,<-Bp C5];have hC5l:C5.length=C3.length+(Sc.Gj p.guards).length:=by rw[hC5,Ag,Aa]
 refine j8 [3,9,112,113,114,115,116,117,118,119,120,121,122,123,124,125,126] [16] (fun x:Nat × Nat=>[(9,.d (.int .i64 x.1)),(3,.own 16 x.2)]) (fun x=>[(16,.row 9 1 true (C5++(Sc.Fx (p.l.take x.1)).map D.str) x.2)]) (fun x=>x.1<=p.l.length) (fun x=>p.l.length - x.1) (0,kv) (Ak _) fun⟨j,kv⟩ hj=>?_;dsimp only[Ac,Ad]at hj ⊢;rcases Ah j p.l.length with hj2|hj2
 ·have hsub:=md2 p.l j hj2;have hone:=ih p.l[j] (.inl (Ar hj2)) (by omega)
  (repeat' first|refine yyp ?_;try refine Cc ?_ ?_<;>intro hb|refine yy ?_|(refine Cq ?_;first|(refine Cs (fun kv=>?_))|(refine z_append_suf (fun sx sp kv hsx hsp hsl=>?_)))|refine Cf 25 ?_;refine Cg (hc:=hone) ?_|refine at_nil ?_;refine Ce Mt ?_|refine Cb fun K hK=>?_|apply_assumption -exfalso -symm)
  refine⟨(j+1,kv),by dsimp only;omega,by dsimp only;omega,?_⟩;dsimp only;rw[kc3 _ _ hj2];simp only[Ap,<-Bb];exact v6
 obtain rfl:j=p.l.length:=by omega
 rw[Au]
 (repeat' first|refine yyp ?_;try refine Cc ?_ ?_<;>intro hb|refine yy ?_|refine at_nil ?_;refine Ce Mt ?_|refine Cb fun K hK=>?_|apply_assumption -exfalso -symm)
 (refine j0 (j5 ?_))
 rw[hdecl,hC5,hC3,hC2,hC1,hC];simp[oneOf];rfl
theorem mw4 (gl:List (Nat × List D)):∀ (n:Nat) (p:Pr),SizeOf.sizeOf p<=n->(Sc.Fy p).length<=1000000000->FnD prog gl 25 [.d (dPr p)] (fun v=>v=.d (.list 1 ((Sc.Fy p).map .str))):=by
 intro n
 induction n with
 |zero=>intro p h;cases p;simp only[Pr.mk.sizeOf_spec]at h;omega
 |succ n ih=>
  intro p hp hb;refine qm3 gl p hb fun x hx hxb=>ih x ?_ hxb;rcases hx with hx|hx|⟨g,hg,hx⟩
  ·have:=mv0 hx;omega
  ·have:=mv2 hx;omega
  ·have:=mv1 hg hx;omega
end
section
namespace Sc
open Lx
mutual
theorem jd2 {old fr:ByteArray}(hf:Dg fr=true):∀ e:Ex,Hy e (He old fr e)
 |.mk kind op ty n s l=>by
  simp only[He,Hy,true_and];refine⟨?_,jd3 hf l⟩;unfold nmL;split
  ·split
   ·exact fun _=>hf
   ·exact id
  ·rfl
theorem jd3 {old fr:ByteArray}(hf:Dg fr=true):∀ l:List Ex,Gq l (Gp old fr l)
 |[]=>by simp[Gp,Gq]
 |e::l=>by simp only[Gp,Gq];exact⟨_,_,rfl,jd2 hf e,jd3 hf l⟩
end
theorem Jt.refl:∀ l:List Fo,Jt l l
 |[]=>by simp[Jt]
 |f::l=>by simp only[Jt];exact⟨f,l,rfl,⟨rfl,.refl _,id⟩,Jt.refl l⟩
mutual
theorem Lb.refl:∀ p:Pr,Lb p p
 |.mk kind name chan targets exprs rep guards l procs (.mk sk st sn se spp sf sb)=>by
  simp only[Lb,Pr.kind,Pr.name,Pr.chan,Pr.targets,Pr.exprs,Pr.rep,Pr.guards,Pr.l,Pr.procs,Pr.spec,Sp.kind,Sp.type,Sp.names,Sp.e,Sp.proto,Sp.formals,Sp.body,true_and];exact⟨⟨id,id⟩,.refl _,.refl _,.refl _,⟨.rfl,id,.refl _,.refl _⟩,Ii.refl guards,Gm.refl l,.refl _,⟨rfl,fun h=>h⟩,.refl _,.refl _,Gm.refl sb⟩
theorem Gm.refl:∀ l:List Pr,Gm l l
 |[]=>by simp[Gm]
 |p::l=>by simp only[Gm];exact⟨_,_,rfl,Lb.refl p,Gm.refl l⟩
theorem Mv.refl:∀ g:Gu,Mv g g
 |.mk kind name cond chan targets values time body=>by
  simp only[Mv,Gu.kind,Gu.name,Gu.cond,Gu.chan,Gu.targets,Gu.values,Gu.time,Gu.body,true_and];exact⟨.refl _,.refl _,.refl _,.refl _,.refl _,Gm.refl body⟩
theorem Ii.refl:∀ l:List Gu,Ii l l
 |[]=>by simp[Ii]
 |g::l=>by simp only[Ii];exact⟨_,_,rfl,Mv.refl g,Ii.refl l⟩
end
mutual
theorem kq2 {old fr:ByteArray}(hf:Dg fr=true):∀ p:Pr,Lb p (Ja old fr p)/\Dk (Ja old fr p)=Dk p
 |.mk kind name chan targets exprs rep guards l procs (.mk sk st sn se spp sf sb)=>by
  simp only[Ja,Lb,Dk,Pr.kind,Pr.name,Pr.chan,Pr.targets,Pr.exprs,Pr.rep,Pr.guards,Pr.l,Pr.procs,Pr.spec,Sp.kind,Sp.type,Sp.names,Sp.e,Sp.proto,Sp.formals,Sp.body,true_and];have h1:=ju6 (old:=old) hf sb;have h2:=kx1 (old:=old) hf guards;have h3:=ju6 (old:=old) hf l;have e1:∀ (c:Prop) (_:Decidable c),Gm sb (if c then sb else Io old fr sb)/\Du (if c then sb else Io old fr sb)=Du sb:=fun c _=>by
   split
   ·exact⟨Gm.refl _,rfl⟩
   ·exact h1
  have e2:∀ (c:Prop) (_:Decidable c),Ii guards (if c then guards else Jd old fr guards)/\Gb (if c then guards else Jd old fr guards)=Gb guards:=fun c _=>by
   split
   ·exact⟨Ii.refl _,rfl⟩
   ·exact h2
  have e3:∀ (c:Prop) (_:Decidable c),Gm l (if c then l else Io old fr l)/\Du (if c then l else Io old fr l)=Du l:=fun c _=>by
   split
   ·exact⟨Gm.refl _,rfl⟩
   ·exact h3
  exact⟨⟨⟨id,id⟩,jd2 hf _,jd3 hf _,jd3 hf _,⟨.rfl,id,jd2 hf _,jd2 hf _⟩,(e2 _ _).1,(e3 _ _).1,.refl _,⟨rfl,fun h=>h⟩,jd2 hf _,.refl _,(e1 _ _).1⟩,by rw[(e1 _ _).2,(e2 _ _).2,(e3 _ _).2]⟩
theorem ju6 {old fr:ByteArray}(hf:Dg fr=true):∀ l:List Pr,Gm l (Io old fr l)/\Du (Io old fr l)=Du l
 |[]=>by simp[Io,Gm,Du]
 |p::l=>by
  have h1:=kq2 (old:=old) hf p;have h2:=ju6 (old:=old) hf l;simp only[Io,Gm,Du];exact⟨⟨_,_,rfl,h1.1,h2.1⟩,by rw[h1.2,h2.2]⟩
theorem kx1 {old fr:ByteArray}(hf:Dg fr=true):∀ l:List Gu,Ii l (Jd old fr l)/\Gb (Jd old fr l)=Gb l
 |[]=>by simp[Jd,Ii,Gb]
 |.mk kind name cond chan targets values time body::l=>by
  have h1:=ju6 (old:=old) hf body;have h2:=kx1 (old:=old) hf l;rw[Jd,Ra,Ii,Gb,Gb,Jw,Jw];refine⟨⟨_,_,rfl,?_,h2.1⟩,by rw[h1.2,h2.2]⟩;simp only[Mv,Gu.kind,Gu.name,Gu.cond,Gu.chan,Gu.targets,Gu.values,Gu.time,Gu.body,true_and];exact⟨jd2 hf _,jd2 hf _,jd3 hf _,jd3 hf _,jd2 hf _,h1.1⟩
end
theorem kx2 {p q:Pr}{a b:ByteArray}(h:Lb p q)(hb:Dg b=true):Lb (Ci p [a]) (Ci q [b]):=by
 simp only[Ci,Lb,Gm,Ii,Jt,Gq,Pr.kind,Pr.name,Pr.chan,Pr.targets,Pr.exprs,Pr.rep,Pr.guards,Pr.l,Pr.procs,Pr.spec,Sp.kind,Sp.type,Sp.names,Sp.e,Sp.proto,Sp.formals,Sp.body,true_and,and_true];refine⟨⟨id,id⟩,.refl _,⟨.rfl,id,.refl _,.refl _⟩,⟨_,_,rfl,h,rfl⟩,.refl _,⟨rfl,fun _ s hs=>?_⟩,.refl _⟩;rw[Em]at hs;rw[hs];exact hb
theorem jx3 (σ:W)(p:Pr)(a:ByteArray):Fv σ (Ci p [a])=
 let x:Ent:=⟨(Ct σ).1,false,[]⟩
 let q:=Fv {(Ct σ).2 with env:=fun t=>if t=a then σ.env t++[x] else σ.env t} p
 (Ci q.1 [x.fresh],{q.2 with env:=σ.env}):=by
 have h0:j2 (Ct σ).2 ex0=(ex0,(Ct σ).2):=by simp[ex0,j2,Dt,l3]
 have h1:j2 σ ex0=(ex0,σ):=by simp[ex0,j2,Dt,l3]
 have ht:Cu σ [a]=σ:=by
  unfold Cu;simp
 have ht2:Cu (Ct σ).2 []=(Ct σ).2:=by
  unfold Cu;simp
 have hr:Iw σ rp0=((rp0,[]),σ):=by simp[Iw,rp0]
 simp only[Ci,Fv,Gv,Hw,Hg,Fu,Cv,Dn,h0,h1,hr,ht,ht2,Co,Am,Aw,Gn,named,Dy,Cz,Cn,Sp.names,Sp.formals,Sp.type,Sp.e,Sp.kind,if_true,if_false,reduceCtorEq,Int.reduceEq,false_and]
structure Renamed (p:Pr)(old fr:ByteArray):Prop where
 may:Dz (Ci (Ja old fr p) [fr])=true
 free:Dl (Ci (Ja old fr p) [fr])=Dl (Ci p [old])
 err:Je (Ci (Ja old fr p) [fr])=Je (Ci p [old])
 un:Ke (Ci (Ja old fr p) [fr])=Ke (Ci p [old])
theorem qy8 {p:Pr}{old fr:ByteArray}(h:Dz (Ci p [old])=true)(hf:Dg fr=true)(hnm:∀ s∈Fy p,s≠old/\s≠fr)(hdc:∀ s∈Hl p,s≠fr)(hfr:fr∉Dl (Ci p [old]))(hne:old≠fr):Renamed p old fr:=by
 have hall:=(Nl h).1;have hold:Dg old=true:=ko5 _ hall old (by simp[Ci,Hl,rp0]);have h0:=ki3 hold;have hall2:Ms p:=by
  simp only[Ci,Ms,Jj]at hall;exact hall.2.2.2.1
 have hm:Dz (Ci (Ja old fr p) [fr])=true:=ql7 (kx2 (kq2 hf p).1 hf) h;have key:∀ tk:List (ByteArray × Int),(Fv (start tk) (Ci (Ja old fr p) [fr])).1=(Fv (start tk) (Ci p [old])).1/\(Fv (start tk) (Ci (Ja old fr p) [fr])).2.ev=(Fv (start tk) (Ci p [old])).2.ev:=fun tk=>by
  have hevq:∀ e∈(Fv (start tk) (Ci p [old])).2.ev,e.1≠fr:=fun e he=>by
   rw[ql8 tk []]at he;obtain⟨s,b⟩:=e;cases b with
   |false=>
    rintro rfl;exact hfr (qr2.2 he)
   |true=>
    have ha:=qd4 (Ci p [old]) (start []) (fun x hx=>hx) _ he;rcases ha with ha|ha|ha
    ·cases ha
    ·cases ha
    ·simp only[Ci,Hl,Dr,Gf,rp0,Bu,Aw,List.not_mem_nil,false_or,or_false,Em,if_true]at ha;rcases ha with rfl|ha
     ·exact hne
     ·exact hdc _ ha
  rw[jx3]at hevq;rw[jx3,jx3];dsimp only at hevq ⊢;have hren:Ren old fr true {(Ct (start tk)).2 with env:=fun t=>if t=old then (start tk).env t++[⟨(Ct (start tk)).1,false,[]⟩] else (start tk).env t} {(Ct (start tk)).2 with env:=fun t=>if t=fr then (start tk).env t++[⟨(Ct (start tk)).1,false,[]⟩] else (start tk).env t}:=by
   refine⟨fun s h1 h2=>?_,?_,?_,?_,fun s x hx=>?_,rfl,rfl,fun _=>.rfl⟩
   ·simp[la,h1,h2]
   ·simp[la,start]
   ·simp[la,start]
   ·simp[la,start,Ne.symm hne]
   ·unfold la at hx;dsimp only[start]at hx;split at hx
    ·simp at hx;rw[<-hx];exact⟨fun h=>(by cases h),fun h=>(by cases h)⟩
    ·simp at hx
  have hr:=qv2 h0 p true _ _ hren (qe1 p hall2) hnm hdc hevq;have e1:rpP old fr true p=Ja old fr p:=rfl;rw[e1]at hr;exact⟨by rw[hr.eq],hr.ren.ev.symm⟩
 have hfree:Dl (Ci (Ja old fr p) [fr])=Dl (Ci p [old]):=by unfold Dl;rw[(key []).2]
 have htag:Dk (Ci (Ja old fr p) [fr])=Dk (Ci p [old]):=by
  simp only[Ci,Dk,Du,Gb,(kq2 hf p).2]
 have htk:Km (Ci (Ja old fr p) [fr])=Km (Ci p [old]):=by unfold Km;rw[hfree,htag]
 have hck:∀ ns,Hq (Ci (Ja old fr p) [fr]) ns=Hq (Ci p [old]) ns:=fun ns=>by unfold Hq;rw[(key []).2]
 have hun:Qm (Ci (Ja old fr p) [fr])=Qm (Ci p [old]):=by unfold Qm;rw[htk,(key _).1]
 refine⟨hm,hfree,?_,?_⟩
 ·unfold Je;rw[hm,h,hfree,hck]
 ·unfold Ke;rw[hm,h,hfree,hck,hun]
end Sc
end
section
def Ls:List Nat:=[0,1,2,4,5,6,7,8,9,10,11,13,21,29,61]
variable {mm:Int}
def kb8:ByteArray:=⟨#[122,122,46,122,122]⟩
theorem mw5:Lx.Dg kb8=true:=by decide
theorem kx3 {p:Pr}(hk:Lx.kPr p)(ns:List ByteArray):Lx.kPr (Ci p ns):=by
 simp only[Ci,Lx.kPr,Lx.Tz,Lx.Qf,and_true,true_and];exact hk
structure InScope (p:Pr)(old:ByteArray):Prop where
 num:Sc.prN p<=1000000000
 decl:(Sc.Hl p).length<=1000000000
theorem qm4 {p:Pr}{old:ByteArray}(h:Lx.Dz (Ci p [old])=true):InScope p old:=by
 have h1:=(Sc.Nl h).1;have h2:=(Sc.Nl h).2;have h3:=(Sc.Rw _ h1).1;have h4:=Sc.Vz h;refine⟨?_,?_⟩
 ·have:Sc.prN p<=Sc.prN (Ci p [old]):=by
   simp only[Ci,Sc.prN,Sc.Hz];omega
  omega
 ·have:(Sc.Hl p).length<=(Sc.Hl (Ci p [old])).length:=by
   simp only[Ci,Sc.Hl,Sc.Dr,Sc.Gf,Ag];omega
  omega
attribute [local irreducible] TR TC
theorem jx4 (p:Pr)(old:ByteArray)(hk:Lx.kPr p)(hn:(Sc.Fy p).length<=1000000000)(h:150<IntKind.i64.wrap (Sc.Jq p)\/old∈Sc.Fy p\/Lx.Dz (Ci p [old])=false):FnD prog (glS mm) 9 [.d (dPr p),.d (.str old)] (fun v=>v=.d (.bool true)):=by
 have hh:=jz2 (mm:=mm);have c1:=jn2 (glS mm) p;have c2:=mw4 (glS mm) _ p (As _) hn;have c3:=jr9 (glS mm) (Sc.Fy p) old;have c4:=jd6 (glS mm) p [old];have c5:=jq8 (glS mm) _ (kx3 hk [old]);have hx:(Sc.Fy p).any (Sc.isB old)=true↔old∈Sc.Fy p:=Sc.Px;generalize Sc.Fy p=nm at *;generalize Ci p [old]=q at *;generalize Lx.Dz q=m at *;generalize nm.any (Sc.isB old)=an at *;clear hk hn;rw[Am,Aw]at c4;simp only[v8]at c1 c2 c4 c5 ⊢
 (refine j3 func9 ntmps9 results9 fun w M=>?_)
 (repeat' first|refine Ca 2 ?_;(refine j6 2 ?_)|refine Ca 16 ?_;(first|refine yyp ?_;try refine Cc ?_ ?_<;>intro hb|refine yy2 ?_ ?_<;>intro hcmp);all_goals try refine Db true 16 21 Ls ?_|refine Ca 25 ?_;(refine Dh 25 ?_)|refine Ca 5 ?_;(refine Cj 5 ?_)|refine yyp ?_;try refine Cc ?_ ?_<;>intro hb|refine yy ?_|refine Cf 10 ?_;refine Cg (hc:=(by exact c1)) ?_;try refine Cc ?_ ?_<;>intro hb|refine Cf 25 ?_;refine Cg (hc:=(by exact c2)) ?_|refine Cf 24 ?_;refine Cg (hc:=(by exact c3)) ?_;try refine Cc ?_ ?_<;>intro hb|refine Cf 11 ?_;refine Cg (hc:=(by exact hh)) ?_;try refine Cc ?_ ?_<;>intro hb|refine Cf 26 ?_;refine Cg (hc:=(by exact c4)) ?_|refine Cf 22 ?_;refine Cg (hc:=(by exact c5)) ?_;try refine Cc ?_ ?_<;>intro hb|refine at_nil ?_;refine Ce Ls ?_|refine Cb fun K hK=>?_|apply_assumption -exfalso -symm)
 all_goals first
  |(exfalso;rcases h with h|h|h<;>simp_all;done)
  |((refine j0 (j5 ?_))
    rfl)
namespace Sc
mutual
theorem jx5 (s:ByteArray):∀ e:Ex,He s s e=e
 |.mk kind op ty n x l=>by
  simp only[He,jm2 s l];congr 1;split
  ·split
   ·rename_i h;exact h.symm
   ·rfl
  ·rfl
theorem jm2 (s:ByteArray):∀ l:List Ex,Gp s s l=l
 |[]=>by simp[Gp]
 |e::l=>by simp only[Gp,jx5 s e,jm2 s l]
end
mutual
theorem km6 (s:ByteArray):∀ p:Pr,Ja s s p=p
 |.mk kind name chan targets exprs rep guards l procs (.mk sk st sn se spp sf sb)=>by
  simp only[Ja,jx5,jm2,jm3 s l,jm3 s sb,ke2 s guards,ite_self]
theorem jm3 (s:ByteArray):∀ l:List Pr,Io s s l=l
 |[]=>by simp[Io]
 |e::l=>by simp only[Io,km6 s e,jm3 s l]
theorem mp5 (s:ByteArray):∀ g:Gu,Ra s s g=g
 |.mk kind name cond chan targets values time body=>by simp only[Ra,jx5,jm2,jm3 s body]
theorem ke2 (s:ByteArray):∀ l:List Gu,Jd s s l=l
 |[]=>by simp[Jd]
 |e::l=>by simp only[Jd,mp5 s e,ke2 s l]
end
theorem Vx {p:Pr}{old:ByteArray}(h:Lx.Dz (Ci p [old])=true)(hnm:old∉Fy p)(h1:kb8∉Dl (Ci p [old]))(h2:kb8∉Hl p)(h3:kb8∉Fy p):Renamed p old kb8:=by
 by_cases hne:old=kb8
 ·subst hne;have:Ja kb8 kb8 p=p:=km6 _ p;exact⟨by rw[this];exact h,by rw[this],by rw[this],by rw[this]⟩
 ·exact qy8 h mw5 (fun s hs=>⟨fun e=>hnm (e ▸ hs),fun e=>h3 (e ▸ hs)⟩) (fun s hs e=>h2 (e ▸ hs)) h1 hne
end Sc
theorem mp6 (p:Pr)(old:ByteArray)(hk:Lx.kPr p)(hn:(Sc.Fy p).length<=1000000000)(hl:¬150<IntKind.i64.wrap (Sc.Jq p))(hin:old∉Sc.Fy p)(hm:Lx.Dz (Ci p [old])=true):FnD prog (glS mm) 9 [.d (dPr p),.d (.str old)] (fun v=>v=.d (.bool true)):=by
 have hs:=qm4 hm;have hh:=jz2 (mm:=mm);have c1:=jn2 (glS mm) p;have c2:=mw4 (glS mm) _ p (As _) hn;have c3:=jr9 (glS mm) (Sc.Fy p) old;have c4:=jd6 (glS mm) p [old];have c5:=jq8 (glS mm) _ (kx3 hk [old]);have c6:=kx0 (glS mm) old kb8 _ p (As _) hs.num;have c7:=jd6 (glS mm) (Sc.Ja old kb8 p) [kb8];have c8:=jv9 (mm:=mm) (Ci p [old]);have c9:=jr9 (glS mm) (Sc.Dl (Ci p [old])) kb8;have c10:=mc9 (glS mm) _ p (As _) hs.decl;have c11:=jr9 (glS mm) (Sc.Hl p) kb8;have c12:=jr9 (glS mm) (Sc.Fy p) kb8;have c13:=jv9 (mm:=mm) (Ci (Sc.Ja old kb8 p) [kb8]);have c14:=jy6 (mm:=mm) (Ci p [old]);have c15:=jo6 (mm:=mm) (Ci p [old]) (Ci (Sc.Ja old kb8 p) [kb8]);have c16:=jx8 (glS mm) (Sc.Dl (Ci p [old])) (Sc.Dl (Ci p [old]));have hr:=Sc.Vx hm hin;rw[mw0 hin]at c3;rw[Bq hl]at c1;rw[hm]at c5;rw[k7.2 (rfl:Sc.Dl (Ci p [old])=Sc.Dl (Ci p [old]))]at c16;simp only[hm,if_true]at c8;have hx1:(Sc.Dl (Ci p [old])).any (Sc.isB kb8)=true↔kb8∈Sc.Dl (Ci p [old]):=Sc.Px;have hx2:(Sc.Hl p).any (Sc.isB kb8)=true↔kb8∈Sc.Hl p:=Sc.Px;have hx3:(Sc.Fy p).any (Sc.isB kb8)=true↔kb8∈Sc.Fy p:=Sc.Px;rw[<-hx1,<-hx2,<-hx3]at hr;rw[Am,Aw]at c4 c7;rw[show kb8=(⟨#[122,122,46,122,122]⟩:ByteArray) from rfl]at *;generalize (Sc.Dl (Ci p [old])).any (Sc.isB ⟨#[122,122,46,122,122]⟩)=a1 at *;generalize (Sc.Hl p).any (Sc.isB ⟨#[122,122,46,122,122]⟩)=a2 at *;generalize (Sc.Fy p).any (Sc.isB ⟨#[122,122,46,122,122]⟩)=a3 at *;clear hx1 hx2 hx3 hk hn hl hin hs;have hcase:(a1=true\/a2=true\/a3=true)\/(a1=false/\a2=false/\a3=false):=by cases a1<;>cases a2<;>cases a3<;>simp
 rcases hcase with hcase|⟨rfl,rfl,rfl⟩
 ·generalize Sc.Ja old ⟨#[122,122,46,122,122]⟩ p=p' at *;generalize Ci p' [⟨#[122,122,46,122,122]⟩]=q' at *;generalize Ci p [old]=q at *;generalize Sc.Dl q=fr at *;generalize Sc.Fy p=nm at *;generalize Sc.Hl p=dc at *;clear hr hm c13 c14 c15 c16;simp only[v8]at c1 c2 c4 c5 c6 c7 c8 c10 ⊢
  (refine j3 func9 ntmps9 results9 fun w M=>?_)
  (repeat' first|refine Ca 2 ?_;(refine j6 2 ?_)|refine Ca 16 ?_;(first|refine yyp ?_;try refine Cc ?_ ?_<;>intro hb|refine yy2 ?_ ?_<;>intro hcmp);all_goals try refine Db true 16 21 Ls ?_|refine Ca 25 ?_;(refine Dh 25 ?_)|refine Ca 5 ?_;(refine Cj 5 ?_)|refine Ca 36 ?_;(refine Dh 36 ?_)|refine Ca 7 ?_;(refine Cj 7 ?_)|refine Ca 45 ?_;(first|refine yyp ?_;try refine Cc ?_ ?_<;>intro hb|refine yy2 ?_ ?_<;>intro hcmp);all_goals try refine Db true 45 61 Ls ?_|refine Ca 50 ?_;(first|refine yyp ?_;try refine Cc ?_ ?_<;>intro hb|refine yy2 ?_ ?_<;>intro hcmp);all_goals try refine Db true 50 61 Ls ?_|refine Ca 56 ?_;(first|refine yyp ?_;try refine Cc ?_ ?_<;>intro hb|refine yy2 ?_ ?_<;>intro hcmp);all_goals try refine Db true 56 61 Ls ?_|refine yyp ?_;try refine Cc ?_ ?_<;>intro hb|refine yy ?_|refine Cf 10 ?_;refine Cg (hc:=(by exact c1)) ?_;try refine Cc ?_ ?_<;>intro hb|refine Cf 25 ?_;refine Cg (hc:=(by exact c2)) ?_|refine Cf 24 ?_;refine Cg (hc:=(by first|exact c3|exact c9|exact c11|exact c12)) ?_;try refine Cc ?_ ?_<;>intro hb|refine Cf 11 ?_;refine Cg (hc:=(by exact hh)) ?_;try refine Cc ?_ ?_<;>intro hb|refine Cf 26 ?_;refine Cg (hc:=(by first|exact c4|exact c7)) ?_|refine Cf 22 ?_;refine Cg (hc:=(by exact c5)) ?_;try refine Cc ?_ ?_<;>intro hb|refine Cf 27 ?_;refine Cg (hc:=(by exact c6)) ?_|refine Cf 12 ?_;refine Cg (hc:=(by exact c8)) ?_|refine Cf 23 ?_;refine Cg (hc:=(by exact c10)) ?_|refine at_nil ?_;refine Ce Ls ?_|refine Cb fun K hK=>?_|apply_assumption -exfalso -symm)
  all_goals first
   |(exfalso;simp_all;done)
   |((refine j0 (j5 ?_))
     rfl)
 ·have hR:=hr (by simp) (by simp) (by simp);simp only[hR.may,hR.free,if_true]at c13;rw[hR.err,hR.un,k7.2 (rfl:Sc.Ke (Ci p [old])=Sc.Ke (Ci p [old]))]at c15;clear hr hR hm;generalize Sc.Ke (Ci p [old])=un at *;generalize Sc.Je (Ci p [old])=e at *;generalize Sc.Ja old ⟨#[122,122,46,122,122]⟩ p=p' at *;generalize Ci p' [⟨#[122,122,46,122,122]⟩]=q' at *;generalize Ci p [old]=q at *;generalize Sc.Dl q=fr at *;generalize Sc.Fy p=nm at *;generalize Sc.Hl p=dc at *;by_cases h0:e=0
  all_goals
   first
    |(subst h0
      simp only[decide_true,Bool.and_self]at c15)
    |(rw[Bq h0,Av]at c15)
   simp only[v8]at c1 c2 c4 c5 c6 c7 c8 c10 c13 c14 c15 ⊢
   (refine j3 func9 ntmps9 results9 fun w M=>?_)
   (repeat' first|refine Ca 2 ?_;(refine j6 2 ?_)|refine Ca 16 ?_;(first|refine yyp ?_;try refine Cc ?_ ?_<;>intro hb|refine yy2 ?_ ?_<;>intro hcmp);all_goals try refine Db true 16 21 Ls ?_|refine Ca 25 ?_;(refine Dh 25 ?_)|refine Ca 5 ?_;(refine Cj 5 ?_)|refine Ca 36 ?_;(refine Dh 36 ?_)|refine Ca 7 ?_;(refine Cj 7 ?_)|refine Ca 45 ?_;(first|refine yyp ?_;try refine Cc ?_ ?_<;>intro hb|refine yy2 ?_ ?_<;>intro hcmp);all_goals try refine Db true 45 61 Ls ?_|refine Ca 50 ?_;(first|refine yyp ?_;try refine Cc ?_ ?_<;>intro hb|refine yy2 ?_ ?_<;>intro hcmp);all_goals try refine Db true 50 61 Ls ?_|refine Ca 56 ?_;(first|refine yyp ?_;try refine Cc ?_ ?_<;>intro hb|refine yy2 ?_ ?_<;>intro hcmp);all_goals try refine Db true 56 61 Ls ?_|refine Ca 12 ?_;(refine Cj 12 ?_)|refine Ca 75 ?_;(first|refine yyp ?_;try refine Cc ?_ ?_<;>intro hb|refine yy2 ?_ ?_<;>intro hcmp);all_goals try refine Db false 75 4 Ls ?_|refine Ca 80 ?_;(first|refine yyp ?_;try refine Cc ?_ ?_<;>intro hb|refine yy2 ?_ ?_<;>intro hcmp);all_goals try refine Db false 80 4 Ls ?_|refine Ca 88 ?_;(first|refine yyp ?_;try refine Cc ?_ ?_<;>intro hb|refine yy2 ?_ ?_<;>intro hcmp);all_goals try refine Db false 88 4 Ls ?_|refine yyp ?_;try refine Cc ?_ ?_<;>intro hb|refine yy ?_|refine Cf 10 ?_;refine Cg (hc:=(by exact c1)) ?_;try refine Cc ?_ ?_<;>intro hb|refine Cf 25 ?_;refine Cg (hc:=(by exact c2)) ?_|refine Cf 24 ?_;refine Cg (hc:=(by first|exact c3|exact c9|exact c11|exact c12)) ?_;try refine Cc ?_ ?_<;>intro hb|refine Cf 11 ?_;refine Cg (hc:=(by exact hh)) ?_;try refine Cc ?_ ?_<;>intro hb|refine Cf 26 ?_;refine Cg (hc:=(by first|exact c4|exact c7)) ?_|refine Cf 22 ?_;refine Cg (hc:=(by exact c5)) ?_;try refine Cc ?_ ?_<;>intro hb|refine Cf 27 ?_;refine Cg (hc:=(by exact c6)) ?_|refine Cf 12 ?_;refine Cg (hc:=(by first|exact c8|exact c13)) ?_|refine Cf 23 ?_;refine Cg (hc:=(by exact c10)) ?_|refine Cf 18 ?_;refine Cg (hc:=(by exact c14)) ?_|refine Cf 14 ?_;refine Cg (hc:=(by exact c16)) ?_;try refine Cc ?_ ?_<;>intro hb|refine Cf 20 ?_;refine Cg (hc:=(by exact c15)) ?_;try refine Cc ?_ ?_<;>intro hb|refine at_nil ?_;refine Ce Ls ?_|refine Cb fun K hK=>?_|apply_assumption -exfalso -symm)
   all_goals first
    |((refine j0 (j5 ?_))
      rfl)
    |(exfalso;simp_all;done)
theorem kx4 (p:Pr)(old:ByteArray)(hk:Lx.kPr p)(hn:(Sc.Fy p).length<=1000000000):FnD prog (glS mm) 9 [.d (dPr p),.d (.str old)] (fun v=>v=.d (.bool true)):=by
 by_cases hl:150<IntKind.i64.wrap (Sc.Jq p)
 ·exact jx4 p old hk hn (.inl hl)
 ·by_cases hin:old∈Sc.Fy p
  ·exact jx4 p old hk hn (.inr (.inl hin))
  ·by_cases hm:Lx.Dz (Ci p [old])=true
   ·exact mp6 p old hk hn hl hin hm
   ·exact jx4 p old hk hn (.inr (.inr (by simpa using hm)))
end
end Go.Proofs.YtdopmfifmgkmoaaGreatDoor
