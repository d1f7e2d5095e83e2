/- Parts: S12, S23, S24. -/
import Derived.Test.YtdopmfifmgkmoaaGreatDoorP21
set_option linter.all false
set_option maxRecDepth 100000
set_option maxHeartbeats 16000000
namespace Go.Proofs.YtdopmfifmgkmoaaGreatDoor
open Go.RowKit Go.Proofs.Tryz
section
namespace Sc
abbrev la (f:ByteArray->List Ent)(s:ByteArray):Option Ent:=(f s).getLast?
theorem Kz:∀ (l:List Fo) (ns:List ByteArray),ns.length=l.length->(named l ns).length=l.length
 |[],[],_=>rfl
 |[],_::_,h=>by cases h
 |_::_,[],h=>by cases h
 |f::l,n::ns,h=>by simp only[named,Ai,Kz l ns (by simpa using h)]
theorem kg3 {has:ByteArray->Prop}:∀ (l:List (Bool × List ByteArray)) (σ:W),(∀ x∈l,∀ t∈x.2,has t)->∀ x∈(Co σ l).1,∀ t∈x.tags,has t
 |[],_,_,x,hx=>by cases hx
 |y::l,σ,h,x,hx=>by
  simp only[Co]at hx;rcases Bf.1 hx with rfl|hx
  ·exact h y Bi
  ·exact kg3 l _ (fun z hz=>h z (Bk _ hz)) x hx
def ml1 (kind:Int)(chan:Ex)(exprs:List Ex)(rep:Rp):Prop:=((kind=18->rep.name=ByteArray.empty)/\(rep.name=ByteArray.empty->rep=rp0))/\(kind=5->exprs≠[]/\Dt chan.kind=true/\∀ e∈exprs.head?,e.kind=4->e.l=[])
mutual
def Ry:Pr->Prop
 |.mk kind _ chan _ exprs rep guards l _ (.mk sk st sn se spp sf sb)=>ml1 kind chan exprs rep/\(kind≠18->Sp.mk sk st sn se spp sf sb=sp0)/\(∀ s∈sn,s≠ByteArray.empty)/\(∀ f∈sf,f.name≠ByteArray.empty)/\Qu sb/\Sw guards/\Qu l
def Qu:List Pr->Prop
 |[]=>True
 |p::l=>Ry p/\Qu l
def Xh:Gu->Prop
 |.mk _ _ _ _ _ _ _ body=>Qu body
def Sw:List Gu->Prop
 |[]=>True
 |g::l=>Xh g/\Sw l
end
mutual
def Dk:Pr->List ByteArray
 |.mk _ _ _ _ _ _ guards l _ (.mk _ _ _ _ spp _ sb)=>spp.l.map (·.tag)++(Du sb++(Gb guards++Du l))
def Du:List Pr->List ByteArray
 |[]=>[]
 |p::l=>Dk p++Du l
def Jw:Gu->List ByteArray
 |.mk _ name _ _ _ _ _ body=>name::Du body
def Gb:List Gu->List ByteArray
 |[]=>[]
 |g::l=>Jw g++Gb l
end
end Sc
end
section
def Kh:List Nat:=[0,1,4,5,7,10,14,15,16,17]
attribute [local irreducible] TR TC
theorem ks0 (gl:List (Nat × List D))(k:Sc.Kind)(l:List Gu)(σ:Sc.W)(hl:l.length<=1000000000)
 (h1:∀ (j:Nat) (hj:j<l.length),FnE prog gl 67 [.ptr 900 0,.d (dGu l[j])] (HW k (Cv Sc.Jc σ (l.take j)).2)
   (fun v H1=>v=.d (dGu (Sc.Jc (Cv Sc.Jc σ (l.take j)).2 l[j]).1)/\H1=HW k (Sc.Jc (Cv Sc.Jc σ (l.take j)).2 l[j]).2)):
 FnE prog gl 66 [.d (.list 23 (l.map dGu)),.clo (.func 67) [.ptr 900 0] []] (HW k σ)
  (fun v H1=>v=.d (.list 23 ((Cv Sc.Jc σ l).1.map dGu))/\H1=HW k (Cv Sc.Jc σ l).2):=by
 simp only[je9]at h1 ⊢;cases k
 all_goals dsimp only[HW,ja4,n6]at h1 ⊢
 case free=>
  (refine j4 func66 ntmps66 results66 fun w M E b0=>?_)
  (repeat' first|refine Ca 13 ?_;(refine jc3 13 ?_)|refine yyp ?_;try refine Cc ?_ ?_<;>intro hb|refine yy ?_|refine yy2 ?_ ?_<;>intro hcmp|refine at_nil ?_;refine Ce Kh ?_|refine Cb fun K hK=>?_|apply_assumption -exfalso -symm)
  ·have h0:l=[]:=At (by omega);subst h0
   (refine j0 (j7 ⟨?_,rfl⟩))
   rfl
  refine jg6 (fun x:Nat × Nat=>⟨[(16,.d (.int .i64 x.1)),(15,.d (.int .i64 l.length)),(14,.d (.list 23 (l.map dG))),(5,.own 13 x.2),(1,.clo (.func 67) [.ptr 900 0] [])],(13,.row 101 23 true ((Cv Sc.Jc σ (l.take x.1)).1.map dG) x.2)::HW .free (Cv Sc.Jc σ (l.take x.1)).2,gl⟩)
   (fun x=>x.1<=l.length) (fun x=>l.length - x.1) (0,0) (Ak _) v6 fun⟨j,kv⟩ hj=>?_
  dsimp only[HW,ja4,n6]at hj ⊢;have hlen:=z8 Sc.Jc (l.take j) σ;simp only[Aj]at hlen;rcases Ah j l.length with hj2|hj2
  ·have hone:=h1 j hj2
   (repeat' first|refine Ca 7 ?_;(refine Cj 7 ?_)|refine Ca 23 ?_;refine Ch (hc:=hone) ?_|refine Ca 24 ?_;(refine Dh 24 ?_)|refine yyp ?_;try refine Cc ?_ ?_<;>intro hb|refine yy ?_|(refine Cq ?_;first|(refine Cs (fun kv=>?_))|(refine z_append_suf (fun sx sp kv hsx hsp hsl=>?_)))|refine at_nil ?_;refine Ce Kh ?_|refine Cb fun K hK=>?_|apply_assumption -exfalso -symm)
   refine⟨(j+1,kv),by dsimp only;omega,by dsimp only;omega,?_⟩;dsimp only;rw[z7 Sc.Jc l σ j hj2];simp only[Ap,Am,Aw];exact v6
  (repeat' first|refine yyp ?_;try refine Cc ?_ ?_<;>intro hb|refine yy ?_|refine at_nil ?_;refine Ce Kh ?_|refine Cb fun K hK=>?_|apply_assumption -exfalso -symm)
  have hjl:j=l.length:=by omega
  subst hjl;rw[Au]
  (refine j0 (j7 ⟨?_,rfl⟩))
  rfl
 case check ns=>
  (refine j4 func66 ntmps66 results66 fun w M E b0=>?_)
  (repeat' first|refine Ca 13 ?_;(refine jc3 13 ?_)|refine yyp ?_;try refine Cc ?_ ?_<;>intro hb|refine yy ?_|refine yy2 ?_ ?_<;>intro hcmp|refine at_nil ?_;refine Ce Kh ?_|refine Cb fun K hK=>?_|apply_assumption -exfalso -symm)
  ·have h0:l=[]:=At (by omega);subst h0
   (refine j0 (j7 ⟨?_,rfl⟩))
   rfl
  refine jg6 (fun x:Nat × Nat=>⟨[(16,.d (.int .i64 x.1)),(15,.d (.int .i64 l.length)),(14,.d (.list 23 (l.map dG))),(5,.own 13 x.2),(1,.clo (.func 67) [.ptr 900 0] [])],(13,.row 101 23 true ((Cv Sc.Jc σ (l.take x.1)).1.map dG) x.2)::HW (.check ns) (Cv Sc.Jc σ (l.take x.1)).2,gl⟩)
   (fun x=>x.1<=l.length) (fun x=>l.length - x.1) (0,0) (Ak _) v6 fun⟨j,kv⟩ hj=>?_
  dsimp only[HW,ja4,n6]at hj ⊢;have hlen:=z8 Sc.Jc (l.take j) σ;simp only[Aj]at hlen;rcases Ah j l.length with hj2|hj2
  ·have hone:=h1 j hj2
   (repeat' first|refine Ca 7 ?_;(refine Cj 7 ?_)|refine Ca 23 ?_;refine Ch (hc:=hone) ?_|refine Ca 24 ?_;(refine Dh 24 ?_)|refine yyp ?_;try refine Cc ?_ ?_<;>intro hb|refine yy ?_|(refine Cq ?_;first|(refine Cs (fun kv=>?_))|(refine z_append_suf (fun sx sp kv hsx hsp hsl=>?_)))|refine at_nil ?_;refine Ce Kh ?_|refine Cb fun K hK=>?_|apply_assumption -exfalso -symm)
   refine⟨(j+1,kv),by dsimp only;omega,by dsimp only;omega,?_⟩;dsimp only;rw[z7 Sc.Jc l σ j hj2];simp only[Ap,Am,Aw];exact v6
  (repeat' first|refine yyp ?_;try refine Cc ?_ ?_<;>intro hb|refine yy ?_|refine at_nil ?_;refine Ce Kh ?_|refine Cb fun K hK=>?_|apply_assumption -exfalso -symm)
  have hjl:j=l.length:=by omega
  subst hjl;rw[Au]
  (refine j0 (j7 ⟨?_,rfl⟩))
  rfl
 case none=>
  (refine j4 func66 ntmps66 results66 fun w M E b0=>?_)
  (repeat' first|refine Ca 13 ?_;(refine jc3 13 ?_)|refine yyp ?_;try refine Cc ?_ ?_<;>intro hb|refine yy ?_|refine yy2 ?_ ?_<;>intro hcmp|refine at_nil ?_;refine Ce Kh ?_|refine Cb fun K hK=>?_|apply_assumption -exfalso -symm)
  ·have h0:l=[]:=At (by omega);subst h0
   (refine j0 (j7 ⟨?_,rfl⟩))
   rfl
  refine jg6 (fun x:Nat × Nat=>⟨[(16,.d (.int .i64 x.1)),(15,.d (.int .i64 l.length)),(14,.d (.list 23 (l.map dG))),(5,.own 13 x.2),(1,.clo (.func 67) [.ptr 900 0] [])],(13,.row 101 23 true ((Cv Sc.Jc σ (l.take x.1)).1.map dG) x.2)::HW .none (Cv Sc.Jc σ (l.take x.1)).2,gl⟩)
   (fun x=>x.1<=l.length) (fun x=>l.length - x.1) (0,0) (Ak _) v6 fun⟨j,kv⟩ hj=>?_
  dsimp only[HW,ja4,n6]at hj ⊢;have hlen:=z8 Sc.Jc (l.take j) σ;simp only[Aj]at hlen;rcases Ah j l.length with hj2|hj2
  ·have hone:=h1 j hj2
   (repeat' first|refine Ca 7 ?_;(refine Cj 7 ?_)|refine Ca 23 ?_;refine Ch (hc:=hone) ?_|refine Ca 24 ?_;(refine Dh 24 ?_)|refine yyp ?_;try refine Cc ?_ ?_<;>intro hb|refine yy ?_|(refine Cq ?_;first|(refine Cs (fun kv=>?_))|(refine z_append_suf (fun sx sp kv hsx hsp hsl=>?_)))|refine at_nil ?_;refine Ce Kh ?_|refine Cb fun K hK=>?_|apply_assumption -exfalso -symm)
   refine⟨(j+1,kv),by dsimp only;omega,by dsimp only;omega,?_⟩;dsimp only;rw[z7 Sc.Jc l σ j hj2];simp only[Ap,Am,Aw];exact v6
  (repeat' first|refine yyp ?_;try refine Cc ?_ ?_<;>intro hb|refine yy ?_|refine at_nil ?_;refine Ce Kh ?_|refine Cb fun K hK=>?_|apply_assumption -exfalso -symm)
  have hjl:j=l.length:=by omega
  subst hjl;rw[Au]
  (refine j0 (j7 ⟨?_,rfl⟩))
  rfl
theorem kg4 (gl:List (Nat × List D))(k:Sc.Kind)(l:List Pr)(σ:Sc.W)(hl:l.length<=1000000000)
 (h1:∀ (j:Nat) (hj:j<l.length),FnE prog gl 33 [.ptr 900 0,.d (dPr l[j])] (HW k (Cv Sc.Fv σ (l.take j)).2)
   (fun v H1=>v=.d (dPr (Sc.Fv (Cv Sc.Fv σ (l.take j)).2 l[j]).1)/\H1=HW k (Sc.Fv (Cv Sc.Fv σ (l.take j)).2 l[j]).2)):
 FnE prog gl 68 [.d (.list 42 (l.map dPr)),.clo (.func 33) [.ptr 900 0] []] (HW k σ)
  (fun v H1=>v=.d (.list 42 ((Cv Sc.Fv σ l).1.map dPr))/\H1=HW k (Cv Sc.Fv σ l).2):=by
 simp only[v8]at h1 ⊢;cases k
 all_goals dsimp only[HW,ja4,n6]at h1 ⊢
 case free=>
  (refine j4 func68 ntmps68 results68 fun w M E b0=>?_)
  (repeat' first|refine Ca 13 ?_;(refine jc3 13 ?_)|refine yyp ?_;try refine Cc ?_ ?_<;>intro hb|refine yy ?_|refine yy2 ?_ ?_<;>intro hcmp|refine at_nil ?_;refine Ce Kh ?_|refine Cb fun K hK=>?_|apply_assumption -exfalso -symm)
  ·have h0:l=[]:=At (by omega);subst h0
   (refine j0 (j7 ⟨?_,rfl⟩))
   rfl
  refine jg6 (fun x:Nat × Nat=>⟨[(16,.d (.int .i64 x.1)),(15,.d (.int .i64 l.length)),(14,.d (.list 42 (l.map dP))),(5,.own 13 x.2),(1,.clo (.func 33) [.ptr 900 0] [])],(13,.row 45 42 true ((Cv Sc.Fv σ (l.take x.1)).1.map dP) x.2)::HW .free (Cv Sc.Fv σ (l.take x.1)).2,gl⟩)
   (fun x=>x.1<=l.length) (fun x=>l.length - x.1) (0,0) (Ak _) v6 fun⟨j,kv⟩ hj=>?_
  dsimp only[HW,ja4,n6]at hj ⊢;have hlen:=z8 Sc.Fv (l.take j) σ;simp only[Aj]at hlen;rcases Ah j l.length with hj2|hj2
  ·have hone:=h1 j hj2
   (repeat' first|refine Ca 7 ?_;(refine Cj 7 ?_)|refine Ca 23 ?_;refine Ch (hc:=hone) ?_|refine Ca 24 ?_;(refine Dh 24 ?_)|refine yyp ?_;try refine Cc ?_ ?_<;>intro hb|refine yy ?_|(refine Cq ?_;first|(refine Cs (fun kv=>?_))|(refine z_append_suf (fun sx sp kv hsx hsp hsl=>?_)))|refine at_nil ?_;refine Ce Kh ?_|refine Cb fun K hK=>?_|apply_assumption -exfalso -symm)
   refine⟨(j+1,kv),by dsimp only;omega,by dsimp only;omega,?_⟩;dsimp only;rw[z7 Sc.Fv l σ j hj2];simp only[Ap,Am,Aw];exact v6
  (repeat' first|refine yyp ?_;try refine Cc ?_ ?_<;>intro hb|refine yy ?_|refine at_nil ?_;refine Ce Kh ?_|refine Cb fun K hK=>?_|apply_assumption -exfalso -symm)
  have hjl:j=l.length:=by omega
  subst hjl;rw[Au]
  (refine j0 (j7 ⟨?_,rfl⟩))
  rfl
 case check ns=>
  (refine j4 func68 ntmps68 results68 fun w M E b0=>?_)
  (repeat' first|refine Ca 13 ?_;(refine jc3 13 ?_)|refine yyp ?_;try refine Cc ?_ ?_<;>intro hb|refine yy ?_|refine yy2 ?_ ?_<;>intro hcmp|refine at_nil ?_;refine Ce Kh ?_|refine Cb fun K hK=>?_|apply_assumption -exfalso -symm)
  ·have h0:l=[]:=At (by omega);subst h0
   (refine j0 (j7 ⟨?_,rfl⟩))
   rfl
  refine jg6 (fun x:Nat × Nat=>⟨[(16,.d (.int .i64 x.1)),(15,.d (.int .i64 l.length)),(14,.d (.list 42 (l.map dP))),(5,.own 13 x.2),(1,.clo (.func 33) [.ptr 900 0] [])],(13,.row 45 42 true ((Cv Sc.Fv σ (l.take x.1)).1.map dP) x.2)::HW (.check ns) (Cv Sc.Fv σ (l.take x.1)).2,gl⟩)
   (fun x=>x.1<=l.length) (fun x=>l.length - x.1) (0,0) (Ak _) v6 fun⟨j,kv⟩ hj=>?_
  dsimp only[HW,ja4,n6]at hj ⊢;have hlen:=z8 Sc.Fv (l.take j) σ;simp only[Aj]at hlen;rcases Ah j l.length with hj2|hj2
  ·have hone:=h1 j hj2
   (repeat' first|refine Ca 7 ?_;(refine Cj 7 ?_)|refine Ca 23 ?_;refine Ch (hc:=hone) ?_|refine Ca 24 ?_;(refine Dh 24 ?_)|refine yyp ?_;try refine Cc ?_ ?_<;>intro hb|refine yy ?_|(refine Cq ?_;first|(refine Cs (fun kv=>?_))|(refine z_append_suf (fun sx sp kv hsx hsp hsl=>?_)))|refine at_nil ?_;refine Ce Kh ?_|refine Cb fun K hK=>?_|apply_assumption -exfalso -symm)
   refine⟨(j+1,kv),by dsimp only;omega,by dsimp only;omega,?_⟩;dsimp only;rw[z7 Sc.Fv l σ j hj2];simp only[Ap,Am,Aw];exact v6
  (repeat' first|refine yyp ?_;try refine Cc ?_ ?_<;>intro hb|refine yy ?_|refine at_nil ?_;refine Ce Kh ?_|refine Cb fun K hK=>?_|apply_assumption -exfalso -symm)
  have hjl:j=l.length:=by omega
  subst hjl;rw[Au]
  (refine j0 (j7 ⟨?_,rfl⟩))
  rfl
 case none=>
  (refine j4 func68 ntmps68 results68 fun w M E b0=>?_)
  (repeat' first|refine Ca 13 ?_;(refine jc3 13 ?_)|refine yyp ?_;try refine Cc ?_ ?_<;>intro hb|refine yy ?_|refine yy2 ?_ ?_<;>intro hcmp|refine at_nil ?_;refine Ce Kh ?_|refine Cb fun K hK=>?_|apply_assumption -exfalso -symm)
  ·have h0:l=[]:=At (by omega);subst h0
   (refine j0 (j7 ⟨?_,rfl⟩))
   rfl
  refine jg6 (fun x:Nat × Nat=>⟨[(16,.d (.int .i64 x.1)),(15,.d (.int .i64 l.length)),(14,.d (.list 42 (l.map dP))),(5,.own 13 x.2),(1,.clo (.func 33) [.ptr 900 0] [])],(13,.row 45 42 true ((Cv Sc.Fv σ (l.take x.1)).1.map dP) x.2)::HW .none (Cv Sc.Fv σ (l.take x.1)).2,gl⟩)
   (fun x=>x.1<=l.length) (fun x=>l.length - x.1) (0,0) (Ak _) v6 fun⟨j,kv⟩ hj=>?_
  dsimp only[HW,ja4,n6]at hj ⊢;have hlen:=z8 Sc.Fv (l.take j) σ;simp only[Aj]at hlen;rcases Ah j l.length with hj2|hj2
  ·have hone:=h1 j hj2
   (repeat' first|refine Ca 7 ?_;(refine Cj 7 ?_)|refine Ca 23 ?_;refine Ch (hc:=hone) ?_|refine Ca 24 ?_;(refine Dh 24 ?_)|refine yyp ?_;try refine Cc ?_ ?_<;>intro hb|refine yy ?_|(refine Cq ?_;first|(refine Cs (fun kv=>?_))|(refine z_append_suf (fun sx sp kv hsx hsp hsl=>?_)))|refine at_nil ?_;refine Ce Kh ?_|refine Cb fun K hK=>?_|apply_assumption -exfalso -symm)
   refine⟨(j+1,kv),by dsimp only;omega,by dsimp only;omega,?_⟩;dsimp only;rw[z7 Sc.Fv l σ j hj2];simp only[Ap,Am,Aw];exact v6
  (repeat' first|refine yyp ?_;try refine Cc ?_ ?_<;>intro hb|refine yy ?_|refine at_nil ?_;refine Ce Kh ?_|refine Cb fun K hK=>?_|apply_assumption -exfalso -symm)
  have hjl:j=l.length:=by omega
  subst hjl;rw[Au]
  (refine j0 (j7 ⟨?_,rfl⟩))
  rfl
end
section
def Pk:List Nat:=[0,1,4,5,7,10,14,15,16,17]
variable {mm:Int}
def ka9 (tag first:Bool)(σ:Sc.W)(e:Ex):Ex × Sc.W:=if tag=true/\first=true then (e,σ) else j2 σ e
theorem ks1 (tag:Bool)(l:List Ex)(σ:Sc.W)(j:Nat)(hj:j<l.length):
 Sc.Dn tag σ (l.take (j+1))=((Sc.Dn tag σ (l.take j)).1++[(ka9 tag (!(tag && decide (0<j))) (Sc.Dn tag σ (l.take j)).2 l[j]).1],(ka9 tag (!(tag && decide (0<j))) (Sc.Dn tag σ (l.take j)).2 l[j]).2):=by
 cases l with
 |nil=>simp at hj
 |cons e l=>
  cases tag with
  |false=>
   have e2:∀ (υ:Sc.W) (x:List Ex),Sc.Dn false υ x=Cv j2 υ x:=fun _ x=>by cases x<;>rfl
   rw[e2,e2,z7 j2 (e::l) σ j hj];unfold ka9;simp
  |true=>
   cases j with
   |zero=>simp[Sc.Dn,ka9,Cv]
   |succ j=>
    have hj':j<l.length:=by simpa using hj
    have:=z7 j2 l σ j hj';simp only[Eg,Sc.Dn,if_true,this,Bz,ka9];simp
theorem mg0 (tag:Bool)(l:List Ex)(σ:Sc.W):(Sc.Dn tag σ l).1.length=l.length:=by
 cases tag with
 |false=>
  rw[show Sc.Dn false σ l=Cv j2 σ l by cases l<;>rfl];exact z8 _ _ _
 |true=>
  cases l with
  |nil=>rfl
  |cons e l=>simp[Sc.Dn,z8]
attribute [local irreducible] TR TC
theorem mg1 (gl:List (Nat × List D))(k:Sc.Kind)(σ:Sc.W)(tag first:Bool)(e:Ex)
 (he:FnE prog gl 58 [.ptr 900 0,.d (dEx e)] (HW k σ) (fun v H1=>v=.d (dEx (j2 σ e).1)/\H1=HW k (j2 σ e).2)):
 FnE prog gl 60 [.d (dEx e),.ptr 1005 0,.ptr 1006 0,.ptr 1002 0] ((1005,.box [.d (.bool tag)])::(1006,.box [.d (.bool first)])::(1002,.box [.ptr 900 0])::HW k σ)
  (fun v H1=>v=.d (dEx (ka9 tag first σ e).1)/\H1=(1005,.box [.d (.bool tag)])::(1006,.box [.d (.bool (first && !tag))])::(1002,.box [.ptr 900 0])::HW k (ka9 tag first σ e).2):=by
 unfold ka9;simp only[r9]at he ⊢;generalize j2 σ e=r at he ⊢;cases tag<;>cases first
 all_goals simp only[Ay,false_and,and_false,and_self,if_true,if_false,Bool.not_true,Bool.not_false,Bn,Az,Bc,Av]
 all_goals cases k
 all_goals dsimp only[HW,ja4,n6]at he ⊢
 all_goals (refine j4 func60 ntmps60 results60 fun w M E b0=>?_)
 all_goals (repeat' first|refine Ca 4 ?_;(refine j6 4 ?_)|refine Ca 5 ?_;(refine Cj 5 ?_)|refine Ca 13 ?_;refine Ch (hc:=he) ?_|refine yyp ?_;try refine Cc ?_ ?_<;>intro hb|refine yy ?_|refine at_nil ?_;refine Ce [0,1,2,3,4,5,6,9,28] ?_|refine Cb fun K hK=>?_|apply_assumption -exfalso -symm)
 all_goals (refine j0 (j7 ⟨?_,rfl⟩))
 all_goals rfl
theorem jb8 (gl:List (Nat × List D))(k:Sc.Kind)(tag:Bool)(l:List Ex)(σ:Sc.W)(hl:l.length<=1000000000)
 (h1:∀ (j:Nat) (hj:j<l.length),FnE prog gl 58 [.ptr 900 0,.d (dEx l[j])] (HW k (Sc.Dn tag σ (l.take j)).2)
   (fun v H1=>v=.d (dEx (j2 (Sc.Dn tag σ (l.take j)).2 l[j]).1)/\H1=HW k (j2 (Sc.Dn tag σ (l.take j)).2 l[j]).2)):
 FnE prog gl 59 [.d (.list 6 (l.map dEx)),.clo (.func 60) [] [.ptr 1005 0,.ptr 1006 0,.ptr 1002 0]] ((1005,.box [.d (.bool tag)])::(1006,.box [.d (.bool true)])::(1002,.box [.ptr 900 0])::HW k σ)
  (fun v H1=>v=.d (.list 6 ((Sc.Dn tag σ l).1.map dEx))/\H1=(1005,.box [.d (.bool tag)])::(1006,.box [.d (.bool (!(tag && decide (0<l.length))))])::(1002,.box [.ptr 900 0])::HW k (Sc.Dn tag σ l).2):=by
 have h2:=fun j hj=>mg1 gl k (Sc.Dn tag σ (l.take j)).2 tag (!(tag && decide (0<j))) (l[j]'hj) (h1 j hj);clear h1;have hft:∀ j,(!(tag && decide (0<j)) && !tag)=!(tag && decide (0<j+1)):=fun j=>by cases tag<;>simp
 simp only[r9,hft]at h2 ⊢;cases k
 all_goals dsimp only[HW,ja4,n6]at h2 ⊢
 case free=>
  (refine j4 func59 ntmps59 results59 fun w M E b0=>?_)
  (repeat' first|refine Ca 13 ?_;(refine jc3 13 ?_)|refine yyp ?_;try refine Cc ?_ ?_<;>intro hb|refine yy ?_|refine yy2 ?_ ?_<;>intro hcmp|refine at_nil ?_;refine Ce Pk ?_|refine Cb fun K hK=>?_|apply_assumption -exfalso -symm)
  ·have h0:l=[]:=At (by omega);subst h0;simp only[Aq,Nat.lt_irrefl,decide_false,Az,Bool.not_false]
   (refine j0 (j7 ⟨?_,rfl⟩))
   rfl
  refine jg6 (fun x:Nat × Nat=>⟨[(16,.d (.int .i64 x.1)),(15,.d (.int .i64 l.length)),(14,.d (.list 6 (l.map dE))),(5,.own 13 x.2),(1,.clo (.func 60) [] [.ptr 1005 0,.ptr 1006 0,.ptr 1002 0])],(13,.row 28 6 true ((Sc.Dn tag σ (l.take x.1)).1.map dE) x.2)::(1005,.box [.d (.bool tag)])::(1006,.box [.d (.bool (!(tag && decide (0<x.1))))])::(1002,.box [.ptr 900 0])::HW .free (Sc.Dn tag σ (l.take x.1)).2,gl⟩)
   (fun x=>x.1<=l.length) (fun x=>l.length - x.1) (0,0) (Ak _) (by simp only[Fd,Sc.Dn,Nat.lt_irrefl,decide_false,Az,Bool.not_false];exact v6) fun⟨j,kv⟩ hj=>?_
  dsimp only[HW,ja4,n6]at hj ⊢;have hlen:=mg0 tag (l.take j) σ;simp only[Aj]at hlen;rcases Ah j l.length with hj2|hj2
  ·have hone:=h2 j hj2
   (repeat' first|refine Ca 7 ?_;(refine Cj 7 ?_)|refine Ca 23 ?_;refine Ch (hc:=hone) ?_|refine Ca 24 ?_;(refine Dh 24 ?_)|refine yyp ?_;try refine Cc ?_ ?_<;>intro hb|refine yy ?_|(refine Cq ?_;first|(refine Cs (fun kv=>?_))|(refine z_append_suf (fun sx sp kv hsx hsp hsl=>?_)))|refine at_nil ?_;refine Ce Pk ?_|refine Cb fun K hK=>?_|apply_assumption -exfalso -symm)
   refine⟨(j+1,kv),by dsimp only;omega,by dsimp only;omega,?_⟩;dsimp only;rw[ks1 tag l σ j hj2];simp only[Ap,Am,Aw];exact v6
  (repeat' first|refine yyp ?_;try refine Cc ?_ ?_<;>intro hb|refine yy ?_|refine at_nil ?_;refine Ce Pk ?_|refine Cb fun K hK=>?_|apply_assumption -exfalso -symm)
  have hjl:j=l.length:=by omega
  subst hjl;rw[Au]
  (refine j0 (j7 ⟨?_,rfl⟩))
  rfl
 case check ns=>
  (refine j4 func59 ntmps59 results59 fun w M E b0=>?_)
  (repeat' first|refine Ca 13 ?_;(refine jc3 13 ?_)|refine yyp ?_;try refine Cc ?_ ?_<;>intro hb|refine yy ?_|refine yy2 ?_ ?_<;>intro hcmp|refine at_nil ?_;refine Ce Pk ?_|refine Cb fun K hK=>?_|apply_assumption -exfalso -symm)
  ·have h0:l=[]:=At (by omega);subst h0;simp only[Aq,Nat.lt_irrefl,decide_false,Az,Bool.not_false]
   (refine j0 (j7 ⟨?_,rfl⟩))
   rfl
  refine jg6 (fun x:Nat × Nat=>⟨[(16,.d (.int .i64 x.1)),(15,.d (.int .i64 l.length)),(14,.d (.list 6 (l.map dE))),(5,.own 13 x.2),(1,.clo (.func 60) [] [.ptr 1005 0,.ptr 1006 0,.ptr 1002 0])],(13,.row 28 6 true ((Sc.Dn tag σ (l.take x.1)).1.map dE) x.2)::(1005,.box [.d (.bool tag)])::(1006,.box [.d (.bool (!(tag && decide (0<x.1))))])::(1002,.box [.ptr 900 0])::HW (.check ns) (Sc.Dn tag σ (l.take x.1)).2,gl⟩)
   (fun x=>x.1<=l.length) (fun x=>l.length - x.1) (0,0) (Ak _) (by simp only[Fd,Sc.Dn,Nat.lt_irrefl,decide_false,Az,Bool.not_false];exact v6) fun⟨j,kv⟩ hj=>?_
  dsimp only[HW,ja4,n6]at hj ⊢;have hlen:=mg0 tag (l.take j) σ;simp only[Aj]at hlen;rcases Ah j l.length with hj2|hj2
  ·have hone:=h2 j hj2
   (repeat' first|refine Ca 7 ?_;(refine Cj 7 ?_)|refine Ca 23 ?_;refine Ch (hc:=hone) ?_|refine Ca 24 ?_;(refine Dh 24 ?_)|refine yyp ?_;try refine Cc ?_ ?_<;>intro hb|refine yy ?_|(refine Cq ?_;first|(refine Cs (fun kv=>?_))|(refine z_append_suf (fun sx sp kv hsx hsp hsl=>?_)))|refine at_nil ?_;refine Ce Pk ?_|refine Cb fun K hK=>?_|apply_assumption -exfalso -symm)
   refine⟨(j+1,kv),by dsimp only;omega,by dsimp only;omega,?_⟩;dsimp only;rw[ks1 tag l σ j hj2];simp only[Ap,Am,Aw];exact v6
  (repeat' first|refine yyp ?_;try refine Cc ?_ ?_<;>intro hb|refine yy ?_|refine at_nil ?_;refine Ce Pk ?_|refine Cb fun K hK=>?_|apply_assumption -exfalso -symm)
  have hjl:j=l.length:=by omega
  subst hjl;rw[Au]
  (refine j0 (j7 ⟨?_,rfl⟩))
  rfl
 case none=>
  (refine j4 func59 ntmps59 results59 fun w M E b0=>?_)
  (repeat' first|refine Ca 13 ?_;(refine jc3 13 ?_)|refine yyp ?_;try refine Cc ?_ ?_<;>intro hb|refine yy ?_|refine yy2 ?_ ?_<;>intro hcmp|refine at_nil ?_;refine Ce Pk ?_|refine Cb fun K hK=>?_|apply_assumption -exfalso -symm)
  ·have h0:l=[]:=At (by omega);subst h0;simp only[Aq,Nat.lt_irrefl,decide_false,Az,Bool.not_false]
   (refine j0 (j7 ⟨?_,rfl⟩))
   rfl
  refine jg6 (fun x:Nat × Nat=>⟨[(16,.d (.int .i64 x.1)),(15,.d (.int .i64 l.length)),(14,.d (.list 6 (l.map dE))),(5,.own 13 x.2),(1,.clo (.func 60) [] [.ptr 1005 0,.ptr 1006 0,.ptr 1002 0])],(13,.row 28 6 true ((Sc.Dn tag σ (l.take x.1)).1.map dE) x.2)::(1005,.box [.d (.bool tag)])::(1006,.box [.d (.bool (!(tag && decide (0<x.1))))])::(1002,.box [.ptr 900 0])::HW .none (Sc.Dn tag σ (l.take x.1)).2,gl⟩)
   (fun x=>x.1<=l.length) (fun x=>l.length - x.1) (0,0) (Ak _) (by simp only[Fd,Sc.Dn,Nat.lt_irrefl,decide_false,Az,Bool.not_false];exact v6) fun⟨j,kv⟩ hj=>?_
  dsimp only[HW,ja4,n6]at hj ⊢;have hlen:=mg0 tag (l.take j) σ;simp only[Aj]at hlen;rcases Ah j l.length with hj2|hj2
  ·have hone:=h2 j hj2
   (repeat' first|refine Ca 7 ?_;(refine Cj 7 ?_)|refine Ca 23 ?_;refine Ch (hc:=hone) ?_|refine Ca 24 ?_;(refine Dh 24 ?_)|refine yyp ?_;try refine Cc ?_ ?_<;>intro hb|refine yy ?_|(refine Cq ?_;first|(refine Cs (fun kv=>?_))|(refine z_append_suf (fun sx sp kv hsx hsp hsl=>?_)))|refine at_nil ?_;refine Ce Pk ?_|refine Cb fun K hK=>?_|apply_assumption -exfalso -symm)
   refine⟨(j+1,kv),by dsimp only;omega,by dsimp only;omega,?_⟩;dsimp only;rw[ks1 tag l σ j hj2];simp only[Ap,Am,Aw];exact v6
  (repeat' first|refine yyp ?_;try refine Cc ?_ ?_<;>intro hb|refine yy ?_|refine at_nil ?_;refine Ce Pk ?_|refine Cb fun K hK=>?_|apply_assumption -exfalso -symm)
  have hjl:j=l.length:=by omega
  subst hjl;rw[Au]
  (refine j0 (j7 ⟨?_,rfl⟩))
  rfl
end
end Go.Proofs.YtdopmfifmgkmoaaGreatDoor
