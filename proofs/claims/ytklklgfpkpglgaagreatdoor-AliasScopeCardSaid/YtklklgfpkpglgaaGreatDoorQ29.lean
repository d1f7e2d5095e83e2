/- Parts. -/
import Derived.Test.YtklklgfpkpglgaaGreatDoorQ24
set_option linter.all false
set_option maxRecDepth 100000
set_option maxHeartbeats 0
namespace Go.Proofs.YtklklgfpkpglgaaGreatDoor
open Go.RowKit Go.Proofs.Tryz Sc
variable (gl:List (Nat × List D))
section
namespace Sc
theorem mz9 (k:Nat):aC k≠ByteArray.empty:=λh=>by
 have:=congrArg ByteArray.size h;simp[aC,ByteArray.size]at this
def Incr (has:ByteArray->Prop):Int->List Ent->Int->Prop
 |c,[],d=>c<=d
 |c,x::l,d=>∃ k:Nat,x.aD=aC k/\c<k/\¬has (aC k)/\Incr has k l d
theorem Incr.le {has:ByteArray->Prop}:∀ {l:List Ent} {c d:Int},Incr has c l d->c<=d
 |[],_,_,h=>h
 |_::l,_,_,⟨k,_,h1,_,h2⟩=>by have:=Incr.le h2;omega
theorem Incr.up {has:ByteArray->Prop}:∀ {l:List Ent} {c d d':Int},Incr has c l d->d<=d'->Incr has c l d'
 |[],_,_,_,h,h'=>Int.le_trans h h'
 |_::l,_,_,_,⟨k,h1,h2,h3,h4⟩,h'=>⟨k,h1,h2,h3,Incr.up h4 h'⟩
theorem jo7 (σ:W)(h:0<=σ.count):∃ k:Nat,(Co σ).1=aC k/\σ.count<k/\¬σ.has (aC k)/\(Co σ).2.count=k:=by
 unfold Co;dsimp only;exact⟨_,rfl,by omega,Qn σ _,rfl⟩
theorem jo8:∀ (l:List (Bool × List ByteArray)) (σ:W),0<=σ.count->Incr σ.has σ.count (Da σ l).1 (Da σ l).2.count
 |[],σ,_=>Eu _
 |x::l,σ,h=>by
  obtain⟨k,h1,h2,h3,h4⟩:=jo7 σ h;have h5:=jo8 l (Co σ).2 (by omega);rw[h4]at h5;exact⟨k,h1,h2,h3,h5⟩
theorem Uo {has:ByteArray->Prop}:∀ {l:List Ent} {c d:Int},Incr has c l d->∀ x∈l,∃ k:Nat,x.aD=aC k/\c<k/\(k:Int)<=d/\¬has (aC k)
 |_::l,_,_,⟨k,h1,h2,h3,h4⟩,x,hx=>by
  rcases Bc.1 hx with rfl|hx
  ·exact⟨k,h1,h2,h4.le,h3⟩
  ·obtain⟨j,h5,h6,h7,h8⟩:=Uo h4 x hx;exact⟨j,h5,by omega,h7,h8⟩
theorem Rv:∀ (l:List Fo) (ns:List ByteArray),ns.length=l.length->(named l ns).length=l.length
 |[],[],_=>rfl
 |[],_::_,h=>by cases h
 |_::_,[],h=>by cases h
 |f::l,n::ns,h=>by simp only[named,Aj,Rv l ns (by simpa using h)]
theorem kj2:∀ (l:List Fo) (ns:List ByteArray),ns.length=l.length->(named l ns).map (·.name)=ns
 |[],[],_=>rfl
 |[],_::_,h=>by cases h
 |_::_,[],h=>by cases h
 |f::l,n::ns,h=>by simp only[named,List.map_cons,kj2 l ns (by simpa using h)]
theorem kj3 {has:ByteArray->Prop}:∀ (l:List (Bool × List ByteArray)) (σ:W),(∀ x∈l,∀ t∈x.2,has t)->∀ x∈(Da σ l).1,∀ t∈x.tags,has t
 |[],_,_,x,hx=>by cases hx
 |y::l,σ,h,x,hx=>by
  simp only[Da]at hx;rcases Bc.1 hx with rfl|hx
  ·exact h y Aw
  ·exact kj3 l _ (λz hz=>h z (Ax _ hz)) x hx
def ql2 (kind:Int)(av:Ex)(au:List Ex)(rep:Rp):Prop:=((kind=18->rep.name=ByteArray.empty)/\(rep.name=ByteArray.empty->rep=rp0))/\(kind=5->au≠[]/\Cz av.kind=true/\∀ e∈au.head?,e.kind=4->e.l=[])
mutual
def Tj:Pr->Prop
 |.mk kind _ av _ au rep ak l _ (.mk sk st sn se spp sf sb)=>ql2 kind av au rep/\(kind≠18->Sp.mk sk st sn se spp sf sb=sp0)/\(∀ s∈sn,s≠ByteArray.empty)/\(∀ f∈sf,f.name≠ByteArray.empty)/\Qd sb/\Sz ak/\Qd l
def Qd:List Pr->Prop
 |[]=>True
 |p::l=>Tj p/\Qd l
def Yb:Gu->Prop
 |.mk _ _ _ _ _ _ _ body=>Qd body
def Sz:List Gu->Prop
 |[]=>True
 |g::l=>Yb g/\Sz l
end
mutual
def Dm:Pr->List ByteArray
 |.mk _ _ _ _ _ _ ak l _ (.mk _ _ _ _ spp _ sb)=>spp.l.map (·.tag)++(Jl sb++(Kc ak++Jl l))
def Jl:List Pr->List ByteArray
 |[]=>[]
 |p::l=>Dm p++Jl l
def Jc:Gu->List ByteArray
 |.mk _ name _ _ _ _ _ body=>name::Jl body
def Kc:List Gu->List ByteArray
 |[]=>[]
 |g::l=>Jc g++Kc l
end
end Sc
end
section
def Sm:List Nat:=[0,1,4,5,7,10,14,15,16,17]
attribute [local irreducible] TR TC
theorem kx4 (k:Sc.Kind)(l:List Gu)(σ:W)(hl:l.length<=1000000000)
 (h1:∀ (j:Nat) (hj:j<l.length),FnE prog gl 57 [.ptr 900 0,.d (dGu l[j])] (HW k (z6 Ju σ (l.take j)).2)
   (λv H1=>v=.d (dGu (Ju (z6 Ju σ (l.take j)).2 l[j]).1)/\H1=HW k (Ju (z6 Ju σ (l.take j)).2 l[j]).2)):
 FnE prog gl 56 [.d (.list 23 (l.map dGu)),.clo (.func 57) [.ptr 900 0] []] (HW k σ)
  (λv H1=>v=.d (.list 23 ((z6 Ju σ l).1.map dGu))/\H1=HW k (z6 Ju σ l).2):=by
 simp only[jb7]at h1 ⊢;have tg:k=k:=rfl;cases k
 all_goals dsimp only[HW,je0,jb3]at h1 ⊢
 all_goals
  (refine j3 func56 ntmps56 results56 λw M E b0=>?_)
  (repeat' first|apply Ca 13;(refine ka3 13 ?_)|refine yyp ?_;try refine Ce ?_ ?_<;>intro hb|refine yy ?_|refine yy2 ?_ ?_<;>intro hcmp|apply ah;refine Cc Sm ?_|refine Cb λK hK=>?_|apply_assumption -exfalso -symm)
  ·have h0:l=[]:=Bg (by omega);subst h0
   (refine j1 (j8 ⟨?_,rfl⟩))
   rfl
  refine kp0 (λx:Nat × Nat=>⟨[(16,.d (.int .i64 x.1)),(15,.d (.int .i64 l.length)),(14,.d (.list 23 (l.map dG))),(5,.own 13 x.2),(1,.clo (.func 57) [.ptr 900 0] [])],(13,.row 93 23 true ((z6 Ju σ (l.take x.1)).1.map dG) x.2)::HW (kof tg) (z6 Ju σ (l.take x.1)).2,gl⟩)
   (λx=>x.1<=l.length) (λx=>l.length - x.1) (0,0) (Ak _) v6 λ⟨j,kv⟩ hj=>?_
  dsimp only[HW,je0,jb3,kof]at hj ⊢;have hlen:=jj9 Ju (l.take j) σ;simp only[Aq]at hlen;rcases Ai j l.length with hj2|hj2
  ·have hone:=h1 j hj2
   (repeat' first|apply Ca 7;(refine j2 7 ?_)|apply Ca 23;refine Ch (hc:=hone) ?_|apply Ca 24;(refine Fu 24 ?_)|refine yyp ?_;try refine Ce ?_ ?_<;>intro hb|refine yy ?_|(apply Dw;first|(refine Gj (λkv=>?_))|(refine ai (λsx sp kv hsx hsp hsl=>?_)))|apply ah;refine Cc Sm ?_|refine Cb λK hK=>?_|apply_assumption -exfalso -symm)
   refine⟨(j+1,kv),by dsimp only;omega,by dsimp only;omega,?_⟩;dsimp only;rw[ji5 Ju l σ j hj2];simp only[Av,List.map_cons,Bj];exact v6
  (repeat' first|refine yyp ?_;try refine Ce ?_ ?_<;>intro hb|refine yy ?_|apply ah;refine Cc Sm ?_|refine Cb λK hK=>?_|apply_assumption -exfalso -symm)
  have hjl:j=l.length:=by omega
  subst hjl;rw[Bv]
  (refine j1 (j8 ⟨?_,rfl⟩))
  rfl
theorem kj4 (k:Sc.Kind)(l:List Pr)(σ:W)(hl:l.length<=1000000000)
 (h1:∀ (j:Nat) (hj:j<l.length),FnE prog gl 31 [.ptr 900 0,.d (dPr l[j])] (HW k (z6 Fz σ (l.take j)).2)
   (λv H1=>v=.d (dPr (Fz (z6 Fz σ (l.take j)).2 l[j]).1)/\H1=HW k (Fz (z6 Fz σ (l.take j)).2 l[j]).2)):
 FnE prog gl 58 [.d (.list 42 (l.map dPr)),.clo (.func 31) [.ptr 900 0] []] (HW k σ)
  (λv H1=>v=.d (.list 42 ((z6 Fz σ l).1.map dPr))/\H1=HW k (z6 Fz σ l).2):=by
 simp only[v7]at h1 ⊢;have tg:k=k:=rfl;cases k
 all_goals dsimp only[HW,je0,jb3]at h1 ⊢
 all_goals
  (refine j3 func58 ntmps58 results58 λw M E b0=>?_)
  (repeat' first|apply Ca 13;(refine ka3 13 ?_)|refine yyp ?_;try refine Ce ?_ ?_<;>intro hb|refine yy ?_|refine yy2 ?_ ?_<;>intro hcmp|apply ah;refine Cc Sm ?_|refine Cb λK hK=>?_|apply_assumption -exfalso -symm)
  ·have h0:l=[]:=Bg (by omega);subst h0
   (refine j1 (j8 ⟨?_,rfl⟩))
   rfl
  refine kp0 (λx:Nat × Nat=>⟨[(16,.d (.int .i64 x.1)),(15,.d (.int .i64 l.length)),(14,.d (.list 42 (l.map dP))),(5,.own 13 x.2),(1,.clo (.func 31) [.ptr 900 0] [])],(13,.row 45 42 true ((z6 Fz σ (l.take x.1)).1.map dP) x.2)::HW (kof tg) (z6 Fz σ (l.take x.1)).2,gl⟩)
   (λx=>x.1<=l.length) (λx=>l.length - x.1) (0,0) (Ak _) v6 λ⟨j,kv⟩ hj=>?_
  dsimp only[HW,je0,jb3,kof]at hj ⊢;have hlen:=jj9 Fz (l.take j) σ;simp only[Aq]at hlen;rcases Ai j l.length with hj2|hj2
  ·have hone:=h1 j hj2
   (repeat' first|apply Ca 7;(refine j2 7 ?_)|apply Ca 23;refine Ch (hc:=hone) ?_|apply Ca 24;(refine Fu 24 ?_)|refine yyp ?_;try refine Ce ?_ ?_<;>intro hb|refine yy ?_|(apply Dw;first|(refine Gj (λkv=>?_))|(refine ai (λsx sp kv hsx hsp hsl=>?_)))|apply ah;refine Cc Sm ?_|refine Cb λK hK=>?_|apply_assumption -exfalso -symm)
   refine⟨(j+1,kv),by dsimp only;omega,by dsimp only;omega,?_⟩;dsimp only;rw[ji5 Fz l σ j hj2];simp only[Av,List.map_cons,Bj];exact v6
  (repeat' first|refine yyp ?_;try refine Ce ?_ ?_<;>intro hb|refine yy ?_|apply ah;refine Cc Sm ?_|refine Cb λK hK=>?_|apply_assumption -exfalso -symm)
  have hjl:j=l.length:=by omega
  subst hjl;rw[Bv]
  (refine j1 (j8 ⟨?_,rfl⟩))
  rfl
end
section
def Wx:List Nat:=[0,1,4,5,7,10,14,15,16,17]
variable {mm:Int}
def kd4 (tag first:Bool)(σ:W)(e:Ex):Ex × W:=if tag=true/\first=true then (e,σ) else j5 σ e
theorem re7 (tag:Bool)(l:List Ex)(σ:W)(j:Nat)(hj:j<l.length):
 Gg tag σ (l.take (j+1))=((Gg tag σ (l.take j)).1++[(kd4 tag (!(tag && decide (0<j))) (Gg tag σ (l.take j)).2 l[j]).1],(kd4 tag (!(tag && decide (0<j))) (Gg tag σ (l.take j)).2 l[j]).2):=by
 cases l with
 |nil=>simp at hj
 |cons e l=>
  cases tag with
  |false=>
   have e2:∀ (υ:W) (x:List Ex),Gg false υ x=z6 j5 υ x:=λ_ x=>by cases x<;>rfl
   rw[e2,e2,ji5 j5 (e::l) σ j hj];unfold kd4;simp
  |true=>
   cases j with
   |zero=>simp[Gg,kd4,z6]
   |succ j=>
    have hj':j<l.length:=by simpa using hj
    have:=ji5 j5 l σ j hj';simp only[Ez,Gg,if_true,this,Fb,kd4];simp
theorem rv8 (tag:Bool)(l:List Ex)(σ:W):(Gg tag σ l).1.length=l.length:=by
 cases tag with
 |false=>
  rw[show Gg false σ l=z6 j5 σ l by cases l<;>rfl];exact jj9 _ _ _
 |true=>
  cases l with
  |nil=>rfl
  |cons e l=>simp[Gg,jj9]
attribute [local irreducible] TR TC
theorem mo1 (k:Sc.Kind)(σ:W)(tag first:Bool)(e:Ex)
 (he:FnE prog gl 48 [.ptr 900 0,.d (dEx e)] (HW k σ) (λv H1=>v=.d (dEx (j5 σ e).1)/\H1=HW k (j5 σ e).2)):
 FnE prog gl 50 [.d (dEx e),.ptr 1005 0,.ptr 1006 0,.ptr 1002 0] ((1005,.box [.d (.bool tag)])::(1006,.box [.d (.bool first)])::(1002,.box [.ptr 900 0])::HW k σ)
  (λv H1=>v=.d (dEx (kd4 tag first σ e).1)/\H1=(1005,.box [.d (.bool tag)])::(1006,.box [.d (.bool (first && !tag))])::(1002,.box [.ptr 900 0])::HW k (kd4 tag first σ e).2):=by
 unfold kd4;simp only[r8]at he ⊢;generalize j5 σ e=r at he ⊢;cases tag<;>cases first
 all_goals simp only[Bb,false_and,and_false,and_self,if_true,if_false,Bool.not_true,Bool.not_false,Bu,Be,Bf,As]
 all_goals cases k
 all_goals dsimp only[HW,je0,jb3]at he ⊢
 all_goals (refine j3 func50 ntmps50 results50 λw M E b0=>?_)
 all_goals (repeat' first|apply Ca 4;(refine Ck 4 ?_)|apply Ca 5;(refine j2 5 ?_)|apply Ca 13;refine Ch (hc:=he) ?_|refine yyp ?_;try refine Ce ?_ ?_<;>intro hb|refine yy ?_|apply ah;refine Cc [0,1,2,3,4,5,6,9,28] ?_|refine Cb λK hK=>?_|apply_assumption -exfalso -symm)
 all_goals (refine j1 (j8 ⟨?_,rfl⟩))
 all_goals rfl
theorem ju2 (k:Sc.Kind)(tag:Bool)(l:List Ex)(σ:W)(hl:l.length<=1000000000)
 (h1:∀ (j:Nat) (hj:j<l.length),FnE prog gl 48 [.ptr 900 0,.d (dEx l[j])] (HW k (Gg tag σ (l.take j)).2)
   (λv H1=>v=.d (dEx (j5 (Gg tag σ (l.take j)).2 l[j]).1)/\H1=HW k (j5 (Gg tag σ (l.take j)).2 l[j]).2)):
 FnE prog gl 49 [.d (.list 6 (l.map dEx)),.clo (.func 50) [] [.ptr 1005 0,.ptr 1006 0,.ptr 1002 0]] ((1005,.box [.d (.bool tag)])::(1006,.box [.d (.bool true)])::(1002,.box [.ptr 900 0])::HW k σ)
  (λv H1=>v=.d (.list 6 ((Gg tag σ l).1.map dEx))/\H1=(1005,.box [.d (.bool tag)])::(1006,.box [.d (.bool (!(tag && decide (0<l.length))))])::(1002,.box [.ptr 900 0])::HW k (Gg tag σ l).2):=by
 have h2:=λj hj=>mo1 gl k (Gg tag σ (l.take j)).2 tag (!(tag && decide (0<j))) (l[j]'hj) (h1 j hj);clear h1;have hft:∀ j,(!(tag && decide (0<j)) && !tag)=!(tag && decide (0<j+1)):=λj=>by cases tag<;>simp
 simp only[r8,hft]at h2 ⊢;have tg:k=k:=rfl;cases k
 all_goals dsimp only[HW,je0,jb3]at h2 ⊢
 all_goals
  (refine j3 func49 ntmps49 results49 λw M E b0=>?_)
  (repeat' first|apply Ca 13;(refine ka3 13 ?_)|refine yyp ?_;try refine Ce ?_ ?_<;>intro hb|refine yy ?_|refine yy2 ?_ ?_<;>intro hcmp|apply ah;refine Cc Wx ?_|refine Cb λK hK=>?_|apply_assumption -exfalso -symm)
  ·have h0:l=[]:=Bg (by omega);subst h0;simp only[Az,Nat.lt_irrefl,decide_false,Be,Bool.not_false]
   (refine j1 (j8 ⟨?_,rfl⟩))
   rfl
  refine kp0 (λx:Nat × Nat=>⟨[(16,.d (.int .i64 x.1)),(15,.d (.int .i64 l.length)),(14,.d (.list 6 (l.map dE))),(5,.own 13 x.2),(1,.clo (.func 50) [] [.ptr 1005 0,.ptr 1006 0,.ptr 1002 0])],(13,.row 28 6 true ((Gg tag σ (l.take x.1)).1.map dE) x.2)::(1005,.box [.d (.bool tag)])::(1006,.box [.d (.bool (!(tag && decide (0<x.1))))])::(1002,.box [.ptr 900 0])::HW (kof tg) (Gg tag σ (l.take x.1)).2,gl⟩)
   (λx=>x.1<=l.length) (λx=>l.length - x.1) (0,0) (Ak _) (by simp only[List.take_zero,Gg,Nat.lt_irrefl,decide_false,Be,Bool.not_false];exact v6) λ⟨j,kv⟩ hj=>?_
  dsimp only[HW,je0,jb3,kof]at hj ⊢;have hlen:=rv8 tag (l.take j) σ;simp only[Aq]at hlen;rcases Ai j l.length with hj2|hj2
  ·have hone:=h2 j hj2
   (repeat' first|apply Ca 7;(refine j2 7 ?_)|apply Ca 23;refine Ch (hc:=hone) ?_|apply Ca 24;(refine Fu 24 ?_)|refine yyp ?_;try refine Ce ?_ ?_<;>intro hb|refine yy ?_|(apply Dw;first|(refine Gj (λkv=>?_))|(refine ai (λsx sp kv hsx hsp hsl=>?_)))|apply ah;refine Cc Wx ?_|refine Cb λK hK=>?_|apply_assumption -exfalso -symm)
   refine⟨(j+1,kv),by dsimp only;omega,by dsimp only;omega,?_⟩;dsimp only;rw[re7 tag l σ j hj2];simp only[Av,List.map_cons,Bj];exact v6
  (repeat' first|refine yyp ?_;try refine Ce ?_ ?_<;>intro hb|refine yy ?_|apply ah;refine Cc Wx ?_|refine Cb λK hK=>?_|apply_assumption -exfalso -symm)
  have hjl:j=l.length:=by omega
  subst hjl;rw[Bv]
  (refine j1 (j8 ⟨?_,rfl⟩))
  rfl
end
end Go.Proofs.YtklklgfpkpglgaaGreatDoor
