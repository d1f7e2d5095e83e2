/- Parts. -/
import Derived.Test.YtklklgfpkpglgaaGreatDoorW23
set_option linter.all false
set_option maxRecDepth 100000
set_option maxHeartbeats 0
namespace Go.Proofs.YtklklgfpkpglgaaGreatDoor
open Go.RowKit Go.Proofs.Tryz Sc
variable (gl:List (Nat × List D))
section
namespace Sc
def Incr (has:ByteArray->Prop):Int->List Ent->Int->Prop
 |c,[],d=>c<=d
 |c,x::l,d=>∃ k:Nat,x.aD=aC k/\c<k/\¬has (aC k)/\Incr has k l d
theorem Incr.le {has:ByteArray->Prop}:∀ {l:List Ent} {c d:Int},Incr has c l d->c<=d
 |[],_,_,h=>h
 |_::l,_,_,⟨k,_,h1,_,h2⟩=>by have:=Incr.le h2;omega
theorem Incr.up {has:ByteArray->Prop}:∀ {l:List Ent} {c d d':Int},Incr has c l d->d<=d'->Incr has c l d'
 |[],_,_,_,h,h'=>Int.le_trans h h'
 |_::l,_,_,_,⟨k,h1,h2,h3,h4⟩,h'=>⟨k,h1,h2,h3,Incr.up h4 h'⟩
theorem jx0 (σ:W)(h:0<=σ.count):∃ k:Nat,(Cx σ).1=aC k/\σ.count<k/\¬σ.has (aC k)/\(Cx σ).2.count=k:=by
 unfold Cx;dsimp only;exact⟨_,rfl,by omega,Rb σ _,rfl⟩
theorem jp9:∀ (l:List (Bool × List ByteArray)) (σ:W),0<=σ.count->Incr σ.has σ.count (Cr σ l).1 (Cr σ l).2.count
 |[],σ,_=>Ez _
 |x::l,σ,h=>by
  obtain⟨k,h1,h2,h3,h4⟩:=jx0 σ h;have h5:=jp9 l (Cx σ).2 (by omega);rw[h4]at h5;exact⟨k,h1,h2,h3,h5⟩
theorem Uq {has:ByteArray->Prop}:∀ {l:List Ent} {c d:Int},Incr has c l d->∀ x∈l,∃ k:Nat,x.aD=aC k/\c<k/\(k:Int)<=d/\¬has (aC k)
 |_::l,_,_,⟨k,h1,h2,h3,h4⟩,x,hx=>by
  rcases Bg.1 hx with rfl|hx
  ·exact⟨k,h1,h2,h4.le,h3⟩
  ·obtain⟨j,h5,h6,h7,h8⟩:=Uq h4 x hx;exact⟨j,h5,by omega,h7,h8⟩
theorem Oz:∀ (l:List Fo) (ns:List ByteArray),ns.length=l.length->(named l ns).length=l.length
 |[],[],_=>rfl
 |[],_::_,h=>by cases h
 |_::_,[],h=>by cases h
 |f::l,n::ns,h=>by simp only[named,An,Oz l ns (by simpa using h)]
theorem ki9:∀ (l:List Fo) (ns:List ByteArray),ns.length=l.length->(named l ns).map (·.name)=ns
 |[],[],_=>rfl
 |[],_::_,h=>by cases h
 |_::_,[],h=>by cases h
 |f::l,n::ns,h=>by simp only[named,Ap,ki9 l ns (by simpa using h)]
def rf8 (kind:Int)(av:Ex)(au:List Ex)(rep:Rp):Prop:=((kind=18->rep.name=ByteArray.empty)/\(rep.name=ByteArray.empty->rep=rp0))/\(kind=5->au≠[]/\Dm av.kind=true/\∀ e∈au.head?,e.kind=4->e.l=[])
mutual
def Uu:Pr->Prop
 |.mk kind _ av _ au rep ak l _ (.mk sk st sn se spp sf sb)=>rf8 kind av au rep/\(kind≠18->Sp.mk sk st sn se spp sf sb=sp0)/\(∀ s∈sn,s≠ByteArray.empty)/\(∀ f∈sf,f.name≠ByteArray.empty)/\Rv sb/\Ue ak/\Rv l
def Rv:List Pr->Prop
 |[]=>True
 |p::l=>Uu p/\Rv l
def okGu:Gu->Prop
 |.mk _ _ _ _ _ _ _ body=>Rv body
def Ue:List Gu->Prop
 |[]=>True
 |g::l=>okGu g/\Ue l
end
mutual
def Dr:Pr->List ByteArray
 |.mk _ _ _ _ _ _ ak l _ (.mk _ _ _ _ spp _ sb)=>spp.l.map (·.tag)++(Kr sb++(Lc ak++Kr l))
def Kr:List Pr->List ByteArray
 |[]=>[]
 |p::l=>Dr p++Kr l
def Jt:Gu->List ByteArray
 |.mk _ name _ _ _ _ _ body=>name::Kr body
def Lc:List Gu->List ByteArray
 |[]=>[]
 |g::l=>Jt g++Lc l
end
end Sc
end
section
def Km:List Nat:=[0,1,4,5,7,10,14,15,16,17]
attribute [local irreducible] TR TC
theorem kv2 (k:Sc.Kind)(l:List Gu)(σ:W)(hl:l.length<=1000000000)
 (h1:∀ (j:Nat) (hj:j<l.length),FnE prog gl 57 [.ptr 900 0,.d (dGu l[j])] (HW k (y9 Jo σ (l.take j)).2)
   (λv H1=>v=.d (dGu (Jo (y9 Jo σ (l.take j)).2 l[j]).1)/\H1=HW k (Jo (y9 Jo σ (l.take j)).2 l[j]).2)):
 FnE prog gl 56 [.d (.list 23 (l.map dGu)),.clo (.func 57) [.ptr 900 0] []] (HW k σ)
  (λv H1=>v=.d (.list 23 ((y9 Jo σ l).1.map dGu))/\H1=HW k (y9 Jo σ l).2):=by
 simp only[jb9]at h1 ⊢;cases k
 all_goals dsimp only[HW,ja9,n7]at h1 ⊢
 case free=>
  (refine j2 func56 ntmps56 results56 λw M E b0=>?_)
  (repeat' first|apply Ca 13;(refine jc9 13 ?_)|refine yyp ?_;try refine Ce ?_ ?_<;>intro hb|refine yy ?_|refine yy2 ?_ ?_<;>intro hcmp|apply ah;refine Cc Km ?_|refine Cb λK hK=>?_|apply_assumption -exfalso -symm)
  ·have h0:l=[]:=As (by omega);subst h0
   (refine j1 (j6 ⟨?_,rfl⟩))
   rfl
  refine ji0 (λx:Nat × Nat=>⟨[(16,.d (.int .i64 x.1)),(15,.d (.int .i64 l.length)),(14,.d (.list 23 (l.map dG))),(5,.own 13 x.2),(1,.clo (.func 57) [.ptr 900 0] [])],(13,.row 93 23 true ((y9 Jo σ (l.take x.1)).1.map dG) x.2)::HW .free (y9 Jo σ (l.take x.1)).2,gl⟩)
   (λx=>x.1<=l.length) (λx=>l.length - x.1) (0,0) (Ai _) r9 λ⟨j,kv⟩ hj=>?_
  dsimp only[HW,ja9,n7]at hj ⊢;have hlen:=ja8 Jo (l.take j) σ;simp only[Ak]at hlen;rcases Ah j l.length with hj2|hj2
  ·have hone:=h1 j hj2
   (repeat' first|apply Ca 7;(refine j3 7 ?_)|apply Ca 23;refine Ch (hc:=hone) ?_|apply Ca 24;(refine Df 24 ?_)|refine yyp ?_;try refine Ce ?_ ?_<;>intro hb|refine yy ?_|(apply Cw;first|(refine Da (λkv=>?_))|(refine ai (λsx sp kv hsx hsp hsl=>?_)))|apply ah;refine Cc Km ?_|refine Cb λK hK=>?_|apply_assumption -exfalso -symm)
   refine⟨(j+1,kv),by dsimp only;omega,by dsimp only;omega,?_⟩;dsimp only;rw[p8 Jo l σ j hj2];simp only[Ar,Ap,Ba];exact r9
  (repeat' first|refine yyp ?_;try refine Ce ?_ ?_<;>intro hb|refine yy ?_|apply ah;refine Cc Km ?_|refine Cb λK hK=>?_|apply_assumption -exfalso -symm)
  have hjl:j=l.length:=by omega
  subst hjl;rw[Bk]
  (refine j1 (j6 ⟨?_,rfl⟩))
  rfl
 case check ns=>
  (refine j2 func56 ntmps56 results56 λw M E b0=>?_)
  (repeat' first|apply Ca 13;(refine jc9 13 ?_)|refine yyp ?_;try refine Ce ?_ ?_<;>intro hb|refine yy ?_|refine yy2 ?_ ?_<;>intro hcmp|apply ah;refine Cc Km ?_|refine Cb λK hK=>?_|apply_assumption -exfalso -symm)
  ·have h0:l=[]:=As (by omega);subst h0
   (refine j1 (j6 ⟨?_,rfl⟩))
   rfl
  refine ji0 (λx:Nat × Nat=>⟨[(16,.d (.int .i64 x.1)),(15,.d (.int .i64 l.length)),(14,.d (.list 23 (l.map dG))),(5,.own 13 x.2),(1,.clo (.func 57) [.ptr 900 0] [])],(13,.row 93 23 true ((y9 Jo σ (l.take x.1)).1.map dG) x.2)::HW (.check ns) (y9 Jo σ (l.take x.1)).2,gl⟩)
   (λx=>x.1<=l.length) (λx=>l.length - x.1) (0,0) (Ai _) r9 λ⟨j,kv⟩ hj=>?_
  dsimp only[HW,ja9,n7]at hj ⊢;have hlen:=ja8 Jo (l.take j) σ;simp only[Ak]at hlen;rcases Ah j l.length with hj2|hj2
  ·have hone:=h1 j hj2
   (repeat' first|apply Ca 7;(refine j3 7 ?_)|apply Ca 23;refine Ch (hc:=hone) ?_|apply Ca 24;(refine Df 24 ?_)|refine yyp ?_;try refine Ce ?_ ?_<;>intro hb|refine yy ?_|(apply Cw;first|(refine Da (λkv=>?_))|(refine ai (λsx sp kv hsx hsp hsl=>?_)))|apply ah;refine Cc Km ?_|refine Cb λK hK=>?_|apply_assumption -exfalso -symm)
   refine⟨(j+1,kv),by dsimp only;omega,by dsimp only;omega,?_⟩;dsimp only;rw[p8 Jo l σ j hj2];simp only[Ar,Ap,Ba];exact r9
  (repeat' first|refine yyp ?_;try refine Ce ?_ ?_<;>intro hb|refine yy ?_|apply ah;refine Cc Km ?_|refine Cb λK hK=>?_|apply_assumption -exfalso -symm)
  have hjl:j=l.length:=by omega
  subst hjl;rw[Bk]
  (refine j1 (j6 ⟨?_,rfl⟩))
  rfl
 case none=>
  (refine j2 func56 ntmps56 results56 λw M E b0=>?_)
  (repeat' first|apply Ca 13;(refine jc9 13 ?_)|refine yyp ?_;try refine Ce ?_ ?_<;>intro hb|refine yy ?_|refine yy2 ?_ ?_<;>intro hcmp|apply ah;refine Cc Km ?_|refine Cb λK hK=>?_|apply_assumption -exfalso -symm)
  ·have h0:l=[]:=As (by omega);subst h0
   (refine j1 (j6 ⟨?_,rfl⟩))
   rfl
  refine ji0 (λx:Nat × Nat=>⟨[(16,.d (.int .i64 x.1)),(15,.d (.int .i64 l.length)),(14,.d (.list 23 (l.map dG))),(5,.own 13 x.2),(1,.clo (.func 57) [.ptr 900 0] [])],(13,.row 93 23 true ((y9 Jo σ (l.take x.1)).1.map dG) x.2)::HW .none (y9 Jo σ (l.take x.1)).2,gl⟩)
   (λx=>x.1<=l.length) (λx=>l.length - x.1) (0,0) (Ai _) r9 λ⟨j,kv⟩ hj=>?_
  dsimp only[HW,ja9,n7]at hj ⊢;have hlen:=ja8 Jo (l.take j) σ;simp only[Ak]at hlen;rcases Ah j l.length with hj2|hj2
  ·have hone:=h1 j hj2
   (repeat' first|apply Ca 7;(refine j3 7 ?_)|apply Ca 23;refine Ch (hc:=hone) ?_|apply Ca 24;(refine Df 24 ?_)|refine yyp ?_;try refine Ce ?_ ?_<;>intro hb|refine yy ?_|(apply Cw;first|(refine Da (λkv=>?_))|(refine ai (λsx sp kv hsx hsp hsl=>?_)))|apply ah;refine Cc Km ?_|refine Cb λK hK=>?_|apply_assumption -exfalso -symm)
   refine⟨(j+1,kv),by dsimp only;omega,by dsimp only;omega,?_⟩;dsimp only;rw[p8 Jo l σ j hj2];simp only[Ar,Ap,Ba];exact r9
  (repeat' first|refine yyp ?_;try refine Ce ?_ ?_<;>intro hb|refine yy ?_|apply ah;refine Cc Km ?_|refine Cb λK hK=>?_|apply_assumption -exfalso -symm)
  have hjl:j=l.length:=by omega
  subst hjl;rw[Bk]
  (refine j1 (j6 ⟨?_,rfl⟩))
  rfl
theorem kj0 (k:Sc.Kind)(l:List Pr)(σ:W)(hl:l.length<=1000000000)
 (h1:∀ (j:Nat) (hj:j<l.length),FnE prog gl 31 [.ptr 900 0,.d (dPr l[j])] (HW k (y9 Dp σ (l.take j)).2)
   (λv H1=>v=.d (dPr (Dp (y9 Dp σ (l.take j)).2 l[j]).1)/\H1=HW k (Dp (y9 Dp σ (l.take j)).2 l[j]).2)):
 FnE prog gl 58 [.d (.list 42 (l.map dPr)),.clo (.func 31) [.ptr 900 0] []] (HW k σ)
  (λv H1=>v=.d (.list 42 ((y9 Dp σ l).1.map dPr))/\H1=HW k (y9 Dp σ l).2):=by
 simp only[v6]at h1 ⊢;cases k
 all_goals dsimp only[HW,ja9,n7]at h1 ⊢
 case free=>
  (refine j2 func58 ntmps58 results58 λw M E b0=>?_)
  (repeat' first|apply Ca 13;(refine jc9 13 ?_)|refine yyp ?_;try refine Ce ?_ ?_<;>intro hb|refine yy ?_|refine yy2 ?_ ?_<;>intro hcmp|apply ah;refine Cc Km ?_|refine Cb λK hK=>?_|apply_assumption -exfalso -symm)
  ·have h0:l=[]:=As (by omega);subst h0
   (refine j1 (j6 ⟨?_,rfl⟩))
   rfl
  refine ji0 (λx:Nat × Nat=>⟨[(16,.d (.int .i64 x.1)),(15,.d (.int .i64 l.length)),(14,.d (.list 42 (l.map dP))),(5,.own 13 x.2),(1,.clo (.func 31) [.ptr 900 0] [])],(13,.row 45 42 true ((y9 Dp σ (l.take x.1)).1.map dP) x.2)::HW .free (y9 Dp σ (l.take x.1)).2,gl⟩)
   (λx=>x.1<=l.length) (λx=>l.length - x.1) (0,0) (Ai _) r9 λ⟨j,kv⟩ hj=>?_
  dsimp only[HW,ja9,n7]at hj ⊢;have hlen:=ja8 Dp (l.take j) σ;simp only[Ak]at hlen;rcases Ah j l.length with hj2|hj2
  ·have hone:=h1 j hj2
   (repeat' first|apply Ca 7;(refine j3 7 ?_)|apply Ca 23;refine Ch (hc:=hone) ?_|apply Ca 24;(refine Df 24 ?_)|refine yyp ?_;try refine Ce ?_ ?_<;>intro hb|refine yy ?_|(apply Cw;first|(refine Da (λkv=>?_))|(refine ai (λsx sp kv hsx hsp hsl=>?_)))|apply ah;refine Cc Km ?_|refine Cb λK hK=>?_|apply_assumption -exfalso -symm)
   refine⟨(j+1,kv),by dsimp only;omega,by dsimp only;omega,?_⟩;dsimp only;rw[p8 Dp l σ j hj2];simp only[Ar,Ap,Ba];exact r9
  (repeat' first|refine yyp ?_;try refine Ce ?_ ?_<;>intro hb|refine yy ?_|apply ah;refine Cc Km ?_|refine Cb λK hK=>?_|apply_assumption -exfalso -symm)
  have hjl:j=l.length:=by omega
  subst hjl;rw[Bk]
  (refine j1 (j6 ⟨?_,rfl⟩))
  rfl
 case check ns=>
  (refine j2 func58 ntmps58 results58 λw M E b0=>?_)
  (repeat' first|apply Ca 13;(refine jc9 13 ?_)|refine yyp ?_;try refine Ce ?_ ?_<;>intro hb|refine yy ?_|refine yy2 ?_ ?_<;>intro hcmp|apply ah;refine Cc Km ?_|refine Cb λK hK=>?_|apply_assumption -exfalso -symm)
  ·have h0:l=[]:=As (by omega);subst h0
   (refine j1 (j6 ⟨?_,rfl⟩))
   rfl
  refine ji0 (λx:Nat × Nat=>⟨[(16,.d (.int .i64 x.1)),(15,.d (.int .i64 l.length)),(14,.d (.list 42 (l.map dP))),(5,.own 13 x.2),(1,.clo (.func 31) [.ptr 900 0] [])],(13,.row 45 42 true ((y9 Dp σ (l.take x.1)).1.map dP) x.2)::HW (.check ns) (y9 Dp σ (l.take x.1)).2,gl⟩)
   (λx=>x.1<=l.length) (λx=>l.length - x.1) (0,0) (Ai _) r9 λ⟨j,kv⟩ hj=>?_
  dsimp only[HW,ja9,n7]at hj ⊢;have hlen:=ja8 Dp (l.take j) σ;simp only[Ak]at hlen;rcases Ah j l.length with hj2|hj2
  ·have hone:=h1 j hj2
   (repeat' first|apply Ca 7;(refine j3 7 ?_)|apply Ca 23;refine Ch (hc:=hone) ?_|apply Ca 24;(refine Df 24 ?_)|refine yyp ?_;try refine Ce ?_ ?_<;>intro hb|refine yy ?_|(apply Cw;first|(refine Da (λkv=>?_))|(refine ai (λsx sp kv hsx hsp hsl=>?_)))|apply ah;refine Cc Km ?_|refine Cb λK hK=>?_|apply_assumption -exfalso -symm)
   refine⟨(j+1,kv),by dsimp only;omega,by dsimp only;omega,?_⟩;dsimp only;rw[p8 Dp l σ j hj2];simp only[Ar,Ap,Ba];exact r9
  (repeat' first|refine yyp ?_;try refine Ce ?_ ?_<;>intro hb|refine yy ?_|apply ah;refine Cc Km ?_|refine Cb λK hK=>?_|apply_assumption -exfalso -symm)
  have hjl:j=l.length:=by omega
  subst hjl;rw[Bk]
  (refine j1 (j6 ⟨?_,rfl⟩))
  rfl
 case none=>
  (refine j2 func58 ntmps58 results58 λw M E b0=>?_)
  (repeat' first|apply Ca 13;(refine jc9 13 ?_)|refine yyp ?_;try refine Ce ?_ ?_<;>intro hb|refine yy ?_|refine yy2 ?_ ?_<;>intro hcmp|apply ah;refine Cc Km ?_|refine Cb λK hK=>?_|apply_assumption -exfalso -symm)
  ·have h0:l=[]:=As (by omega);subst h0
   (refine j1 (j6 ⟨?_,rfl⟩))
   rfl
  refine ji0 (λx:Nat × Nat=>⟨[(16,.d (.int .i64 x.1)),(15,.d (.int .i64 l.length)),(14,.d (.list 42 (l.map dP))),(5,.own 13 x.2),(1,.clo (.func 31) [.ptr 900 0] [])],(13,.row 45 42 true ((y9 Dp σ (l.take x.1)).1.map dP) x.2)::HW .none (y9 Dp σ (l.take x.1)).2,gl⟩)
   (λx=>x.1<=l.length) (λx=>l.length - x.1) (0,0) (Ai _) r9 λ⟨j,kv⟩ hj=>?_
  dsimp only[HW,ja9,n7]at hj ⊢;have hlen:=ja8 Dp (l.take j) σ;simp only[Ak]at hlen;rcases Ah j l.length with hj2|hj2
  ·have hone:=h1 j hj2
   (repeat' first|apply Ca 7;(refine j3 7 ?_)|apply Ca 23;refine Ch (hc:=hone) ?_|apply Ca 24;(refine Df 24 ?_)|refine yyp ?_;try refine Ce ?_ ?_<;>intro hb|refine yy ?_|(apply Cw;first|(refine Da (λkv=>?_))|(refine ai (λsx sp kv hsx hsp hsl=>?_)))|apply ah;refine Cc Km ?_|refine Cb λK hK=>?_|apply_assumption -exfalso -symm)
   refine⟨(j+1,kv),by dsimp only;omega,by dsimp only;omega,?_⟩;dsimp only;rw[p8 Dp l σ j hj2];simp only[Ar,Ap,Ba];exact r9
  (repeat' first|refine yyp ?_;try refine Ce ?_ ?_<;>intro hb|refine yy ?_|apply ah;refine Cc Km ?_|refine Cb λK hK=>?_|apply_assumption -exfalso -symm)
  have hjl:j=l.length:=by omega
  subst hjl;rw[Bk]
  (refine j1 (j6 ⟨?_,rfl⟩))
  rfl
end
section
def Px:List Nat:=[0,1,4,5,7,10,14,15,16,17]
variable {mm:Int}
def kd3 (tag first:Bool)(σ:W)(e:Ex):Ex × W:=if tag=true/\first=true then (e,σ) else j4 σ e
theorem kv3 (tag:Bool)(l:List Ex)(σ:W)(j:Nat)(hj:j<l.length):
 Fw tag σ (l.take (j+1))=((Fw tag σ (l.take j)).1++[(kd3 tag (!(tag && decide (0<j))) (Fw tag σ (l.take j)).2 l[j]).1],(kd3 tag (!(tag && decide (0<j))) (Fw tag σ (l.take j)).2 l[j]).2):=by
 cases l with
 |nil=>simp at hj
 |cons e l=>
  cases tag with
  |false=>
   have e2:∀ (υ:W) (x:List Ex),Fw false υ x=y9 j4 υ x:=λ_ x=>by cases x<;>rfl
   rw[e2,e2,p8 j4 (e::l) σ j hj];unfold kd3;simp
  |true=>
   cases j with
   |zero=>simp[Fw,kd3,y9]
   |succ j=>
    have hj':j<l.length:=by simpa using hj
    have:=p8 j4 l σ j hj';simp only[Fb,Fw,if_true,this,Fd,kd3];simp
theorem ml1 (tag:Bool)(l:List Ex)(σ:W):(Fw tag σ l).1.length=l.length:=by
 cases tag with
 |false=>
  rw[show Fw false σ l=y9 j4 σ l by cases l<;>rfl];exact ja8 _ _ _
 |true=>
  cases l with
  |nil=>rfl
  |cons e l=>simp[Fw,ja8]
attribute [local irreducible] TR TC
theorem ml2 (k:Sc.Kind)(σ:W)(tag first:Bool)(e:Ex)
 (he:FnE prog gl 48 [.ptr 900 0,.d (dEx e)] (HW k σ) (λv H1=>v=.d (dEx (j4 σ e).1)/\H1=HW k (j4 σ e).2)):
 FnE prog gl 50 [.d (dEx e),.ptr 1005 0,.ptr 1006 0,.ptr 1002 0] ((1005,.box [.d (.bool tag)])::(1006,.box [.d (.bool first)])::(1002,.box [.ptr 900 0])::HW k σ)
  (λv H1=>v=.d (dEx (kd3 tag first σ e).1)/\H1=(1005,.box [.d (.bool tag)])::(1006,.box [.d (.bool (first && !tag))])::(1002,.box [.ptr 900 0])::HW k (kd3 tag first σ e).2):=by
 unfold kd3;simp only[k9]at he ⊢;generalize j4 σ e=r at he ⊢;cases tag<;>cases first
 all_goals simp only[Az,false_and,and_false,and_self,if_true,if_false,Bool.not_true,Bool.not_false,Bt,Bc,Bf,Ay]
 all_goals cases k
 all_goals dsimp only[HW,ja9,n7]at he ⊢
 all_goals (refine j2 func50 ntmps50 results50 λw M E b0=>?_)
 all_goals (repeat' first|apply Ca 4;(refine Cm 4 ?_)|apply Ca 5;(refine j3 5 ?_)|apply Ca 13;refine Ch (hc:=he) ?_|refine yyp ?_;try refine Ce ?_ ?_<;>intro hb|refine yy ?_|apply ah;refine Cc [0,1,2,3,4,5,6,9,28] ?_|refine Cb λK hK=>?_|apply_assumption -exfalso -symm)
 all_goals (refine j1 (j6 ⟨?_,rfl⟩))
 all_goals rfl
theorem jc1 (k:Sc.Kind)(tag:Bool)(l:List Ex)(σ:W)(hl:l.length<=1000000000)
 (h1:∀ (j:Nat) (hj:j<l.length),FnE prog gl 48 [.ptr 900 0,.d (dEx l[j])] (HW k (Fw tag σ (l.take j)).2)
   (λv H1=>v=.d (dEx (j4 (Fw tag σ (l.take j)).2 l[j]).1)/\H1=HW k (j4 (Fw tag σ (l.take j)).2 l[j]).2)):
 FnE prog gl 49 [.d (.list 6 (l.map dEx)),.clo (.func 50) [] [.ptr 1005 0,.ptr 1006 0,.ptr 1002 0]] ((1005,.box [.d (.bool tag)])::(1006,.box [.d (.bool true)])::(1002,.box [.ptr 900 0])::HW k σ)
  (λv H1=>v=.d (.list 6 ((Fw tag σ l).1.map dEx))/\H1=(1005,.box [.d (.bool tag)])::(1006,.box [.d (.bool (!(tag && decide (0<l.length))))])::(1002,.box [.ptr 900 0])::HW k (Fw tag σ l).2):=by
 have h2:=λj hj=>ml2 gl k (Fw tag σ (l.take j)).2 tag (!(tag && decide (0<j))) (l[j]'hj) (h1 j hj);clear h1;have hft:∀ j,(!(tag && decide (0<j)) && !tag)=!(tag && decide (0<j+1)):=λj=>by cases tag<;>simp
 simp only[k9,hft]at h2 ⊢;cases k
 all_goals dsimp only[HW,ja9,n7]at h2 ⊢
 case free=>
  (refine j2 func49 ntmps49 results49 λw M E b0=>?_)
  (repeat' first|apply Ca 13;(refine jc9 13 ?_)|refine yyp ?_;try refine Ce ?_ ?_<;>intro hb|refine yy ?_|refine yy2 ?_ ?_<;>intro hcmp|apply ah;refine Cc Px ?_|refine Cb λK hK=>?_|apply_assumption -exfalso -symm)
  ·have h0:l=[]:=As (by omega);subst h0;simp only[Av,Nat.lt_irrefl,decide_false,Bc,Bool.not_false]
   (refine j1 (j6 ⟨?_,rfl⟩))
   rfl
  refine ji0 (λx:Nat × Nat=>⟨[(16,.d (.int .i64 x.1)),(15,.d (.int .i64 l.length)),(14,.d (.list 6 (l.map dE))),(5,.own 13 x.2),(1,.clo (.func 50) [] [.ptr 1005 0,.ptr 1006 0,.ptr 1002 0])],(13,.row 28 6 true ((Fw tag σ (l.take x.1)).1.map dE) x.2)::(1005,.box [.d (.bool tag)])::(1006,.box [.d (.bool (!(tag && decide (0<x.1))))])::(1002,.box [.ptr 900 0])::HW .free (Fw tag σ (l.take x.1)).2,gl⟩)
   (λx=>x.1<=l.length) (λx=>l.length - x.1) (0,0) (Ai _) (by simp only[Fh,Fw,Nat.lt_irrefl,decide_false,Bc,Bool.not_false];exact r9) λ⟨j,kv⟩ hj=>?_
  dsimp only[HW,ja9,n7]at hj ⊢;have hlen:=ml1 tag (l.take j) σ;simp only[Ak]at hlen;rcases Ah j l.length with hj2|hj2
  ·have hone:=h2 j hj2
   (repeat' first|apply Ca 7;(refine j3 7 ?_)|apply Ca 23;refine Ch (hc:=hone) ?_|apply Ca 24;(refine Df 24 ?_)|refine yyp ?_;try refine Ce ?_ ?_<;>intro hb|refine yy ?_|(apply Cw;first|(refine Da (λkv=>?_))|(refine ai (λsx sp kv hsx hsp hsl=>?_)))|apply ah;refine Cc Px ?_|refine Cb λK hK=>?_|apply_assumption -exfalso -symm)
   refine⟨(j+1,kv),by dsimp only;omega,by dsimp only;omega,?_⟩;dsimp only;rw[kv3 tag l σ j hj2];simp only[Ar,Ap,Ba];exact r9
  (repeat' first|refine yyp ?_;try refine Ce ?_ ?_<;>intro hb|refine yy ?_|apply ah;refine Cc Px ?_|refine Cb λK hK=>?_|apply_assumption -exfalso -symm)
  have hjl:j=l.length:=by omega
  subst hjl;rw[Bk]
  (refine j1 (j6 ⟨?_,rfl⟩))
  rfl
 case check ns=>
  (refine j2 func49 ntmps49 results49 λw M E b0=>?_)
  (repeat' first|apply Ca 13;(refine jc9 13 ?_)|refine yyp ?_;try refine Ce ?_ ?_<;>intro hb|refine yy ?_|refine yy2 ?_ ?_<;>intro hcmp|apply ah;refine Cc Px ?_|refine Cb λK hK=>?_|apply_assumption -exfalso -symm)
  ·have h0:l=[]:=As (by omega);subst h0;simp only[Av,Nat.lt_irrefl,decide_false,Bc,Bool.not_false]
   (refine j1 (j6 ⟨?_,rfl⟩))
   rfl
  refine ji0 (λx:Nat × Nat=>⟨[(16,.d (.int .i64 x.1)),(15,.d (.int .i64 l.length)),(14,.d (.list 6 (l.map dE))),(5,.own 13 x.2),(1,.clo (.func 50) [] [.ptr 1005 0,.ptr 1006 0,.ptr 1002 0])],(13,.row 28 6 true ((Fw tag σ (l.take x.1)).1.map dE) x.2)::(1005,.box [.d (.bool tag)])::(1006,.box [.d (.bool (!(tag && decide (0<x.1))))])::(1002,.box [.ptr 900 0])::HW (.check ns) (Fw tag σ (l.take x.1)).2,gl⟩)
   (λx=>x.1<=l.length) (λx=>l.length - x.1) (0,0) (Ai _) (by simp only[Fh,Fw,Nat.lt_irrefl,decide_false,Bc,Bool.not_false];exact r9) λ⟨j,kv⟩ hj=>?_
  dsimp only[HW,ja9,n7]at hj ⊢;have hlen:=ml1 tag (l.take j) σ;simp only[Ak]at hlen;rcases Ah j l.length with hj2|hj2
  ·have hone:=h2 j hj2
   (repeat' first|apply Ca 7;(refine j3 7 ?_)|apply Ca 23;refine Ch (hc:=hone) ?_|apply Ca 24;(refine Df 24 ?_)|refine yyp ?_;try refine Ce ?_ ?_<;>intro hb|refine yy ?_|(apply Cw;first|(refine Da (λkv=>?_))|(refine ai (λsx sp kv hsx hsp hsl=>?_)))|apply ah;refine Cc Px ?_|refine Cb λK hK=>?_|apply_assumption -exfalso -symm)
   refine⟨(j+1,kv),by dsimp only;omega,by dsimp only;omega,?_⟩;dsimp only;rw[kv3 tag l σ j hj2];simp only[Ar,Ap,Ba];exact r9
  (repeat' first|refine yyp ?_;try refine Ce ?_ ?_<;>intro hb|refine yy ?_|apply ah;refine Cc Px ?_|refine Cb λK hK=>?_|apply_assumption -exfalso -symm)
  have hjl:j=l.length:=by omega
  subst hjl;rw[Bk]
  (refine j1 (j6 ⟨?_,rfl⟩))
  rfl
 case none=>
  (refine j2 func49 ntmps49 results49 λw M E b0=>?_)
  (repeat' first|apply Ca 13;(refine jc9 13 ?_)|refine yyp ?_;try refine Ce ?_ ?_<;>intro hb|refine yy ?_|refine yy2 ?_ ?_<;>intro hcmp|apply ah;refine Cc Px ?_|refine Cb λK hK=>?_|apply_assumption -exfalso -symm)
  ·have h0:l=[]:=As (by omega);subst h0;simp only[Av,Nat.lt_irrefl,decide_false,Bc,Bool.not_false]
   (refine j1 (j6 ⟨?_,rfl⟩))
   rfl
  refine ji0 (λx:Nat × Nat=>⟨[(16,.d (.int .i64 x.1)),(15,.d (.int .i64 l.length)),(14,.d (.list 6 (l.map dE))),(5,.own 13 x.2),(1,.clo (.func 50) [] [.ptr 1005 0,.ptr 1006 0,.ptr 1002 0])],(13,.row 28 6 true ((Fw tag σ (l.take x.1)).1.map dE) x.2)::(1005,.box [.d (.bool tag)])::(1006,.box [.d (.bool (!(tag && decide (0<x.1))))])::(1002,.box [.ptr 900 0])::HW .none (Fw tag σ (l.take x.1)).2,gl⟩)
   (λx=>x.1<=l.length) (λx=>l.length - x.1) (0,0) (Ai _) (by simp only[Fh,Fw,Nat.lt_irrefl,decide_false,Bc,Bool.not_false];exact r9) λ⟨j,kv⟩ hj=>?_
  dsimp only[HW,ja9,n7]at hj ⊢;have hlen:=ml1 tag (l.take j) σ;simp only[Ak]at hlen;rcases Ah j l.length with hj2|hj2
  ·have hone:=h2 j hj2
   (repeat' first|apply Ca 7;(refine j3 7 ?_)|apply Ca 23;refine Ch (hc:=hone) ?_|apply Ca 24;(refine Df 24 ?_)|refine yyp ?_;try refine Ce ?_ ?_<;>intro hb|refine yy ?_|(apply Cw;first|(refine Da (λkv=>?_))|(refine ai (λsx sp kv hsx hsp hsl=>?_)))|apply ah;refine Cc Px ?_|refine Cb λK hK=>?_|apply_assumption -exfalso -symm)
   refine⟨(j+1,kv),by dsimp only;omega,by dsimp only;omega,?_⟩;dsimp only;rw[kv3 tag l σ j hj2];simp only[Ar,Ap,Ba];exact r9
  (repeat' first|refine yyp ?_;try refine Ce ?_ ?_<;>intro hb|refine yy ?_|apply ah;refine Cc Px ?_|refine Cb λK hK=>?_|apply_assumption -exfalso -symm)
  have hjl:j=l.length:=by omega
  subst hjl;rw[Bk]
  (refine j1 (j6 ⟨?_,rfl⟩))
  rfl
end
end Go.Proofs.YtklklgfpkpglgaaGreatDoor
