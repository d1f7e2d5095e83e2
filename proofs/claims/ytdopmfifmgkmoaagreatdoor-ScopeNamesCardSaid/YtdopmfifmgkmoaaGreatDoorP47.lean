/- Parts: S14, O30, L1. -/
import Derived.Test.YtdopmfifmgkmoaaGreatDoorP36
import Derived.Test.YtdopmfifmgkmoaaGreatDoorP20
import Derived.Test.YtdopmfifmgkmoaaGreatDoorP45
set_option linter.all false
set_option maxRecDepth 100000
set_option maxHeartbeats 16000000
namespace Go.Proofs.YtdopmfifmgkmoaaGreatDoor
open Go.RowKit Go.Proofs.Tryz
section
namespace Sc
open Lx
mutual
def ju3:Pr->Prop
 |.mk kind name chan targets exprs rep guards l procs (.mk sk st sn se spp sf sb)=>plainB (.mk kind name chan targets exprs rep guards l procs (.mk sk st sn se spp sf sb))=true/\jc2 sb/\jh7 guards/\jc2 l
def jc2:List Pr->Prop
 |[]=>True
 |p::l=>ju3 p/\jc2 l
def jh7:List Gu->Prop
 |[]=>True
 |.mk _ _ _ _ _ _ _ body::l=>jc2 body/\jh7 l
end
mutual
def sizePr:Pr->Nat
 |.mk _ _ _ _ _ _ guards l _ (.mk _ _ _ _ _ _ sb)=>1+sizePrs sb+sizeGus guards+sizePrs l
def sizePrs:List Pr->Nat
 |[]=>0
 |p::l=>sizePr p+sizePrs l
def sizeGus:List Gu->Nat
 |[]=>0
 |.mk _ _ _ _ _ _ _ body::l=>sizePrs body+sizeGus l
end
theorem ju4 (p:Pr)(h:ownB p=true):(p.kind=18->p.rep.name=ByteArray.empty)/\(p.kind≠18->p.spec=sp0)/\(p.kind=5->elemB p.chan=true/\eachB p.exprs 1 9 exMay=true)/\repMay p.rep=true:=by
 unfold ownB at h
 refine⟨fun hk=>?_,fun hk=>?_,fun hk=>?_,?_⟩
 ·simp only[hk,Int.reduceEq,or_self,if_false,if_true,Bool.and_eq_true,Bool.not_not,decide_eq_true_eq]at h
  exact h.2.1.1.1.1
 ·dsimp only at h
  have h:=(Bool.and_eq_true_iff.1 h).2
  have key:∀ (X nm ch tg ex pc:Bool),(X && zeroB p nm ch tg ex pc false)=true->p.spec=sp0:=fun X nm ch tg ex pc h=>by
   rw[Bool.and_eq_true]at h
   have h:=h.2
   unfold zeroB at h
   rw[Bool.and_eq_true,Bool.false_or,j9]at h
   exact h.2
  by_cases c0:p.kind=1\/p.kind=2
  ·rw[if_pos c0]at h
   exact key _ _ _ _ _ _ h
  rw[if_neg c0]at h
  by_cases c1:p.kind=3
  ·rw[if_pos c1]at h
   exact key _ _ _ _ _ _ h
  rw[if_neg c1]at h
  by_cases c2:p.kind=4
  ·rw[if_pos c2]at h
   exact key _ _ _ _ _ _ h
  rw[if_neg c2]at h
  by_cases c3:p.kind=5
  ·rw[if_pos c3]at h
   exact key _ _ _ _ _ _ h
  rw[if_neg c3]at h
  by_cases c4:p.kind=6
  ·rw[if_pos c4]at h
   exact key _ _ _ _ _ _ h
  rw[if_neg c4]at h
  by_cases c5:p.kind=7
  ·rw[if_pos c5]at h
   exact key _ _ _ _ _ _ h
  rw[if_neg c5]at h
  by_cases c6:p.kind=8\/p.kind=9
  ·rw[if_pos c6]at h
   exact key _ _ _ _ _ _ h
  rw[if_neg c6]at h
  by_cases c7:p.kind=10
  ·rw[if_pos c7]at h
   exact key _ _ _ _ _ _ h
  rw[if_neg c7]at h
  by_cases c8:p.kind=11
  ·rw[if_pos c8]at h
   exact key _ _ _ _ _ _ h
  rw[if_neg c8]at h
  by_cases c9:p.kind=12\/p.kind=13
  ·rw[if_pos c9]at h
   exact key _ _ _ _ _ _ h
  rw[if_neg c9]at h
  by_cases c10:p.kind=14
  ·rw[if_pos c10]at h
   exact key _ _ _ _ _ _ h
  rw[if_neg c10]at h
  by_cases c11:p.kind=15
  ·rw[if_pos c11]at h
   exact key _ _ _ _ _ _ h
  rw[if_neg c11]at h
  by_cases c12:p.kind=16
  ·rw[if_pos c12]at h
   exact key _ _ _ _ _ _ h
  rw[if_neg c12]at h
  by_cases c13:p.kind=17
  ·rw[if_pos c13]at h
   exact key _ _ _ _ _ _ h
  rw[if_neg c13]at h
  rw[if_neg hk]at h
  cases h
 ·simp only[hk,Int.reduceEq,or_self,if_false,if_true,Bool.and_eq_true]at h
  exact⟨h.2.1.1.1.1.2,h.2.1.1.1.2⟩
 ·simp only[Bool.and_eq_true]at h
  exact h.1
mutual
theorem kg5:∀ (p:Pr) (depth left:Int) (pl:Bool),(prVisit depth left pl p).1=true->ju3 p/\(prVisit depth left pl p).2+sizePr p<=left
 |.mk kind name chan targets exprs rep guards l procs (.mk sk st sn se spp sf sb),depth,left,pl,h=>by
  rw[prVisit]at h ⊢
  by_cases c1:left - 1<0\/32<depth\/plainB (.mk kind name chan targets exprs rep guards l procs (.mk sk st sn se spp sf sb))=false\/(kind=11/\pl=false)
  ·rw[if_pos c1]at h;cases h
  rw[if_neg c1]at h ⊢
  by_cases c2:kind=18/\spp.cases=true/\32<depth+2
  ·rw[if_pos c2]at h;cases h
  rw[if_neg c2]at h ⊢
  have hp:plainB (.mk kind name chan targets exprs rep guards l procs (.mk sk st sn se spp sf sb))=true:=by
   cases hq:plainB (.mk kind name chan targets exprs rep guards l procs (.mk sk st sn se spp sf sb)) with
   |true=>rfl
   |false=>exact absurd (.inr (.inr (.inl hq))) c1
  have ho:=hp
  rw[plain_own,Bool.and_eq_true]at ho
  have hk:=ju4 _ ho.1
  have hgl:=own_guards _ ho.1
  simp only[Pr.kind,Pr.spec,Pr.guards]at hk hgl
  have hb:(if kind=18 then headVisit (depth+1) (left - 1) sb else (true,left - 1)).1=true->jc2 sb/\(if kind=18 then headVisit (depth+1) (left - 1) sb else (true,left - 1)).2+sizePrs sb<=left - 1:=fun hb=>by
   by_cases h18:kind=18
   ·rw[if_pos h18]at hb ⊢
    have hs:=jq7 _ (own_spec _ ho.1 h18)
    simp only[Pr.spec,Sp.kind,Sp.body]at hs
    refine mh6 sb _ _ ?_ hb
    by_cases h5:sk=5
    ·exact Nat.le_of_eq (hs.2.1 h5)
    ·rw[hs.2.2 h5];exact Nat.zero_le _
   ·rw[if_neg h18]
    have:=hk.2.1 h18
    simp only[sp0,Sp.mk.injEq]at this
    rw[this.2.2.2.2.2.2]
    exact⟨trivial,by simp only[sizePrs];omega⟩
  dsimp only at h ⊢
  generalize (if kind=18 then headVisit (depth+1) (left - 1) sb else (true,left - 1))=b at h hb ⊢
  by_cases c3:b.1=false
  ·rw[if_pos c3]at h;cases h
  rw[if_neg c3]at h ⊢
  obtain⟨b1,b2⟩:=hb (by simpa using c3)
  have hm:=my3 l (if kind=11 then depth+2 else if kind=18 then depth else depth+1) b.2 (pl && decide (kind=18))
  generalize prsVisit (if kind=11 then depth+2 else if kind=18 then depth else depth+1) b.2 (pl && decide (kind=18)) l=m at h hm ⊢
  by_cases c4:m.1=false
  ·rw[if_pos c4]at h;cases h
  rw[if_neg c4]at h ⊢
  obtain⟨m1,m2⟩:=hm (by simpa using c4)
  obtain⟨g1,g2⟩:=my4 guards (depth+2) m.2 hgl h
  refine⟨?_,?_⟩
  ·simp only[ju3]
   exact⟨hp,b1,g1,m1⟩
  ·simp only[sizePr]
   omega
theorem mh6:∀ (l:List Pr) (depth left:Int),l.length<=1->(headVisit depth left l).1=true->jc2 l/\(headVisit depth left l).2+sizePrs l<=left
 |[],depth,left,_,h=>by
  rw[headVisit]
  simp only[jc2,sizePrs]
  exact⟨trivial,by omega⟩
 |[p],depth,left,_,h=>by
  rw[headVisit]at h ⊢
  have:=kg5 p depth left false h
  simp only[jc2,sizePrs]
  exact⟨⟨this.1,trivial⟩,by omega⟩
 |_::_::_,_,_,hl,_=>by simp at hl
theorem my3:∀ (l:List Pr) (depth left:Int) (pl:Bool),(prsVisit depth left pl l).1=true->jc2 l/\(prsVisit depth left pl l).2+sizePrs l<=left
 |[],depth,left,pl,h=>by
  rw[prsVisit]
  simp only[jc2,sizePrs]
  exact⟨trivial,by omega⟩
 |p::l,depth,left,pl,h=>by
  rw[prsVisit]at h ⊢
  by_cases c:(prVisit depth left pl p).1=true
  ·rw[if_pos c]at h ⊢
   have h1:=kg5 p depth left pl c
   have h2:=my3 l depth _ pl h
   simp only[jc2,sizePrs]
   exact⟨⟨h1.1,h2.1⟩,by omega⟩
  ·rw[if_neg c]at h;exact absurd h c
theorem my4:∀ (l:List Gu) (depth left:Int),(∀ g∈l,g.body.length=1)->(gusVisit depth left l).1=true->jh7 l/\(gusVisit depth left l).2+sizeGus l<=left
 |[],depth,left,_,h=>by
  rw[gusVisit]
  simp only[jh7,sizeGus]
  exact⟨trivial,by omega⟩
 |.mk _ _ _ _ _ _ _ body::l,depth,left,hl,h=>by
  rw[gusVisit]at h ⊢
  by_cases c:(headVisit depth left body).1=true
  ·rw[if_pos c]at h ⊢
   have h1:=mh6 body depth left (Nat.le_of_eq (hl _ List.mem_cons_self)) c
   have h2:=my4 l depth _ (fun g hg=>hl g (List.mem_cons_of_mem _ hg)) h
   simp only[jh7,sizeGus]
   exact⟨⟨h1.1,h2.1⟩,by omega⟩
  ·rw[if_neg c]at h;exact absurd h c
end
theorem may_all {p:Pr}(h:prMay p=true):ju3 p/\sizePr p<=2048:=by
 unfold prMay at h
 have h1:=kg5 p 0 2048 true h
 have h2:=prVisit_room p 0 2048 true (by omega) (by omega)
 unfold agree at h2
 have h3:=h2.1.1 h
 have h4:=(h2.2 h3).1
 exact⟨h1.1,by omega⟩
theorem jn6 {s:ByteArray}(h:isName s=true):s≠ByteArray.empty:=by
 rintro rfl
 cases h
theorem mh7 (s:Sp)(h:spMay s=true):(∀ x∈s.names,isName x=true)/\(∀ f∈s.formals,isName f.name=true)/\s.names.length<=8/\s.formals.length<=8/\(noneB s.e=true\/exMay s.e=true):=by
 unfold spMay at h
 have he:elemB s.e=true->exMay s.e=true:=fun h=>by unfold elemB at h;exact(Bool.and_eq_true_iff.1 h).2
 have hn:∀ a b:Int,b<=8->eachB s.names a b isName=true->(∀ x∈s.names,isName x=true)/\s.names.length<=8:=fun a b hb h=>by
  unfold eachB hasB at h
  simp only[Bool.and_eq_true,decide_eq_true_eq]at h
  exact⟨List.all_eq_true.1 h.2,by omega⟩
 have hf:eachB s.formals 0 8 foMay=true->(∀ f∈s.formals,isName f.name=true)/\s.formals.length<=8:=fun h=>by
  unfold eachB hasB at h
  simp only[Bool.and_eq_true,decide_eq_true_eq]at h
  refine⟨fun f hf=>?_,by omega⟩
  have:=List.all_eq_true.1 h.2 f hf
  unfold foMay at this
  simp only[Bool.and_eq_true]at this
  exact this.1.1
 have h0:s.formals.length=0->(∀ f∈s.formals,isName f.name=true)/\s.formals.length<=8:=fun h=>by
  rw[List.eq_nil_of_length_eq_zero h]
  exact⟨fun f hf=>(by cases hf),Nat.zero_le _⟩
 by_cases k1:s.kind=1
 ·rw[if_pos k1]at h
  simp only[Bool.and_eq_true,decide_eq_true_eq]at h
  have a:=hn 1 8 (by omega) h.1.1.1.1.2
  have b:=h0 h.1.2
  exact⟨a.1,b.1,a.2,b.2,.inl h.1.1.1.2⟩
 rw[if_neg k1]at h
 by_cases k2:s.kind=2
 ·rw[if_pos k2]at h
  simp only[Bool.and_eq_true,decide_eq_true_eq]at h
  have a:=hn 1 1 (by omega) h.1.1.1.2
  have b:=h0 h.1.2
  exact⟨a.1,b.1,a.2,b.2,.inr h.1.1.1.1.2⟩
 rw[if_neg k2]at h
 by_cases k3:s.kind=3
 ·rw[if_pos k3]at h
  simp only[Bool.and_eq_true,decide_eq_true_eq]at h
  have a:=hn 1 1 (by omega) h.1.1.1.2
  have b:=h0 h.1.2
  exact⟨a.1,b.1,a.2,b.2,.inr (he h.1.1.1.1.2)⟩
 rw[if_neg k3]at h
 by_cases k4:s.kind=4
 ·rw[if_pos k4]at h
  simp only[Bool.and_eq_true,decide_eq_true_eq]at h
  have a:=hn 1 1 (by omega) h.1.1.1.1.2
  have b:=h0 h.1.2
  exact⟨a.1,b.1,a.2,b.2,.inl h.1.1.2⟩
 rw[if_neg k4]at h
 by_cases k5:s.kind=5
 ·rw[if_pos k5]at h
  simp only[Bool.and_eq_true,decide_eq_true_eq]at h
  have a:=hn 1 1 (by omega) h.1.1.1.2
  have b:=hf h.1.1.1.1.2
  exact⟨a.1,b.1,a.2,b.2,.inl h.1.2⟩
 rw[if_neg k5]at h
 cases h
theorem qk5 {e:Ex}(h:exMay e=true)(hk:e.kind=4):e.l=[]:=by
 obtain⟨kind,op,ty,n,s,l⟩:=e
 simp only[Ex.kind]at hk
 subst hk
 unfold exMay at h
 rw[visitOf]at h
 split at h
 ·cases h
 ·rename_i h1
  have h2:exOwn (.mk 4 op ty n s l)=true:=by
   cases hq:exOwn (.mk 4 op ty n s l) with
   |true=>rfl
   |false=>exact absurd (.inl hq) h1
  unfold exOwn exParts at h2
  simp only[Ex.kind,Ex.op,Ex.ty,Ex.n,Ex.s,Ex.l,Int.reduceEq,if_false,true_or,if_true,Bool.and_eq_true,decide_eq_true_eq]at h2
  have:=h2.2
  have h3:(if isName s=true then ((0:Int),decide (op.toNat=0/\ty=0/\n=0)) else (0,false)).1=0:=by split<;>rfl
  have h4:(l.length:Int)=0:=by
   refine this.trans ?_
   split<;>rfl
  exact List.eq_nil_of_length_eq_zero (by show l.length=0;omega)
theorem qk6 {r:Rp}(h:repMay r=true)(h0:r.name=ByteArray.empty):r=rp0:=by
 unfold repMay at h
 rw[if_pos h0,Bool.and_eq_true]at h
 unfold noneB at h
 rw[j9,j9]at h
 obtain⟨a,b,c⟩:=r
 dsimp only at h0 h
 rw[h0,h.1,h.2]
 rfl
theorem qk7 (p:Pr)(h:ownB p=true):mg3 p.kind p.chan p.exprs p.rep:=by
 have hk:=ju4 p h
 refine⟨⟨hk.1,qk6 hk.2.2.2⟩,fun h5=>?_⟩
 obtain⟨h1,h2⟩:=hk.2.2.1 h5
 unfold elemB at h1
 unfold eachB hasB at h2
 simp only[Bool.and_eq_true,Bool.or_eq_true,decide_eq_true_eq]at h1 h2
 refine⟨fun e=>?_,?_,fun e he h4=>?_⟩
 ·rw[e]at h2
  have:=h2.1.1
  simp at this
 ·unfold exNamed
  rcases h1.1 with h|h
  ·rw[h];rfl
  ·rw[h];rfl
 ·refine qk5 (List.all_eq_true.1 h2.2 e ?_) h4
  cases hx:p.exprs with
  |nil=>rw[hx]at he;cases he
  |cons y l=>
   rw[hx]at he
   simp only[List.head?_cons,Option.mem_def,Option.some.injEq]at he
   subst he
   exact List.mem_cons_self
mutual
theorem my5:∀ p:Pr,ju3 p->okPr p
 |.mk kind name chan targets exprs rep guards l procs (.mk sk st sn se spp sf sb),h=>by
  simp only[ju3]at h
  obtain⟨h1,h2,h3,h4⟩:=h
  rw[plain_own,Bool.and_eq_true]at h1
  have hn:=qk7 _ h1.1
  have hk:=ju4 _ h1.1
  simp only[Pr.kind,Pr.chan,Pr.exprs,Pr.rep,Pr.spec]at hn hk
  have hs:(∀ s∈sn,s≠ByteArray.empty)/\(∀ f∈sf,f.name≠ByteArray.empty):=by
   by_cases h18:kind=18
   ·have:=mh7 _ (own_spec _ h1.1 h18)
    exact⟨fun s hs=>jn6 (this.1 s hs),fun f hf=>jn6 (this.2.1 f hf)⟩
   ·have:=hk.2.1 h18
    simp only[sp0,Sp.mk.injEq]at this
    rw[this.2.2.1,this.2.2.2.2.2.1]
    exact⟨fun s hs=>(by cases hs),fun f hf=>(by cases hf)⟩
  simp only[okPr]
  exact⟨hn,hk.2.1,hs.1,hs.2,kr3 sb h2,my6 guards h3,kr3 l h4⟩
theorem kr3:∀ l:List Pr,jc2 l->okPrs l
 |[],_=>trivial
 |p::l,h=>by
  simp only[jc2]at h
  simp only[okPrs]
  exact⟨my5 p h.1,kr3 l h.2⟩
theorem my6:∀ l:List Gu,jh7 l->okGus l
 |[],_=>trivial
 |.mk _ _ _ _ _ _ _ body::l,h=>by
  simp only[jh7]at h
  simp only[okGus,okGu]
  exact⟨kr3 body h.1,my6 l h.2⟩
end
end Sc
end
section
def qo30_0:List Nat:=[0,1,2,3,4,5,6,7,12,27,38,58]
theorem kr4 (a b:Int):IntKind.i64.wrap (IntKind.i64.wrap a+IntKind.i64.wrap b)=IntKind.i64.wrap (a+b):=by
 have h1:∀ n:Int,IntKind.i64.wrap n=if n % 18446744073709551616>=9223372036854775808 then n % 18446744073709551616 - 18446744073709551616 else n % 18446744073709551616:=fun n=>by
  unfold IntKind.wrap
  simp[IntKind.bits,IntKind.signed]
 rw[h1 a,h1 b,h1 (a+b),h1]
 repeat' split
 all_goals omega
section
variable {E:Set}{Q:Exit->Sd->Prop}{ops:Array Oper}{draw:Bool}{rest:Todo}
variable {env:List (Nat × V)}{H:List (Nat × Ob)}{gl:List (Nat × List D)}
theorem jl4 {c:Code}(n i:Nat){sz:Nat}{xs:List D}{cs:List V}(hl:look n H=some (.box cs))(hi:cs[i]? =some (.d (.list sz xs)))(h:xs.length<=9223372036854775807->TC E c Q ⟨env,H,gl⟩):TC E c Q ⟨env,H,gl⟩:=fun a w ⟨β,hB⟩=>by
 obtain⟨_,vs,_,_,_,h3⟩:=hB.obs n _ hl
 obtain⟨x,_,h2⟩:=h3.get hi
 obtain⟨_,_,_,_,q1,q2,_⟩:=h2
 exact h (Nat.le_trans q1 q2) a w ⟨β,hB⟩
theorem km9 {c:Code}(n i j k:Nat){sz sz2:Nat}{xs ds ys:List D}{cs:List V}(hl:look n H=some (.box cs))(hi:cs[i]? =some (.d (.list sz xs)))(hj:xs[j]? =some (.agg ds))(hk:ds[k]? =some (.list sz2 ys))(h:ys.length<=9223372036854775807->TC E c Q ⟨env,H,gl⟩):TC E c Q ⟨env,H,gl⟩:=fun a w ⟨β,hB⟩=>by
 obtain⟨_,vs,_,_,_,h3⟩:=hB.obs n _ hl
 obtain⟨x,_,h2⟩:=h3.get hi
 obtain⟨_,_,us,_,_,_,_,q1,_⟩:=h2
 have q2:=q1.get hj
 obtain⟨v,q3⟩:∃ v,RepD w (Mut E.C.M0 β H) (.agg ds) v:=by
  obtain⟨v,q2⟩:=q2
  first
   |exact⟨v,q2.2.2⟩
   |exact⟨v,q2.2⟩
   |exact⟨v,q2.1⟩
 obtain⟨ws,_,q4⟩:=q3
 obtain⟨u,_,_,q5⟩:=q4.get hk
 obtain⟨_,_,_,_,q6,q7,_⟩:=q5
 exact h (Nat.le_trans q6 q7) a w ⟨β,hB⟩
end
theorem kg6 (l:List Pr)(j:Nat)(hj:j<l.length):Sc.sizePrs (l.take (j+1))=Sc.sizePrs (l.take j)+Sc.sizePr l[j]:=by
 induction l generalizing j with
 |nil=>simp at hj
 |cons x l ih=>
  cases j with
  |zero=>simp[Sc.sizePrs]
  |succ j=>
   have:=ih j (by simpa using hj)
   simp only[List.take_succ_cons,Sc.sizePrs,List.getElem_cons_succ]at this ⊢
   omega
theorem mm1 (l:List Gu)(j:Nat)(hj:j<l.length):Sc.sizeGus (l.take (j+1))=Sc.sizeGus (l.take j)+Sc.sizePrs l[j].body:=by
 induction l generalizing j with
 |nil=>simp at hj
 |cons x l ih=>
  obtain⟨_,_,_,_,_,_,_,body⟩:=x
  cases j with
  |zero=>simp[Sc.sizeGus,Gu.body]
  |succ j=>
   have:=ih j (by simpa using hj)
   simp only[List.take_succ_cons,Sc.sizeGus,List.getElem_cons_succ]at this ⊢
   omega
def dGq (g:Gu):D:=.agg [.int .u8 g.kind,.str g.name,
    .int .u8 g.cond.kind,.int .u8 g.cond.op,.int .u8 g.cond.ty,.int .i32 g.cond.n,.str g.cond.s,.list 6 (g.cond.l.map dEx),
    .int .u8 g.chan.kind,.int .u8 g.chan.op,.int .u8 g.chan.ty,.int .i32 g.chan.n,.str g.chan.s,.list 6 (g.chan.l.map dEx),
    .list 6 (g.targets.map dEx),.list 6 (g.values.map dEx),
    .int .u8 g.time.kind,.int .u8 g.time.op,.int .u8 g.time.ty,.int .i32 g.time.n,.str g.time.s,.list 6 (g.time.l.map dEx),
    .list 42 (g.body.map dP)]
theorem rc2:dGu=dGq:=by
 rw[jg4]
 funext g
 simp only[dG,dGq,x5]
attribute [local irreducible] TR TC
theorem qu7 (gl:List (Nat × List D))(p:Pr)
 (ih:∀ x:Pr,(x∈p.l\/x∈p.spec.body\/∃ g∈p.guards,x∈g.body)->FnD prog gl 28 [.d (dPr x)] (fun v=>v=.d (.int .i64 (IntKind.i64.wrap (Sc.sizePr x))))):
 FnD prog gl 28 [.d (dPr p)] (fun v=>v=.d (.int .i64 (IntKind.i64.wrap (Sc.sizePr p)))):=by
 simp only[x5]at ih ⊢
 (refine j4 func28 ntmps28 results28 fun w M=>?_)
 (repeat' first|refine tr_at 1 ?_;(refine k7 1001 ?_)|refine yyp ?_;try refine s_bu ?_ ?_<;>intro hb|refine yy ?_|refine at_nil ?_;refine z_nil qo30_0 ?_|refine tc_seq fun K hK=>?_|apply_assumption -exfalso -symm)
 refine jl4 1001 24 rfl rfl fun hsm=>?_
 simp only[List.length_map]at hsm
 simp only[x5]
 refine k9 [3,4,8,9,10,11,12,13,14,15,16,17,18,19,20,21,22] [] (fun j:Nat=>[(4,.d (.int .i64 j)),(3,.d (.int .i64 (IntKind.i64.wrap (1+Sc.sizePrs (p.l.take j):Nat))))]) (fun _=>[]) (fun j=>j<=p.l.length) (fun j=>p.l.length - j) 0 (Nat.zero_le _) fun j hj=>?_
 dsimp only[List.cons_append,List.nil_append]
 rcases Nat.lt_or_ge j p.l.length with hj2|hj2
 ·have hone:=ih p.l[j] (.inl (List.getElem_mem hj2))
  (repeat' first|refine yyp ?_;try refine s_bu ?_ ?_<;>intro hb|refine yy ?_|refine at_call 28 ?_;refine y_call (hc:=hone) ?_|refine at_nil ?_;refine z_nil qo30_0 ?_|refine tc_seq fun K hK=>?_|apply_assumption -exfalso -symm)
  refine⟨j+1,by omega,by omega,?_⟩
  rw[kr4,kg6 _ _ hj2,<-Nat.add_assoc,Int.natCast_add (1+_)]
  exact v7
 obtain rfl:j=p.l.length:=by omega
 rw[List.take_length]
 (repeat' first|refine yyp ?_;try refine s_bu ?_ ?_<;>intro hb|refine yy ?_|refine at_nil ?_;refine z_nil qo30_0 ?_|refine tc_seq fun K hK=>?_|apply_assumption -exfalso -symm)
 refine jl4 1001 23 rfl rfl fun hsg=>?_
 simp only[List.length_map]at hsg
 rw[rc2]
 refine k9 [3,5,6,23,24,25,26,27,28,29,30,31,32,33,34,35,36,37,38,39,40,41,42,43,44,45,46,47,48,49,50,51,52] [] (fun j:Nat=>[(5,.d (.int .i64 j)),(3,.d (.int .i64 (IntKind.i64.wrap (1+Sc.sizePrs p.l+Sc.sizeGus (p.guards.take j):Nat))))]) (fun _=>[]) (fun j=>j<=p.guards.length) (fun j=>p.guards.length - j) 0 (Nat.zero_le _) fun j hj=>?_
 dsimp only[List.cons_append,List.nil_append]
 rcases Nat.lt_or_ge j p.guards.length with hj2|hj2
 ·(repeat' first|refine yyp ?_;try refine s_bu ?_ ?_<;>intro hb|refine yy ?_|refine at_nil ?_;refine z_nil qo30_0 ?_|refine tc_seq fun K hK=>?_|apply_assumption -exfalso -symm)
  refine km9 1001 23 j 22 rfl rfl (by rw[List.getElem?_map,List.getElem?_eq_getElem hj2];rfl) rfl fun hsb=>?_
  simp only[List.length_map]at hsb
  refine k9 [3,6,30,31,32,33,34,35,36,37,38,39,40,41,42,43,44,45,46,47,48,49,50,51,52] [] (fun i:Nat=>[(6,.d (.int .i64 i)),(3,.d (.int .i64 (IntKind.i64.wrap (1+Sc.sizePrs p.l+Sc.sizeGus (p.guards.take j)+Sc.sizePrs (p.guards[j].body.take i):Nat))))]) (fun _=>[]) (fun i=>i<=p.guards[j].body.length) (fun i=>p.guards[j].body.length - i) 0 (Nat.zero_le _) fun i hi=>?_
  dsimp only[List.cons_append,List.nil_append]
  rcases Nat.lt_or_ge i p.guards[j].body.length with hi2|hi2
  ·have hone:=ih p.guards[j].body[i] (.inr (.inr ⟨p.guards[j],List.getElem_mem hj2,List.getElem_mem hi2⟩))
   (repeat' first|refine yyp ?_;try refine s_bu ?_ ?_<;>intro hb|refine yy ?_|refine at_call 28 ?_;refine y_call (hc:=hone) ?_|refine at_nil ?_;refine z_nil qo30_0 ?_|refine tc_seq fun K hK=>?_|apply_assumption -exfalso -symm)
   refine⟨i+1,by omega,by omega,?_⟩
   rw[kr4,kg6 _ _ hi2,<-Nat.add_assoc,Int.natCast_add (1+_+_+_)]
   exact v7
  obtain rfl:i=p.guards[j].body.length:=by omega
  rw[List.take_length]
  (repeat' first|refine yyp ?_;try refine s_bu ?_ ?_<;>intro hb|refine yy ?_|refine at_nil ?_;refine z_nil qo30_0 ?_|refine tc_seq fun K hK=>?_|apply_assumption -exfalso -symm)
  refine⟨j+1,by omega,by omega,?_⟩
  rw[mm1 _ _ hj2,<-Nat.add_assoc]
  exact v7
 obtain rfl:j=p.guards.length:=by omega
 rw[List.take_length]
 (repeat' first|refine yyp ?_;try refine s_bu ?_ ?_<;>intro hb|refine yy ?_|refine at_nil ?_;refine z_nil qo30_0 ?_|refine tc_seq fun K hK=>?_|apply_assumption -exfalso -symm)
 refine jl4 1001 41 rfl rfl fun hsb=>?_
 simp only[List.length_map]at hsb
 try rw[x5]
 refine k9 [3,7,53,54,55,56,57,58,59,60,61,62,63,64,65,66,67,68,69] [] (fun j:Nat=>[(7,.d (.int .i64 j)),(3,.d (.int .i64 (IntKind.i64.wrap (1+Sc.sizePrs p.l+Sc.sizeGus p.guards+Sc.sizePrs (p.spec.body.take j):Nat))))]) (fun _=>[]) (fun j=>j<=p.spec.body.length) (fun j=>p.spec.body.length - j) 0 (Nat.zero_le _) fun j hj=>?_
 dsimp only[List.cons_append,List.nil_append]
 rcases Nat.lt_or_ge j p.spec.body.length with hj2|hj2
 ·have hone:=ih p.spec.body[j] (.inr (.inl (List.getElem_mem hj2)))
  (repeat' first|refine yyp ?_;try refine s_bu ?_ ?_<;>intro hb|refine yy ?_|refine at_call 28 ?_;refine y_call (hc:=hone) ?_|refine at_nil ?_;refine z_nil qo30_0 ?_|refine tc_seq fun K hK=>?_|apply_assumption -exfalso -symm)
  refine⟨j+1,by omega,by omega,?_⟩
  rw[kr4,kg6 _ _ hj2,<-Nat.add_assoc,Int.natCast_add (1+_+_+_)]
  exact v7
 obtain rfl:j=p.spec.body.length:=by omega
 rw[List.take_length]
 (repeat' first|refine yyp ?_;try refine s_bu ?_ ?_<;>intro hb|refine yy ?_|refine at_nil ?_;refine z_nil qo30_0 ?_|refine tc_seq fun K hK=>?_|apply_assumption -exfalso -symm)
 (refine j0 (j6 ?_))
 have:Sc.sizePr p=1+Sc.sizePrs p.l+Sc.sizeGus p.guards+Sc.sizePrs p.spec.body:=by
  obtain⟨kind,name,chan,targets,exprs,rep,guards,l,procs,⟨sk,st,sn,se,spp,sf,sb⟩⟩:=p
  simp only[Sc.sizePr,Pr.l,Pr.guards,Pr.spec,Sp.body]
  omega
 rw[this]
 rfl
theorem my7 (gl:List (Nat × List D)):∀ (n:Nat) (p:Pr),SizeOf.sizeOf p<=n->FnD prog gl 28 [.d (dPr p)] (fun v=>v=.d (.int .i64 (IntKind.i64.wrap (Sc.sizePr p)))):=by
 intro n
 induction n with
 |zero=>intro p h;cases p;simp only[Pr.mk.sizeOf_spec]at h;omega
 |succ n ih=>
  intro p hp
  refine qu7 gl p fun x hx=>ih x ?_
  rcases hx with hx|hx|⟨g,hg,hx⟩
  ·have:=qn9 hx;omega
  ·have:=qo1 hx;omega
  ·have:=qo0 hg hx;omega
end
section
attribute [local irreducible] TR TC
theorem kb2 (gl:List (Nat × List D))(p:Pr):FnD prog gl 10 [.d (dPr p)] (fun v=>v=.d (.bool (decide (150<IntKind.i64.wrap (Sc.sizePr p))))):=by
 have c:=my7 gl _ p (Nat.le_refl _)
 rw[x5]at c ⊢
 (refine j4 func10 ntmps10 results10 fun w M=>?_)
 (repeat' first|refine tr_at 1 ?_;(refine k7 1 ?_)|refine yyp ?_;try refine s_bu ?_ ?_<;>intro hb|refine yy ?_|refine yy2 ?_ ?_<;>intro hcmp|refine at_call 28 ?_;refine y_call (hc:=c) ?_|refine at_nil ?_;refine z_nil [0,1,2,3,4,5] ?_|refine tc_seq fun K hK=>?_|apply_assumption -exfalso -symm)
 all_goals first
  |((refine j0 (j6 ?_))
    simp[oneOf, *]
    done)
end
end Go.Proofs.YtdopmfifmgkmoaaGreatDoor
