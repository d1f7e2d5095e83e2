/- Parts: S14, O14, O17, O25, O27, O28, O29, O30. -/
import Derived.Test.YtklklgfpkpglgaaGreatDoorP25
import Derived.Test.YtklklgfpkpglgaaGreatDoorP34
set_option linter.all false
set_option maxRecDepth 100000
set_option maxHeartbeats 16000000
namespace Go.Proofs.YtklklgfpkpglgaaGreatDoor
open Go.RowKit Go.Proofs.Tryz
section
namespace Sc
open Lx
mutual
def Ik:Pr->Prop
 |.mk kind name chan targets exprs rep guards l procs (.mk sk st sn se spp sf sb)=>Gq (.mk kind name chan targets exprs rep guards l procs (.mk sk st sn se spp sf sb))=true/\ja1 sb/\je1 guards/\ja1 l
def ja1:List Pr->Prop
 |[]=>True
 |p::l=>Ik p/\ja1 l
def je1:List Gu->Prop
 |[]=>True
 |.mk _ _ _ _ _ _ _ body::l=>ja1 body/\je1 l
end
mutual
def Jy:Pr->Nat
 |.mk _ _ _ _ _ _ guards l _ (.mk _ _ _ _ _ _ sb)=>1+Gt sb+Je guards+Gt l
def Gt:List Pr->Nat
 |[]=>0
 |p::l=>Jy p+Gt l
def Je:List Gu->Nat
 |[]=>0
 |.mk _ _ _ _ _ _ _ body::l=>Gt body+Je l
end
theorem jo6 (p:Pr)(h:mx1 p=true):(p.kind=18->p.rep.name=ByteArray.empty)/\(p.kind≠18->p.spec=sp0)/\(p.kind=5->Iw p.chan=true/\Dj p.exprs 1 9 Ja=true)/\Kn p.rep=true:=by
 unfold mx1 at h;refine⟨fun hk=>?_,fun hk=>?_,fun hk=>?_,?_⟩
 ·simp only[hk,Int.reduceEq,or_self,if_false,if_true,Aa,Bool.not_not,Ak]at h;exact h.2.1.1.1.1
 ·dsimp only at h;have h:=(Bool.and_eq_true_iff.1 h).2;have key:∀ (X nm ch tg ex pc:Bool),(X && Io p nm ch tg ex pc false)=true->p.spec=sp0:=fun X nm ch tg ex pc h=>by
   rw[Aa]at h;have h:=h.2;unfold Io at h;rw[Aa,Ef,r8]at h;exact h.2
  by_cases c0:p.kind=1\/p.kind=2
  ·rw[Ad c0]at h;exact key _ _ _ _ _ _ h
  rw[Ae c0]at h;by_cases c1:p.kind=3
  ·rw[Ad c1]at h;exact key _ _ _ _ _ _ h
  rw[Ae c1]at h;by_cases c2:p.kind=4
  ·rw[Ad c2]at h;exact key _ _ _ _ _ _ h
  rw[Ae c2]at h;by_cases c3:p.kind=5
  ·rw[Ad c3]at h;exact key _ _ _ _ _ _ h
  rw[Ae c3]at h;by_cases c4:p.kind=6
  ·rw[Ad c4]at h;exact key _ _ _ _ _ _ h
  rw[Ae c4]at h;by_cases c5:p.kind=7
  ·rw[Ad c5]at h;exact key _ _ _ _ _ _ h
  rw[Ae c5]at h;by_cases c6:p.kind=8\/p.kind=9
  ·rw[Ad c6]at h;exact key _ _ _ _ _ _ h
  rw[Ae c6]at h;by_cases c7:p.kind=10
  ·rw[Ad c7]at h;exact key _ _ _ _ _ _ h
  rw[Ae c7]at h;by_cases c8:p.kind=11
  ·rw[Ad c8]at h;exact key _ _ _ _ _ _ h
  rw[Ae c8]at h;by_cases c9:p.kind=12\/p.kind=13
  ·rw[Ad c9]at h;exact key _ _ _ _ _ _ h
  rw[Ae c9]at h;by_cases c10:p.kind=14
  ·rw[Ad c10]at h;exact key _ _ _ _ _ _ h
  rw[Ae c10]at h;by_cases c11:p.kind=15
  ·rw[Ad c11]at h;exact key _ _ _ _ _ _ h
  rw[Ae c11]at h;by_cases c12:p.kind=16
  ·rw[Ad c12]at h;exact key _ _ _ _ _ _ h
  rw[Ae c12]at h;by_cases c13:p.kind=17
  ·rw[Ad c13]at h;exact key _ _ _ _ _ _ h
  rw[Ae c13]at h;rw[Ae hk]at h;cases h
 ·simp only[hk,Int.reduceEq,or_self,if_false,if_true,Aa]at h;exact⟨h.2.1.1.1.1.2,h.2.1.1.1.2⟩
 ·simp only[Aa]at h;exact h.1
mutual
theorem km4:∀ (p:Pr) (depth left:Int) (pl:Bool),(Dh depth left pl p).1=true->Ik p/\(Dh depth left pl p).2+Jy p<=left
 |.mk kind name chan targets exprs rep guards l procs (.mk sk st sn se spp sf sb),depth,left,pl,h=>by
  rw[Dh]at h ⊢;by_cases c1:left - 1<0\/32<depth\/Gq (.mk kind name chan targets exprs rep guards l procs (.mk sk st sn se spp sf sb))=false\/(kind=11/\pl=false)
  ·rw[Ad c1]at h;cases h
  rw[Ae c1]at h ⊢;by_cases c2:kind=18/\spp.cases=true/\32<depth+2
  ·rw[Ad c2]at h;cases h
  rw[Ae c2]at h ⊢;have hp:Gq (.mk kind name chan targets exprs rep guards l procs (.mk sk st sn se spp sf sb))=true:=by
   cases hq:Gq (.mk kind name chan targets exprs rep guards l procs (.mk sk st sn se spp sf sb)) with
   |true=>rfl
   |false=>exact absurd (.inr (.inr (.inl hq))) c1
  have ho:=hp;rw[Iy,Aa]at ho;have hk:=jo6 _ ho.1;have hgl:=js0 _ ho.1;simp only[Pr.kind,Pr.spec,Pr.guards]at hk hgl;have hb:(if kind=18 then Co (depth+1) (left - 1) sb else (true,left - 1)).1=true->ja1 sb/\(if kind=18 then Co (depth+1) (left - 1) sb else (true,left - 1)).2+Gt sb<=left - 1:=fun hb=>by
   by_cases h18:kind=18
   ·rw[Ad h18]at hb ⊢;have hs:=ju6 _ (Ol _ ho.1 h18);simp only[Pr.spec,Sp.kind,Sp.body]at hs;refine mu1 sb _ _ ?_ hb;by_cases h5:sk=5
    ·exact Nat.le_of_eq (hs.2.1 h5)
    ·rw[hs.2.2 h5];exact Ai _
   ·rw[Ae h18];have:=hk.2.1 h18;simp only[sp0,Sp.mk.injEq]at this;rw[this.2.2.2.2.2.2];exact⟨trivial,by simp only[Gt];omega⟩
  dsimp only at h ⊢;generalize (if kind=18 then Co (depth+1) (left - 1) sb else (true,left - 1))=b at h hb ⊢;by_cases c3:b.1=false
  ·rw[Ad c3]at h;cases h
  rw[Ae c3]at h ⊢;obtain⟨b1,b2⟩:=hb (by simpa using c3);have hm:=ql6 l (if kind=11 then depth+2 else if kind=18 then depth else depth+1) b.2 (pl && decide (kind=18));generalize Di (if kind=11 then depth+2 else if kind=18 then depth else depth+1) b.2 (pl && decide (kind=18)) l=m at h hm ⊢;by_cases c4:m.1=false
  ·rw[Ad c4]at h;cases h
  rw[Ae c4]at h ⊢;obtain⟨m1,m2⟩:=hm (by simpa using c4);obtain⟨g1,g2⟩:=ql7 guards (depth+2) m.2 hgl h;refine⟨?_,?_⟩
  ·simp only[Ik];exact⟨hp,b1,g1,m1⟩
  ·simp only[Jy];omega
theorem mu1:∀ (l:List Pr) (depth left:Int),l.length<=1->(Co depth left l).1=true->ja1 l/\(Co depth left l).2+Gt l<=left
 |[],depth,left,_,h=>by
  rw[Co];simp only[ja1,Gt];exact⟨trivial,by omega⟩
 |[p],depth,left,_,h=>by
  rw[Co]at h ⊢;have:=km4 p depth left false h;simp only[ja1,Gt];exact⟨⟨this.1,trivial⟩,by omega⟩
 |_::_::_,_,_,hl,_=>by simp at hl
theorem ql6:∀ (l:List Pr) (depth left:Int) (pl:Bool),(Di depth left pl l).1=true->ja1 l/\(Di depth left pl l).2+Gt l<=left
 |[],depth,left,pl,h=>by
  rw[Di];simp only[ja1,Gt];exact⟨trivial,by omega⟩
 |p::l,depth,left,pl,h=>by
  rw[Di]at h ⊢;by_cases c:(Dh depth left pl p).1=true
  ·rw[Ad c]at h ⊢;have h1:=km4 p depth left pl c;have h2:=ql6 l depth _ pl h;simp only[ja1,Gt];exact⟨⟨h1.1,h2.1⟩,by omega⟩
  ·rw[Ae c]at h;exact absurd h c
theorem ql7:∀ (l:List Gu) (depth left:Int),(∀ g∈l,g.body.length=1)->(Gh depth left l).1=true->je1 l/\(Gh depth left l).2+Je l<=left
 |[],depth,left,_,h=>by
  rw[Gh];simp only[je1,Je];exact⟨trivial,by omega⟩
 |.mk _ _ _ _ _ _ _ body::l,depth,left,hl,h=>by
  rw[Gh]at h ⊢;by_cases c:(Co depth left body).1=true
  ·rw[Ad c]at h ⊢;have h1:=mu1 body depth left (Nat.le_of_eq (hl _ Az)) c;have h2:=ql7 l depth _ (fun g hg=>hl g (Bb _ hg)) h;simp only[je1,Je];exact⟨⟨h1.1,h2.1⟩,by omega⟩
  ·rw[Ae c]at h;exact absurd h c
end
theorem jf0 {p:Pr}(h:He p=true):Ik p/\Jy p<=2048:=by
 unfold He at h;have h1:=km4 p 0 2048 true h;have h2:=jh0 p 0 2048 true (by omega) (by omega);unfold agree at h2;have h3:=h2.1.1 h;have h4:=(h2.2 h3).1;exact⟨h1.1,by omega⟩
theorem jq7 {s:ByteArray}(h:Dg s=true):s≠ByteArray.empty:=by
 rintro rfl;cases h
theorem mu2 (s:Sp)(h:Kh s=true):(∀ x∈s.names,Dg x=true)/\(∀ f∈s.formals,Dg f.name=true)/\s.names.length<=8/\s.formals.length<=8/\(Ka s.e=true\/Ja s.e=true):=by
 unfold Kh at h;have he:Iw s.e=true->Ja s.e=true:=fun h=>by unfold Iw at h;exact(Bool.and_eq_true_iff.1 h).2
 have hn:∀ a b:Int,b<=8->Dj s.names a b Dg=true->(∀ x∈s.names,Dg x=true)/\s.names.length<=8:=fun a b hb h=>by
  unfold Dj hasB at h;simp only[Aa,Ak]at h;exact⟨Bt.1 h.2,by omega⟩
 have hf:Dj s.formals 0 8 Px=true->(∀ f∈s.formals,Dg f.name=true)/\s.formals.length<=8:=fun h=>by
  unfold Dj hasB at h;simp only[Aa,Ak]at h;refine⟨fun f hf=>?_,by omega⟩;have:=Bt.1 h.2 f hf;unfold Px at this;simp only[Aa]at this;exact this.1.1
 have h0:s.formals.length=0->(∀ f∈s.formals,Dg f.name=true)/\s.formals.length<=8:=fun h=>by
  rw[Ar h];exact⟨fun f hf=>(by cases hf),Ai _⟩
 by_cases k1:s.kind=1
 ·rw[Ad k1]at h;simp only[Aa,Ak]at h;have a:=hn 1 8 (by omega) h.1.1.1.1.2;have b:=h0 h.1.2;exact⟨a.1,b.1,a.2,b.2,.inl h.1.1.1.2⟩
 rw[Ae k1]at h;by_cases k2:s.kind=2
 ·rw[Ad k2]at h;simp only[Aa,Ak]at h;have a:=hn 1 1 (by omega) h.1.1.1.2;have b:=h0 h.1.2;exact⟨a.1,b.1,a.2,b.2,.inr h.1.1.1.1.2⟩
 rw[Ae k2]at h;by_cases k3:s.kind=3
 ·rw[Ad k3]at h;simp only[Aa,Ak]at h;have a:=hn 1 1 (by omega) h.1.1.1.2;have b:=h0 h.1.2;exact⟨a.1,b.1,a.2,b.2,.inr (he h.1.1.1.1.2)⟩
 rw[Ae k3]at h;by_cases k4:s.kind=4
 ·rw[Ad k4]at h;simp only[Aa,Ak]at h;have a:=hn 1 1 (by omega) h.1.1.1.1.2;have b:=h0 h.1.2;exact⟨a.1,b.1,a.2,b.2,.inl h.1.1.2⟩
 rw[Ae k4]at h;by_cases k5:s.kind=5
 ·rw[Ad k5]at h;simp only[Aa,Ak]at h;have a:=hn 1 1 (by omega) h.1.1.1.2;have b:=hf h.1.1.1.1.2;exact⟨a.1,b.1,a.2,b.2,.inl h.1.2⟩
 rw[Ae k5]at h;cases h
theorem qz9 {e:Ex}(h:Ja e=true)(hk:e.kind=4):e.l=[]:=by
 obtain⟨kind,op,ty,n,s,l⟩:=e;simp only[Ex.kind]at hk;subst hk;unfold Ja at h;rw[Dy]at h;split at h
 ·cases h
 ·rename_i h1;have h2:Ld (.mk 4 op ty n s l)=true:=by
   cases hq:Ld (.mk 4 op ty n s l) with
   |true=>rfl
   |false=>exact absurd (.inl hq) h1
  unfold Ld Jm at h2;simp only[Ex.kind,Ex.op,Ex.ty,Ex.n,Ex.s,Ex.l,Int.reduceEq,if_false,true_or,if_true,Aa,Ak]at h2;have:=h2.2;have h3:(if Dg s=true then ((0:Int),decide (op.toNat=0/\ty=0/\n=0)) else (0,false)).1=0:=by split<;>rfl
  have h4:(l.length:Int)=0:=by
   refine this.trans ?_;split<;>rfl
  exact Ar (by show l.length=0;omega)
theorem ra0 {r:Rp}(h:Kn r=true)(h0:r.name=ByteArray.empty):r=rp0:=by
 unfold Kn at h;rw[Ad h0,Aa]at h;unfold Ka at h;rw[r8,r8]at h;obtain⟨a,b,c⟩:=r;dsimp only at h0 h;rw[h0,h.1,h.2];rfl
theorem ra1 (p:Pr)(h:mx1 p=true):mr9 p.kind p.chan p.exprs p.rep:=by
 have hk:=jo6 p h;refine⟨⟨hk.1,ra0 hk.2.2.2⟩,fun h5=>?_⟩;obtain⟨h1,h2⟩:=hk.2.2.1 h5;unfold Iw at h1;unfold Dj hasB at h2;simp only[Aa,Bm,Ak]at h1 h2;refine⟨fun e=>?_,?_,fun e he h4=>?_⟩
 ·rw[e]at h2;have:=h2.1.1;simp at this
 ·unfold Dl;rcases h1.1 with h|h
  ·rw[h];rfl
  ·rw[h];rfl
 ·refine qz9 (Bt.1 h2.2 e ?_) h4;cases hx:p.exprs with
  |nil=>rw[hx]at he;cases he
  |cons y l=>
   rw[hx]at he;simp only[List.head?_cons,Option.mem_def,Bf]at he;subst he;exact Az
mutual
theorem ql8:∀ p:Pr,Ik p->Sn p
 |.mk kind name chan targets exprs rep guards l procs (.mk sk st sn se spp sf sb),h=>by
  simp only[Ik]at h;obtain⟨h1,h2,h3,h4⟩:=h;rw[Iy,Aa]at h1;have hn:=ra1 _ h1.1;have hk:=jo6 _ h1.1;simp only[Pr.kind,Pr.chan,Pr.exprs,Pr.rep,Pr.spec]at hn hk;have hs:(∀ s∈sn,s≠ByteArray.empty)/\(∀ f∈sf,f.name≠ByteArray.empty):=by
   by_cases h18:kind=18
   ·have:=mu2 _ (Ol _ h1.1 h18);exact⟨fun s hs=>jq7 (this.1 s hs),fun f hf=>jq7 (this.2.1 f hf)⟩
   ·have:=hk.2.1 h18;simp only[sp0,Sp.mk.injEq]at this;rw[this.2.2.1,this.2.2.2.2.2.1];exact⟨fun s hs=>(by cases hs),fun f hf=>(by cases hf)⟩
  simp only[Sn];exact⟨hn,hk.2.1,hs.1,hs.2,kx4 sb h2,ql9 guards h3,kx4 l h4⟩
theorem kx4:∀ l:List Pr,ja1 l->Qb l
 |[],_=>trivial
 |p::l,h=>by
  simp only[ja1]at h;simp only[Qb];exact⟨ql8 p h.1,kx4 l h.2⟩
theorem ql9:∀ l:List Gu,je1 l->Ry l
 |[],_=>trivial
 |.mk _ _ _ _ _ _ _ body::l,h=>by
  simp only[je1]at h;simp only[Ry,Wn];exact⟨kx4 body h.1,ql9 l h.2⟩
end
end Sc
end
section
attribute [local irreducible] TR TC
end
section
def vg7:List Nat:=[0,1,2,3,6,7,8,18,25,38]
attribute [local irreducible] TR TC
end
section
def vg8:List Nat:=[0,1,2,3,4,5,6]
def vg9:List Nat:=[0,1,2,6,7,8,17,21,29]
def vh0:List Nat:=[6,7,18,19,20,21,22,23,24,25,26,27,28,29]
attribute [local irreducible] TR TC
end
section
def vh1:List Nat:=[0,1,2,3,4,5,6,7,19,24,55]
def vh2:List Nat:=[0,1,2,3,4,5,6,7]
def vh3:Plan:=lin [0,8,24,32,5,12,16,21,29,36,40,45,48,52,56,64,80,88,61,68,72,77,85,92,96,101,106,108,112]
section
variable {E:Set}{S:Sd}{dst:Option Tmp}{ty:TypeId}{pos:String}{af:Array Edge}{gd:Option (Nat × Bool)}
end
attribute [local irreducible] TR TC
end
section
def vh4:List Nat:=[0,1,2,3,4,5,6,7,26,31,44]
def vh5:List Nat:=[0,1,2,3,4,5,6,7,13,18,31]
def vh6:Plan:=lin [0,8,20,28,5,12,17,25,32,37,40]
attribute [local irreducible] TR TC
end
section
def vh7:List Nat:=[0,1,2,3,4,5,6,18,19,27,45,64,70,72]
attribute [local irreducible] TR TC
end
section
def Ox:List Nat:=[0,1,2,3,4,5,6,7,12,27,38,58]
theorem kx5 (a b:Int):IntKind.i64.wrap (IntKind.i64.wrap a+IntKind.i64.wrap b)=IntKind.i64.wrap (a+b):=by
 have h1:∀ n:Int,IntKind.i64.wrap n=if n % 18446744073709551616>=9223372036854775808 then n % 18446744073709551616 - 18446744073709551616 else n % 18446744073709551616:=fun n=>by
  unfold IntKind.wrap;simp[IntKind.bits,IntKind.signed]
 rw[h1 a,h1 b,h1 (a+b),h1]
 repeat' split
 all_goals omega
section
variable {E:Set}{Q:Exit->Sd->Prop}{ops:Array Oper}{draw:Bool}{rest:Todo}
variable {env:List (Nat × V)}{H:List (Nat × Ob)}{gl:List (Nat × List D)}
theorem jv4 {c:Code}(n i:Nat){sz:Nat}{xs:List D}{cs:List V}(hl:look n H=some (.box cs))(hi:cs[i]? =some (.d (.list sz xs)))(h:xs.length<=9223372036854775807->TC E c Q ⟨env,H,gl⟩):TC E c Q ⟨env,H,gl⟩:=fun a w ⟨β,hB⟩=>by
 obtain⟨_,vs,_,_,_,h3⟩:=hB.obs n _ hl;obtain⟨x,_,h2⟩:=h3.get hi;obtain⟨_,_,_,_,q1,q2,_⟩:=h2;exact h (Fj q1 q2) a w ⟨β,hB⟩
theorem mz4 {c:Code}(n i j k:Nat){sz sz2:Nat}{xs ds ys:List D}{cs:List V}(hl:look n H=some (.box cs))(hi:cs[i]? =some (.d (.list sz xs)))(hj:xs[j]? =some (.agg ds))(hk:ds[k]? =some (.list sz2 ys))(h:ys.length<=9223372036854775807->TC E c Q ⟨env,H,gl⟩):TC E c Q ⟨env,H,gl⟩:=fun a w ⟨β,hB⟩=>by
 obtain⟨_,vs,_,_,_,h3⟩:=hB.obs n _ hl;obtain⟨x,_,h2⟩:=h3.get hi;obtain⟨_,_,us,_,_,_,_,q1,_⟩:=h2;have q2:=q1.get hj;obtain⟨v,q3⟩:∃ v,Gw w (Mut E.C.M0 β H) (.agg ds) v:=by
  obtain⟨v,q2⟩:=q2
  first
   |exact⟨v,q2.2.2⟩
   |exact⟨v,q2.2⟩
   |exact⟨v,q2.1⟩
 obtain⟨ws,_,q4⟩:=q3;obtain⟨u,_,_,q5⟩:=q4.get hk;obtain⟨_,_,_,_,q6,q7,_⟩:=q5;exact h (Fj q6 q7) a w ⟨β,hB⟩
end
theorem km5 (l:List Pr)(j:Nat)(hj:j<l.length):Sc.Gt (l.take (j+1))=Sc.Gt (l.take j)+Sc.Jy l[j]:=by
 induction l generalizing j with
 |nil=>simp at hj
 |cons x l ih=>
  cases j with
  |zero=>simp[Sc.Gt]
  |succ j=>
   have:=ih j (by simpa using hj);simp only[Fc,Sc.Gt,Ff]at this ⊢;omega
theorem mz5 (l:List Gu)(j:Nat)(hj:j<l.length):Sc.Je (l.take (j+1))=Sc.Je (l.take j)+Sc.Gt l[j].body:=by
 induction l generalizing j with
 |nil=>simp at hj
 |cons x l ih=>
  obtain⟨_,_,_,_,_,_,_,body⟩:=x;cases j with
  |zero=>simp[Sc.Je,Gu.body]
  |succ j=>
   have:=ih j (by simpa using hj);simp only[Fc,Sc.Je,Ff]at this ⊢;omega
def dGq (g:Gu):D:=.agg [.int .u8 g.kind,.str g.name,
    .int .u8 g.cond.kind,.int .u8 g.cond.op,.int .u8 g.cond.ty,.int .i32 g.cond.n,.str g.cond.s,.list 6 (g.cond.l.map dEx),
    .int .u8 g.chan.kind,.int .u8 g.chan.op,.int .u8 g.chan.ty,.int .i32 g.chan.n,.str g.chan.s,.list 6 (g.chan.l.map dEx),
    .list 6 (g.targets.map dEx),.list 6 (g.values.map dEx),
    .int .u8 g.time.kind,.int .u8 g.time.op,.int .u8 g.time.ty,.int .i32 g.time.n,.str g.time.s,.list 6 (g.time.l.map dEx),
    .list 42 (g.body.map dP)]
theorem ve4:dGu=dGq:=by
 rw[jd7];funext g;simp only[dG,dGq,j9]
attribute [local irreducible] TR TC
theorem rn4 (gl:List (Nat × List D))(p:Pr)
 (ih:∀ x:Pr,(x∈p.l\/x∈p.spec.body\/∃ g∈p.guards,x∈g.body)->FnD prog gl 21 [.d (dPr x)] (fun v=>v=.d (.int .i64 (IntKind.i64.wrap (Sc.Jy x))))):
 FnD prog gl 21 [.d (dPr p)] (fun v=>v=.d (.int .i64 (IntKind.i64.wrap (Sc.Jy p)))):=by
 simp only[j9]at ih ⊢
 (refine j7 func21 ntmps21 results21 fun w M=>?_)
 (repeat' first|refine Ca 1 ?_;(refine Cq 1001 ?_)|refine yyp ?_;try refine Ce ?_ ?_<;>intro hb|refine yy ?_|refine at_nil ?_;refine Cc Ox ?_|refine Cb fun K hK=>?_|apply_assumption -exfalso -symm)
 refine jv4 1001 24 rfl rfl fun hsm=>?_;simp only[Ab]at hsm;simp only[j9];refine j6 [3,4,8,9,10,11,12,13,14,15,16,17,18,19,20,21,22] [] (fun j:Nat=>[(4,.d (.int .i64 j)),(3,.d (.int .i64 (IntKind.i64.wrap (1+Sc.Gt (p.l.take j):Nat))))]) (fun _=>[]) (fun j=>j<=p.l.length) (fun j=>p.l.length - j) 0 (Ai _) fun j hj=>?_;dsimp only[Ac,Af];rcases Ah j p.l.length with hj2|hj2
 ·have hone:=ih p.l[j] (.inl (Aw hj2))
  (repeat' first|refine yyp ?_;try refine Ce ?_ ?_<;>intro hb|refine yy ?_|refine Ch 21 ?_;refine Ck (hc:=hone) ?_|refine at_nil ?_;refine Cc Ox ?_|refine Cb fun K hK=>?_|apply_assumption -exfalso -symm)
  refine⟨j+1,by omega,by omega,?_⟩;rw[kx5,km5 _ _ hj2,<-Fi,Int.natCast_add (1+_)];exact k8
 obtain rfl:j=p.l.length:=by omega
 rw[Bg]
 (repeat' first|refine yyp ?_;try refine Ce ?_ ?_<;>intro hb|refine yy ?_|refine at_nil ?_;refine Cc Ox ?_|refine Cb fun K hK=>?_|apply_assumption -exfalso -symm)
 refine jv4 1001 23 rfl rfl fun hsg=>?_;simp only[Ab]at hsg;rw[ve4];refine j6 [3,5,6,23,24,25,26,27,28,29,30,31,32,33,34,35,36,37,38,39,40,41,42,43,44,45,46,47,48,49,50,51,52] [] (fun j:Nat=>[(5,.d (.int .i64 j)),(3,.d (.int .i64 (IntKind.i64.wrap (1+Sc.Gt p.l+Sc.Je (p.guards.take j):Nat))))]) (fun _=>[]) (fun j=>j<=p.guards.length) (fun j=>p.guards.length - j) 0 (Ai _) fun j hj=>?_;dsimp only[Ac,Af];rcases Ah j p.guards.length with hj2|hj2
 ·(repeat' first|refine yyp ?_;try refine Ce ?_ ?_<;>intro hb|refine yy ?_|refine at_nil ?_;refine Cc Ox ?_|refine Cb fun K hK=>?_|apply_assumption -exfalso -symm)
  refine mz4 1001 23 j 22 rfl rfl (by rw[Bp,At hj2];rfl) rfl fun hsb=>?_;simp only[Ab]at hsb;refine j6 [3,6,30,31,32,33,34,35,36,37,38,39,40,41,42,43,44,45,46,47,48,49,50,51,52] [] (fun i:Nat=>[(6,.d (.int .i64 i)),(3,.d (.int .i64 (IntKind.i64.wrap (1+Sc.Gt p.l+Sc.Je (p.guards.take j)+Sc.Gt (p.guards[j].body.take i):Nat))))]) (fun _=>[]) (fun i=>i<=p.guards[j].body.length) (fun i=>p.guards[j].body.length - i) 0 (Ai _) fun i hi=>?_;dsimp only[Ac,Af];rcases Ah i p.guards[j].body.length with hi2|hi2
  ·have hone:=ih p.guards[j].body[i] (.inr (.inr ⟨p.guards[j],Aw hj2,Aw hi2⟩))
   (repeat' first|refine yyp ?_;try refine Ce ?_ ?_<;>intro hb|refine yy ?_|refine Ch 21 ?_;refine Ck (hc:=hone) ?_|refine at_nil ?_;refine Cc Ox ?_|refine Cb fun K hK=>?_|apply_assumption -exfalso -symm)
   refine⟨i+1,by omega,by omega,?_⟩;rw[kx5,km5 _ _ hi2,<-Fi,Int.natCast_add (1+_+_+_)];exact k8
  obtain rfl:i=p.guards[j].body.length:=by omega
  rw[Bg]
  (repeat' first|refine yyp ?_;try refine Ce ?_ ?_<;>intro hb|refine yy ?_|refine at_nil ?_;refine Cc Ox ?_|refine Cb fun K hK=>?_|apply_assumption -exfalso -symm)
  refine⟨j+1,by omega,by omega,?_⟩;rw[mz5 _ _ hj2,<-Fi];exact k8
 obtain rfl:j=p.guards.length:=by omega
 rw[Bg]
 (repeat' first|refine yyp ?_;try refine Ce ?_ ?_<;>intro hb|refine yy ?_|refine at_nil ?_;refine Cc Ox ?_|refine Cb fun K hK=>?_|apply_assumption -exfalso -symm)
 refine jv4 1001 41 rfl rfl fun hsb=>?_;simp only[Ab]at hsb
 try rw[j9]
 refine j6 [3,7,53,54,55,56,57,58,59,60,61,62,63,64,65,66,67,68,69] [] (fun j:Nat=>[(7,.d (.int .i64 j)),(3,.d (.int .i64 (IntKind.i64.wrap (1+Sc.Gt p.l+Sc.Je p.guards+Sc.Gt (p.spec.body.take j):Nat))))]) (fun _=>[]) (fun j=>j<=p.spec.body.length) (fun j=>p.spec.body.length - j) 0 (Ai _) fun j hj=>?_;dsimp only[Ac,Af];rcases Ah j p.spec.body.length with hj2|hj2
 ·have hone:=ih p.spec.body[j] (.inr (.inl (Aw hj2)))
  (repeat' first|refine yyp ?_;try refine Ce ?_ ?_<;>intro hb|refine yy ?_|refine Ch 21 ?_;refine Ck (hc:=hone) ?_|refine at_nil ?_;refine Cc Ox ?_|refine Cb fun K hK=>?_|apply_assumption -exfalso -symm)
  refine⟨j+1,by omega,by omega,?_⟩;rw[kx5,km5 _ _ hj2,<-Fi,Int.natCast_add (1+_+_+_)];exact k8
 obtain rfl:j=p.spec.body.length:=by omega
 rw[Bg]
 (repeat' first|refine yyp ?_;try refine Ce ?_ ?_<;>intro hb|refine yy ?_|refine at_nil ?_;refine Cc Ox ?_|refine Cb fun K hK=>?_|apply_assumption -exfalso -symm)
 (refine j1 (k7 ?_))
 have:Sc.Jy p=1+Sc.Gt p.l+Sc.Je p.guards+Sc.Gt p.spec.body:=by
  obtain⟨kind,name,chan,targets,exprs,rep,guards,l,procs,⟨sk,st,sn,se,spp,sf,sb⟩⟩:=p;simp only[Sc.Jy,Pr.l,Pr.guards,Pr.spec,Sp.body];omega
 rw[this];rfl
theorem qm0 (gl:List (Nat × List D)):∀ (n:Nat) (p:Pr),SizeOf.sizeOf p<=n->FnD prog gl 21 [.d (dPr p)] (fun v=>v=.d (.int .i64 (IntKind.i64.wrap (Sc.Jy p)))):=by
 intro n
 induction n with
 |zero=>intro p h;cases p;simp only[Pr.mk.sizeOf_spec]at h;omega
 |succ n ih=>
  intro p hp;refine rn4 gl p fun x hx=>ih x ?_;rcases hx with hx|hx|⟨g,hg,hx⟩
  ·have:=rt4 hx;omega
  ·have:=rt6 hx;omega
  ·have:=rt5 hg hx;omega
end
end Go.Proofs.YtklklgfpkpglgaaGreatDoor
