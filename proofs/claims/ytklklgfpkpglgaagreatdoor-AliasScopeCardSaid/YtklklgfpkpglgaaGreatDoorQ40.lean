/- Parts. -/
import Derived.Test.YtklklgfpkpglgaaGreatDoorQ29
import Derived.Test.YtklklgfpkpglgaaGreatDoorQ39
set_option linter.all false
set_option maxRecDepth 100000
set_option maxHeartbeats 0
namespace Go.Proofs.YtklklgfpkpglgaaGreatDoor
open Go.RowKit Go.Proofs.Tryz Sc Lx
variable (gl:List (Nat × List D))
section
namespace Sc
open Lx
mutual
def Hz:Pr->Prop
 |.mk kind name av aj au rep ak l ay (.mk sk st sn se spp sf sb)=>Gy (.mk kind name av aj au rep ak l ay (.mk sk st sn se spp sf sb))=true/\ja1 sb/\je2 ak/\ja1 l
def ja1:List Pr->Prop
 |[]=>True
 |p::l=>Hz p/\ja1 l
def je2:List Gu->Prop
 |[]=>True
 |.mk _ _ _ _ _ _ _ body::l=>ja1 body/\je2 l
end
mutual
def Kb:Pr->Nat
 |.mk _ _ _ _ _ _ ak l _ (.mk _ _ _ _ _ _ sb)=>1+Gm sb+Jb ak+Gm l
def Gm:List Pr->Nat
 |[]=>0
 |p::l=>Kb p+Gm l
def Jb:List Gu->Nat
 |[]=>0
 |.mk _ _ _ _ _ _ _ body::l=>Gm body+Jb l
end
theorem jn4 (p:Pr)(h:ownB p=true):(p.kind=18->p.rep.name=ByteArray.empty)/\(p.kind≠18->p.spec=sp0)/\(p.kind=5->Ga p.av=true/\Cq p.au 1 9 Gd=true)/\Hw p.rep=true:=by
 unfold ownB at h;refine⟨λhk=>?_,λhk=>?_,λhk=>?_,?_⟩
 ·simp only[hk,Int.reduceEq,or_self,if_false,if_true,Aa,Bool.not_not,Ah]at h;exact h.2.1.1.1.1
 ·dsimp only at h;have h:=(Bool.and_eq_true_iff.1 h).2;have key:∀ (X nm ch tg ex pc:Bool),(X && Ia p nm ch tg ex pc false)=true->p.spec=sp0:=λX nm ch tg ex pc h=>by
   rw[Aa]at h;have h:=h.2;unfold Ia at h;rw[Aa,Ee,j9]at h;exact h.2
  by_cases c0:p.kind=1\/p.kind=2
  ·rw[Ad c0]at h;exact key _ _ _ _ _ _ h
  rw[Af c0]at h;by_cases c1:p.kind=3
  ·rw[Ad c1]at h;exact key _ _ _ _ _ _ h
  rw[Af c1]at h;by_cases c2:p.kind=4
  ·rw[Ad c2]at h;exact key _ _ _ _ _ _ h
  rw[Af c2]at h;by_cases c3:p.kind=5
  ·rw[Ad c3]at h;exact key _ _ _ _ _ _ h
  rw[Af c3]at h;by_cases c4:p.kind=6
  ·rw[Ad c4]at h;exact key _ _ _ _ _ _ h
  rw[Af c4]at h;by_cases c5:p.kind=7
  ·rw[Ad c5]at h;exact key _ _ _ _ _ _ h
  rw[Af c5]at h;by_cases c6:p.kind=8\/p.kind=9
  ·rw[Ad c6]at h;exact key _ _ _ _ _ _ h
  rw[Af c6]at h;by_cases c7:p.kind=10
  ·rw[Ad c7]at h;exact key _ _ _ _ _ _ h
  rw[Af c7]at h;by_cases c8:p.kind=11
  ·rw[Ad c8]at h;exact key _ _ _ _ _ _ h
  rw[Af c8]at h;by_cases c9:p.kind=12\/p.kind=13
  ·rw[Ad c9]at h;exact key _ _ _ _ _ _ h
  rw[Af c9]at h;by_cases c10:p.kind=14
  ·rw[Ad c10]at h;exact key _ _ _ _ _ _ h
  rw[Af c10]at h;by_cases c11:p.kind=15
  ·rw[Ad c11]at h;exact key _ _ _ _ _ _ h
  rw[Af c11]at h;by_cases c12:p.kind=16
  ·rw[Ad c12]at h;exact key _ _ _ _ _ _ h
  rw[Af c12]at h;by_cases c13:p.kind=17
  ·rw[Ad c13]at h;exact key _ _ _ _ _ _ h
  rw[Af c13]at h;rw[Af hk]at h;cases h
 ·simp only[hk,Int.reduceEq,or_self,if_false,if_true,Aa]at h;exact⟨h.2.1.1.1.1.2,h.2.1.1.1.2⟩
 ·simp only[Aa]at h;exact h.1
mutual
theorem km0:∀ (p:Pr) (depth left:Int) (pl:Bool),(Du depth left pl p).1=true->Hz p/\(Du depth left pl p).2+Kb p<=left
 |.mk kind name av aj au rep ak l ay (.mk sk st sn se spp sf sb),depth,left,pl,h=>by
  rw[Du]at h ⊢;by_cases c1:left - 1<0\/32<depth\/Gy (.mk kind name av aj au rep ak l ay (.mk sk st sn se spp sf sb))=false\/(kind=11/\pl=false)
  ·rw[Ad c1]at h;cases h
  rw[Af c1]at h ⊢;by_cases c2:kind=18/\spp.cases=true/\32<depth+2
  ·rw[Ad c2]at h;cases h
  rw[Af c2]at h ⊢;have hp:Gy (.mk kind name av aj au rep ak l ay (.mk sk st sn se spp sf sb))=true:=by
   cases hq:Gy (.mk kind name av aj au rep ak l ay (.mk sk st sn se spp sf sb)) with
   |true=>rfl
   |false=>exact absurd (.inr (.inr (.inl hq))) c1
  have ho:=hp;rw[Je,Aa]at ho;have hk:=jn4 _ ho.1;have hgl:=Oz _ ho.1;simp only[Pr.kind,Pr.spec,Pr.ak]at hk hgl;have hb:(if kind=18 then Ct (depth+1) (left - 1) sb else (true,left - 1)).1=true->ja1 sb/\(if kind=18 then Ct (depth+1) (left - 1) sb else (true,left - 1)).2+Gm sb<=left - 1:=λhb=>by
   by_cases h18:kind=18
   ·rw[Ad h18]at hb ⊢;have hs:=jm7 _ (Nr _ ho.1 h18);simp only[Pr.spec,Sp.kind,Sp.body]at hs;refine mv1 sb _ _ ?_ hb;by_cases h5:sk=5
    ·exact Nat.le_of_eq (hs.2.1 h5)
    ·rw[hs.2.2 h5];exact Ak _
   ·rw[Af h18];have:=hk.2.1 h18;simp only[sp0,Sp.mk.injEq]at this;rw[this.2.2.2.2.2.2];exact⟨trivial,by simp only[Gm];omega⟩
  dsimp only at h ⊢;generalize (if kind=18 then Ct (depth+1) (left - 1) sb else (true,left - 1))=b at h hb ⊢;by_cases c3:b.1=false
  ·rw[Ad c3]at h;cases h
  rw[Af c3]at h ⊢;obtain⟨b1,b2⟩:=hb (by simpa using c3);have hm:=qp1 l (if kind=11 then depth+2 else if kind=18 then depth else depth+1) b.2 (pl && decide (kind=18));generalize Dy (if kind=11 then depth+2 else if kind=18 then depth else depth+1) b.2 (pl && decide (kind=18)) l=m at h hm ⊢;by_cases c4:m.1=false
  ·rw[Ad c4]at h;cases h
  rw[Af c4]at h ⊢;obtain⟨m1,m2⟩:=hm (by simpa using c4);obtain⟨g1,g2⟩:=qp2 ak (depth+2) m.2 hgl h;refine⟨?_,?_⟩
  ·simp only[Hz];exact⟨hp,b1,g1,m1⟩
  ·simp only[Kb];omega
theorem mv1:∀ (l:List Pr) (depth left:Int),l.length<=1->(Ct depth left l).1=true->ja1 l/\(Ct depth left l).2+Gm l<=left
 |[],depth,left,_,h=>by
  rw[Ct];simp only[ja1,Gm];exact⟨trivial,by omega⟩
 |[p],depth,left,_,h=>by
  rw[Ct]at h ⊢;have:=km0 p depth left false h;simp only[ja1,Gm];exact⟨⟨this.1,trivial⟩,by omega⟩
 |_::_::_,_,_,hl,_=>by simp at hl
theorem qp1:∀ (l:List Pr) (depth left:Int) (pl:Bool),(Dy depth left pl l).1=true->ja1 l/\(Dy depth left pl l).2+Gm l<=left
 |[],depth,left,pl,h=>by
  rw[Dy];simp only[ja1,Gm];exact⟨trivial,by omega⟩
 |p::l,depth,left,pl,h=>by
  rw[Dy]at h ⊢;by_cases c:(Du depth left pl p).1=true
  ·rw[Ad c]at h ⊢;have h1:=km0 p depth left pl c;have h2:=qp1 l depth _ pl h;simp only[ja1,Gm];exact⟨⟨h1.1,h2.1⟩,by omega⟩
  ·rw[Af c]at h;exact absurd h c
theorem qp2:∀ (l:List Gu) (depth left:Int),(∀ g∈l,g.body.length=1)->(He depth left l).1=true->je2 l/\(He depth left l).2+Jb l<=left
 |[],depth,left,_,h=>by
  rw[He];simp only[je2,Jb];exact⟨trivial,by omega⟩
 |.mk _ _ _ _ _ _ _ body::l,depth,left,hl,h=>by
  rw[He]at h ⊢;by_cases c:(Ct depth left body).1=true
  ·rw[Ad c]at h ⊢;have h1:=mv1 body depth left (Nat.le_of_eq (hl _ Aw)) c;have h2:=qp2 l depth _ (λg hg=>hl g (Ax _ hg)) h;simp only[je2,Jb];exact⟨⟨h1.1,h2.1⟩,by omega⟩
  ·rw[Af c]at h;exact absurd h c
end
theorem je8 {p:Pr}(h:Gq p=true):Hz p/\Kb p<=2048:=by
 unfold Gq at h;have h1:=km0 p 0 2048 true h;have h2:=Ky p 0 2048 true (by omega) (by omega);unfold agree at h2;have h3:=h2.1.1 h;have h4:=(h2.2 h3).1;exact⟨h1.1,by omega⟩
theorem jp7 {s:ByteArray}(h:Cw s=true):s≠ByteArray.empty:=by
 rintro rfl;cases h
theorem mv2 (s:Sp)(h:Hr s=true):(∀ x∈s.names,Cw x=true)/\(∀ f∈s.ax,Cw f.name=true)/\s.names.length<=8/\s.ax.length<=8/\(Ip s.e=true\/Gd s.e=true):=by
 unfold Hr at h;have he:Ga s.e=true->Gd s.e=true:=λh=>by unfold Ga at h;exact(Bool.and_eq_true_iff.1 h).2
 have hn:∀ a b:Int,b<=8->Cq s.names a b Cw=true->(∀ x∈s.names,Cw x=true)/\s.names.length<=8:=λa b hb h=>by
  unfold Cq hasB at h;simp only[Aa,Ah]at h;exact⟨By.1 h.2,by omega⟩
 have hf:Cq s.ax 0 8 Lr=true->(∀ f∈s.ax,Cw f.name=true)/\s.ax.length<=8:=λh=>by
  unfold Cq hasB at h;simp only[Aa,Ah]at h;refine⟨λf hf=>?_,by omega⟩;have:=By.1 h.2 f hf;unfold Lr at this;simp only[Aa]at this;exact this.1.1
 have h0:s.ax.length=0->(∀ f∈s.ax,Cw f.name=true)/\s.ax.length<=8:=λh=>by
  rw[Bg h];exact⟨λf hf=>(by cases hf),Ak _⟩
 by_cases k1:s.kind=1
 ·rw[Ad k1]at h;simp only[Aa,Ah]at h;have a:=hn 1 8 (by omega) h.1.1.1.1.2;have b:=h0 h.1.2;exact⟨a.1,b.1,a.2,b.2,.inl h.1.1.1.2⟩
 rw[Af k1]at h;by_cases k2:s.kind=2
 ·rw[Ad k2]at h;simp only[Aa,Ah]at h;have a:=hn 1 1 (by omega) h.1.1.1.2;have b:=h0 h.1.2;exact⟨a.1,b.1,a.2,b.2,.inr h.1.1.1.1.2⟩
 rw[Af k2]at h;by_cases k3:s.kind=3
 ·rw[Ad k3]at h;simp only[Aa,Ah]at h;have a:=hn 1 1 (by omega) h.1.1.1.2;have b:=h0 h.1.2;exact⟨a.1,b.1,a.2,b.2,.inr (he h.1.1.1.1.2)⟩
 rw[Af k3]at h;by_cases k4:s.kind=4
 ·rw[Ad k4]at h;simp only[Aa,Ah]at h;have a:=hn 1 1 (by omega) h.1.1.1.1.2;have b:=h0 h.1.2;exact⟨a.1,b.1,a.2,b.2,.inl h.1.1.2⟩
 rw[Af k4]at h;by_cases k5:s.kind=5
 ·rw[Ad k5]at h;simp only[Aa,Ah]at h;have a:=hn 1 1 (by omega) h.1.1.1.2;have b:=hf h.1.1.1.1.2;exact⟨a.1,b.1,a.2,b.2,.inl h.1.2⟩
 rw[Af k5]at h;cases h
theorem rh3 {e:Ex}(h:Gd e=true)(hk:e.kind=4):e.l=[]:=by
 obtain⟨kind,op,ty,n,s,l⟩:=e;simp only[Ex.kind]at hk;subst hk;unfold Gd at h;rw[Dp]at h;split at h
 ·cases h
 ·rename_i h1;have h2:Kn (.mk 4 op ty n s l)=true:=by
   cases hq:Kn (.mk 4 op ty n s l) with
   |true=>rfl
   |false=>exact absurd (.inl hq) h1
  unfold Kn Jf at h2;simp only[Ex.kind,Ex.op,Ex.ty,Ex.n,Ex.s,Ex.l,Int.reduceEq,if_false,true_or,if_true,Aa,Ah]at h2;have:=h2.2;have h3:(if Cw s=true then ((0:Int),decide (op.toNat=0/\ty=0/\n=0)) else (0,false)).1=0:=by split<;>rfl
  have h4:(l.length:Int)=0:=by
   refine this.trans ?_;split<;>rfl
  exact Bg (by show l.length=0;omega)
theorem rh4 {r:Rp}(h:Hw r=true)(h0:r.name=ByteArray.empty):r=rp0:=by
 unfold Hw at h;rw[Ad h0,Aa]at h;unfold Ip at h;rw[j9,j9]at h;obtain⟨a,b,c⟩:=r;dsimp only at h0 h;rw[h0,h.1,h.2];rfl
theorem rh5 (p:Pr)(h:ownB p=true):ql2 p.kind p.av p.au p.rep:=by
 have hk:=jn4 p h;refine⟨⟨hk.1,rh4 hk.2.2.2⟩,λh5=>?_⟩;obtain⟨h1,h2⟩:=hk.2.2.1 h5;unfold Ga at h1;unfold Cq hasB at h2;simp only[Aa,Bn,Ah]at h1 h2;refine⟨λe=>?_,?_,λe he h4=>?_⟩
 ·rw[e]at h2;have:=h2.1.1;simp at this
 ·unfold Cz;rcases h1.1 with h|h
  ·rw[h];rfl
  ·rw[h];rfl
 ·refine rh3 (By.1 h2.2 e ?_) h4;cases hx:p.au with
  |nil=>rw[hx]at he;cases he
  |cons y l=>
   rw[hx]at he;simp only[List.head?_cons,Option.mem_def,Bi]at he;subst he;exact Aw
mutual
theorem qp3:∀ p:Pr,Hz p->Tj p
 |.mk kind name av aj au rep ak l ay (.mk sk st sn se spp sf sb),h=>by
  simp only[Hz]at h;obtain⟨h1,h2,h3,h4⟩:=h;rw[Je,Aa]at h1;have hn:=rh5 _ h1.1;have hk:=jn4 _ h1.1;simp only[Pr.kind,Pr.av,Pr.au,Pr.rep,Pr.spec]at hn hk;have hs:(∀ s∈sn,s≠ByteArray.empty)/\(∀ f∈sf,f.name≠ByteArray.empty):=by
   by_cases h18:kind=18
   ·have:=mv2 _ (Nr _ h1.1 h18);exact⟨λs hs=>jp7 (this.1 s hs),λf hf=>jp7 (this.2.1 f hf)⟩
   ·have:=hk.2.1 h18;simp only[sp0,Sp.mk.injEq]at this;rw[this.2.2.1,this.2.2.2.2.2.1];exact⟨λs hs=>(by cases hs),λf hf=>(by cases hf)⟩
  simp only[Tj];exact⟨hn,hk.2.1,hs.1,hs.2,ky8 sb h2,qp4 ak h3,ky8 l h4⟩
theorem ky8:∀ l:List Pr,ja1 l->Qd l
 |[],_=>trivial
 |p::l,h=>by
  simp only[ja1]at h;simp only[Qd];exact⟨qp3 p h.1,ky8 l h.2⟩
theorem qp4:∀ l:List Gu,je2 l->Sz l
 |[],_=>trivial
 |.mk _ _ _ _ _ _ _ body::l,h=>by
  simp only[je2]at h;simp only[Sz,Yb];exact⟨ky8 body h.1,qp4 l h.2⟩
end
end Sc
end
section
def Ph:List Nat:=[0,1,2,3,4,5,6,7,12,27,38,58]
theorem ky9 (a b:Int):IntKind.i64.wrap (IntKind.i64.wrap a+IntKind.i64.wrap b)=IntKind.i64.wrap (a+b):=by
 have h1:∀ n:Int,IntKind.i64.wrap n=if n % 18446744073709551616>=9223372036854775808 then n % 18446744073709551616 - 18446744073709551616 else n % 18446744073709551616:=λn=>by
  unfold IntKind.wrap;simp[IntKind.bits,IntKind.signed]
 rw[h1 a,h1 b,h1 (a+b),h1]
 repeat' split
 all_goals omega
section
variable {E:Set}{Q:Exit->Sd->Prop}{ops:Array Oper}{draw:Bool}{rest:Todo}
variable {env:List (Nat × V)}{H:List (Nat × Ob)}{gl:List (Nat × List D)}
theorem jn5 {c:Code}(n i:Nat){sz:Nat}{xs:List D}{cs:List V}(hl:look n H=some (.box cs))(hi:cs[i]? =some (.d (.list sz xs)))(h:xs.length<=9223372036854775807->TC E c Q ⟨env,H,gl⟩):TC E c Q ⟨env,H,gl⟩:=λa w ⟨β,hB⟩=>by
 obtain⟨_,vs,_,_,_,h3⟩:=hB.obs n _ hl;obtain⟨x,_,h2⟩:=h3.get hi;obtain⟨_,_,_,_,q1,q2,_⟩:=h2;exact h (Fe q1 q2) a w ⟨β,hB⟩
theorem qb7 {c:Code}(n i j k:Nat){sz sz2:Nat}{xs ds ys:List D}{cs:List V}(hl:look n H=some (.box cs))(hi:cs[i]? =some (.d (.list sz xs)))(hj:xs[j]? =some (.agg ds))(hk:ds[k]? =some (.list sz2 ys))(h:ys.length<=9223372036854775807->TC E c Q ⟨env,H,gl⟩):TC E c Q ⟨env,H,gl⟩:=λa w ⟨β,hB⟩=>by
 obtain⟨_,vs,_,_,_,h3⟩:=hB.obs n _ hl;obtain⟨x,_,h2⟩:=h3.get hi;obtain⟨_,_,us,_,_,_,_,q1,_⟩:=h2;have q2:=q1.get hj;obtain⟨v,q3⟩:∃ v,Gv w (Mut E.C.M0 β H) (.agg ds) v:=by
  obtain⟨v,q2⟩:=q2
  first
   |exact⟨v,q2.2.2⟩
   |exact⟨v,q2.2⟩
   |exact⟨v,q2.1⟩
 obtain⟨ws,_,q4⟩:=q3;obtain⟨u,_,_,q5⟩:=q4.get hk;obtain⟨_,_,_,_,q6,q7,_⟩:=q5;exact h (Fe q6 q7) a w ⟨β,hB⟩
end
theorem km1 (l:List Pr)(j:Nat)(hj:j<l.length):Gm (l.take (j+1))=Gm (l.take j)+Kb l[j]:=by
 induction l generalizing j with
 |nil=>simp at hj
 |cons x l ih=>
  cases j with
  |zero=>simp[Gm]
  |succ j=>
   have:=ih j (by simpa using hj);simp only[Ez,Gm,Fb]at this ⊢;omega
theorem qb8 (l:List Gu)(j:Nat)(hj:j<l.length):Jb (l.take (j+1))=Jb (l.take j)+Gm l[j].body:=by
 induction l generalizing j with
 |nil=>simp at hj
 |cons x l ih=>
  obtain⟨_,_,_,_,_,_,_,body⟩:=x;cases j with
  |zero=>simp[Jb,Gu.body]
  |succ j=>
   have:=ih j (by simpa using hj);simp only[Ez,Jb,Fb]at this ⊢;omega
def dGq (g:Gu):D:=.agg [.int .u8 g.kind,.str g.name,
    .int .u8 g.cond.kind,.int .u8 g.cond.op,.int .u8 g.cond.ty,.int .i32 g.cond.n,.str g.cond.s,.list 6 (g.cond.l.map dEx),
    .int .u8 g.av.kind,.int .u8 g.av.op,.int .u8 g.av.ty,.int .i32 g.av.n,.str g.av.s,.list 6 (g.av.l.map dEx),
    .list 6 (g.aj.map dEx),.list 6 (g.values.map dEx),
    .int .u8 g.time.kind,.int .u8 g.time.op,.int .u8 g.time.ty,.int .i32 g.time.n,.str g.time.s,.list 6 (g.time.l.map dEx),
    .list 42 (g.body.map dP)]
theorem vq9:dGu=dGq:=by
 rw[jb7];funext g;simp only[dG,dGq,v7]
attribute [local irreducible] TR TC
theorem rx6 (p:Pr)
 (ih:∀ x:Pr,(x∈p.l\/x∈p.spec.body\/∃ g∈p.ak,x∈g.body)->FnD prog gl 21 [.d (dPr x)] (λv=>v=.d (.int .i64 (IntKind.i64.wrap (Kb x))))):
 FnD prog gl 21 [.d (dPr p)] (λv=>v=.d (.int .i64 (IntKind.i64.wrap (Kb p)))):=by
 simp only[v7]at ih ⊢
 (refine j4 func21 ntmps21 results21 λw M=>?_)
 (repeat' first|apply Ca 1;(refine Ck 1001 ?_)|refine yyp ?_;try refine Ce ?_ ?_<;>intro hb|refine yy ?_|apply ah;refine Cc Ph ?_|refine Cb λK hK=>?_|apply_assumption -exfalso -symm)
 refine jn5 1001 24 rfl rfl λhsm=>?_;simp only[Ab]at hsm;simp only[v7];refine k9 [3,4,8,9,10,11,12,13,14,15,16,17,18,19,20,21,22] [] (λj:Nat=>[(4,.d (.int .i64 j)),(3,.d (.int .i64 (IntKind.i64.wrap (1+Gm (p.l.take j):Nat))))]) (λ_=>[]) (λj=>j<=p.l.length) (λj=>p.l.length - j) 0 (Ak _) λj hj=>?_;dsimp only[Ac,Ae];rcases Ai j p.l.length with hj2|hj2
 ·have hone:=ih p.l[j] (.inl (Ao hj2))
  (repeat' first|refine yyp ?_;try refine Ce ?_ ?_<;>intro hb|refine yy ?_|apply Cf 21;refine Ci (hc:=hone) ?_|apply ah;refine Cc Ph ?_|refine Cb λK hK=>?_|apply_assumption -exfalso -symm)
  refine⟨j+1,by omega,by omega,?_⟩;rw[ky9,km1 _ _ hj2,<-Fd,Int.natCast_add (1+_)];exact v6
 obtain rfl:j=p.l.length:=by omega
 rw[Bv]
 (repeat' first|refine yyp ?_;try refine Ce ?_ ?_<;>intro hb|refine yy ?_|apply ah;refine Cc Ph ?_|refine Cb λK hK=>?_|apply_assumption -exfalso -symm)
 refine jn5 1001 23 rfl rfl λhsg=>?_;simp only[Ab]at hsg;rw[vq9];refine k9 [3,5,6,23,24,25,26,27,28,29,30,31,32,33,34,35,36,37,38,39,40,41,42,43,44,45,46,47,48,49,50,51,52] [] (λj:Nat=>[(5,.d (.int .i64 j)),(3,.d (.int .i64 (IntKind.i64.wrap (1+Gm p.l+Jb (p.ak.take j):Nat))))]) (λ_=>[]) (λj=>j<=p.ak.length) (λj=>p.ak.length - j) 0 (Ak _) λj hj=>?_;dsimp only[Ac,Ae];rcases Ai j p.ak.length with hj2|hj2
 ·(repeat' first|refine yyp ?_;try refine Ce ?_ ?_<;>intro hb|refine yy ?_|apply ah;refine Cc Ph ?_|refine Cb λK hK=>?_|apply_assumption -exfalso -symm)
  refine qb7 1001 23 j 22 rfl rfl (by rw[Bp,Ar hj2];rfl) rfl λhsb=>?_;simp only[Ab]at hsb;refine k9 [3,6,30,31,32,33,34,35,36,37,38,39,40,41,42,43,44,45,46,47,48,49,50,51,52] [] (λi:Nat=>[(6,.d (.int .i64 i)),(3,.d (.int .i64 (IntKind.i64.wrap (1+Gm p.l+Jb (p.ak.take j)+Gm (p.ak[j].body.take i):Nat))))]) (λ_=>[]) (λi=>i<=p.ak[j].body.length) (λi=>p.ak[j].body.length - i) 0 (Ak _) λi hi=>?_;dsimp only[Ac,Ae];rcases Ai i p.ak[j].body.length with hi2|hi2
  ·have hone:=ih p.ak[j].body[i] (.inr (.inr ⟨p.ak[j],Ao hj2,Ao hi2⟩))
   (repeat' first|refine yyp ?_;try refine Ce ?_ ?_<;>intro hb|refine yy ?_|apply Cf 21;refine Ci (hc:=hone) ?_|apply ah;refine Cc Ph ?_|refine Cb λK hK=>?_|apply_assumption -exfalso -symm)
   refine⟨i+1,by omega,by omega,?_⟩;rw[ky9,km1 _ _ hi2,<-Fd,Int.natCast_add (1+_+_+_)];exact v6
  obtain rfl:i=p.ak[j].body.length:=by omega
  rw[Bv]
  (repeat' first|refine yyp ?_;try refine Ce ?_ ?_<;>intro hb|refine yy ?_|apply ah;refine Cc Ph ?_|refine Cb λK hK=>?_|apply_assumption -exfalso -symm)
  refine⟨j+1,by omega,by omega,?_⟩;rw[qb8 _ _ hj2,<-Fd];exact v6
 obtain rfl:j=p.ak.length:=by omega
 rw[Bv]
 (repeat' first|refine yyp ?_;try refine Ce ?_ ?_<;>intro hb|refine yy ?_|apply ah;refine Cc Ph ?_|refine Cb λK hK=>?_|apply_assumption -exfalso -symm)
 refine jn5 1001 41 rfl rfl λhsb=>?_;simp only[Ab]at hsb
 try rw[v7]
 refine k9 [3,7,53,54,55,56,57,58,59,60,61,62,63,64,65,66,67,68,69] [] (λj:Nat=>[(7,.d (.int .i64 j)),(3,.d (.int .i64 (IntKind.i64.wrap (1+Gm p.l+Jb p.ak+Gm (p.spec.body.take j):Nat))))]) (λ_=>[]) (λj=>j<=p.spec.body.length) (λj=>p.spec.body.length - j) 0 (Ak _) λj hj=>?_;dsimp only[Ac,Ae];rcases Ai j p.spec.body.length with hj2|hj2
 ·have hone:=ih p.spec.body[j] (.inr (.inl (Ao hj2)))
  (repeat' first|refine yyp ?_;try refine Ce ?_ ?_<;>intro hb|refine yy ?_|apply Cf 21;refine Ci (hc:=hone) ?_|apply ah;refine Cc Ph ?_|refine Cb λK hK=>?_|apply_assumption -exfalso -symm)
  refine⟨j+1,by omega,by omega,?_⟩;rw[ky9,km1 _ _ hj2,<-Fd,Int.natCast_add (1+_+_+_)];exact v6
 obtain rfl:j=p.spec.body.length:=by omega
 rw[Bv]
 (repeat' first|refine yyp ?_;try refine Ce ?_ ?_<;>intro hb|refine yy ?_|apply ah;refine Cc Ph ?_|refine Cb λK hK=>?_|apply_assumption -exfalso -symm)
 (refine j1 (j7 ?_))
 have:Kb p=1+Gm p.l+Jb p.ak+Gm p.spec.body:=by
  obtain⟨kind,name,av,aj,au,rep,ak,l,ay,⟨sk,st,sn,se,spp,sf,sb⟩⟩:=p;simp only[Kb,Pr.l,Pr.ak,Pr.spec,Sp.body];omega
 rw[this];rfl
theorem qp5:∀ (n:Nat) (p:Pr),SizeOf.sizeOf p<=n->FnD prog gl 21 [.d (dPr p)] (λv=>v=.d (.int .i64 (IntKind.i64.wrap (Kb p)))):=by
 intro n
 induction n with
 |zero=>intro p h;cases p;simp only[Pr.mk.sizeOf_spec]at h;omega
 |succ n ih=>
  intro p hp;refine rx6 gl p λx hx=>ih x ?_;rcases hx with hx|hx|⟨g,hg,hx⟩
  ·have:=ru4 hx;omega
  ·have:=ru6 hx;omega
  ·have:=ru5 hg hx;omega
end
section
def Qj:List Nat:=[0,1,2,3,4,5,6,7,37,42,62,65,80]
def kd9:Plan:=lin [0,8,24,32,5,12,16,21,29,36,40,45,48]
attribute [local irreducible] TR TC
theorem mo9 (l:List Va):FnD prog gl 150 [.d (dPt ⟨false,l⟩)] (λv=>v=.d (.bool (Ns ⟨false,l⟩))):=by
 unfold dPt Ns;dsimp only
 match l with
 |[]=>
  (refine j4 func150 ntmps150 results150 λw M=>?_)
  (repeat' first|apply Ca 1;(refine Ck 1 ?_)|refine yyp ?_;try refine Ce ?_ ?_<;>intro hb|refine yy ?_|refine yy2 ?_ ?_<;>intro hcmp|apply ah;refine Cc Qj ?_|refine Cb λK hK=>?_|apply Cg 13;refine j0 [] kd9 ?_|apply_assumption -exfalso -symm)
  all_goals try simp only[List.getElem_cons_zero]at hcmp
  ((all_goals try contradiction);(all_goals try (exfalso;(repeat (rename (∀ S,TC _ _ _ S->_)=>hX;clear hX));simp only[Aj,Az,Ab]at * <;>omega)))
  all_goals
   (refine j1 (j7 ?_))
   rfl
 |[v]=>
  have hv:(dVa v)=.agg [.str v.tag,.list 1 (v.items.map (.int .u8))]:=rfl;have hit:=kq9 gl v.items 1
  (refine j4 func150 ntmps150 results150 λw M=>?_)
  (repeat' first|apply Ca 1;(refine Ck 1 ?_)|refine yyp ?_;try refine Ce ?_ ?_<;>intro hb|refine yy ?_|refine yy2 ?_ ?_<;>intro hcmp|apply Cf 188;refine Ci (hc:=hit) ?_;try refine Ce ?_ ?_<;>intro hb|apply ah;refine Cc Qj ?_|refine Cb λK hK=>?_|apply Cg 13;refine j0 [] kd9 ?_|apply_assumption -exfalso -symm)
  all_goals try simp only[List.getElem_cons_zero]at hcmp
  ((all_goals try contradiction);(all_goals try (exfalso;(repeat (rename (∀ S,TC _ _ _ S->_)=>hX;clear hX));simp only[Aj,Az,Ab]at * <;>omega)))
  all_goals
   (refine j1 (j7 ?_))
   simp[aF,jf5, *]
 |v::w::r=>
  (refine j4 func150 ntmps150 results150 λw M=>?_)
  refine x4 0 1 rfl rfl λhna=>?_;simp only[Ab,Aj]at hna
  (repeat' first|apply Ca 1;(refine Ck 1 ?_)|refine yyp ?_;try refine Ce ?_ ?_<;>intro hb|refine yy ?_|refine yy2 ?_ ?_<;>intro hcmp|apply ah;refine Cc Qj ?_|refine Cb λK hK=>?_|apply Cg 13;refine j0 [] kd9 ?_|apply_assumption -exfalso -symm)
  all_goals try simp only[List.getElem_cons_zero]at hcmp
  ((all_goals try contradiction);(all_goals try (exfalso;(repeat (rename (∀ S,TC _ _ _ S->_)=>hX;clear hX));simp only[Aj,Az,Ab]at * <;>omega)))
  all_goals
   (refine j1 (j7 ?_))
   rfl
theorem mp0 (l:List Va):FnD prog gl 150 [.d (dPt ⟨true,l⟩)] (λv=>v=.d (.bool (Ns ⟨true,l⟩))):=by
 unfold dPt Ns;dsimp only;rw[Ad rfl]
 (refine j4 func150 ntmps150 results150 λw M=>?_)
 (repeat' first|apply Ca 1;(refine Ck 1 ?_)|refine yyp ?_;try refine Ce ?_ ?_<;>intro hb|refine yy ?_|refine yy2 ?_ ?_<;>intro hcmp|apply ah;refine Cc Qj ?_|refine Cb λK hK=>?_|apply Cg 13;refine j0 [] kd9 ?_|apply_assumption -exfalso -symm)
 ·(refine j1 (j7 ?_))
  rw[Bl (by omega)];rfl
 ·(refine j1 (j7 ?_))
  rw[Bl (by omega)];rfl
 have hd:decide (1<=l.length/\l.length<=16)=true:=Bm (by omega);refine k9 [2,3,4,38,39,40,41,42,43,44,45,46,47,48,49,50,51,52,53,54,55,56,57,58,59,60,61,62,63,64,65,66,67,68,69,70,71,72,73,74,75,76,77,78,79,80] [] (λk:Nat=>[(3,.d (.int .i64 k))]) (λ_=>[]) (λk=>k<=l.length/\Oi [] l=Oi (l.take k) (l.drop k)) (λk=>l.length - k) 0 ⟨by omega,rfl⟩ λk ⟨hk,hi⟩=>?_;dsimp only[Ac,Ae];rcases Ai k l.length with hk2|hk2
 ·rw[Bk hk2,me5,jo6 l k hk2]at hi;have hit:=kq9 gl l[k].items 0;have hnm:=x7 gl l[k].tag
  (repeat' first|refine yyp ?_;try refine Ce ?_ ?_<;>intro hb|refine yy ?_|apply Cf 188;refine Ci (hc:=hit) ?_;try refine Ce ?_ ?_<;>intro hb|apply Cf 112;refine Ci (hc:=hnm) ?_;try refine Ce ?_ ?_<;>intro hb|apply ah;refine Cc Qj ?_|refine Cb λK hK=>?_|apply Cg 13;refine j0 [] kd9 ?_|apply_assumption -exfalso -symm)
  all_goals first
   |((refine j1 (j7 ?_))
     rw[hi,hd];simp only[aF, *,Bool.not_true,Bf,Be,As]
     done)
   |skip
  refine k9 [2,4,63,64,65,66,67,68,69,70,71,72,73,74,75,76,77,78,79,80] [] (λj:Nat=>[(4,.d (.int .i64 j))]) (λ_=>[]) (λj=>j<=k/\((l.take j).any λw=>decide (w.tag=l[k].tag))=false) (λj=>k - j) 0 ⟨Ak _,rfl⟩ λj ⟨hj,hij⟩=>?_;dsimp only[Ac,Ae];rcases Ai j k with hj2|hj2
  ·have hj3:j<l.length:=by omega
   (repeat' first|refine yyp ?_;try refine Ce ?_ ?_<;>intro hb|refine yy ?_|refine yy2 ?_ ?_<;>intro hcmp|apply ah;refine Cc Qj ?_|refine Cb λK hK=>?_|apply Cg 13;refine j0 [] kd9 ?_|apply_assumption -exfalso -symm)
   all_goals first
    |(refine⟨j+1,⟨by omega,?_⟩,by omega,v6⟩
      rw[<-jo6 l j hj3,List.any_append,hij];simp[*]
      done)
    |((refine j1 (j7 ?_))
      rw[hi,hd];have:((l.take k).any λw=>decide (w.tag=l[k].tag))=true:=Ek.2 ⟨l[j],List.mem_take_iff_getElem.2 ⟨j,by omega,rfl⟩,by simpa using hcmp⟩;simp[aF,this]
      done)
  ·obtain rfl:j=k:=by omega
   (repeat' first|refine yyp ?_;try refine Ce ?_ ?_<;>intro hb|refine yy ?_|apply ah;refine Cc Qj ?_|refine Cb λK hK=>?_|apply Cg 13;refine j0 [] kd9 ?_|apply_assumption -exfalso -symm)
   refine⟨j+1,⟨by omega,?_⟩,by omega,v6⟩;rw[hi];simp only[*,Bool.not_false,Bf]
 ·rw[Bq hk2]at hi
  (repeat' first|refine yyp ?_;try refine Ce ?_ ?_<;>intro hb|refine yy ?_|apply ah;refine Cc Qj ?_|refine Cb λK hK=>?_|apply Cg 13;refine j0 [] kd9 ?_|apply_assumption -exfalso -symm)
  (refine j1 (j7 ?_))
  rw[hi,hd];rfl
theorem qb9 (p:Pt):FnD prog gl 150 [.d (dPt p)] (λv=>v=.d (.bool (Ns p))):=by
 obtain⟨c,l⟩:=p;cases c with
 |false=>exact mo9 gl l
 |true=>exact mp0 gl l
end
section
def Kj:List Nat:=[0,1,2,3,4,5,6,9,10,22,41,60,72,93]
attribute [local irreducible] TR TC
theorem qc0 (s:Sp)(k:s.kind=5):FnD prog gl 113 [.d (dSp s)] (λv=>v=.d (.bool (Hr s))):=by
 have q7:=λa b=>ks9 gl s.names a b;have w4:=kf6 gl (.mk 0 s.type [] s.e s.aN [] []) sp0;have hz:∀ (a:Int) b c d e f h,eqB (Sp.mk a b c d e f h) sp0=true↔(a=0/\b=ty0/\c=[]/\d=ex0/\e=pt0/\f=[]/\h=[]):=λa b c d e f h=>by rw[j9];simp[sp0]
 (refine j4 func113 ntmps113 results113 λw M=>?_)
 (repeat' first|apply Ca 1;(refine Ck 1 ?_)|apply Ca 3;(refine j2 3 ?_)|apply Ca 10;refine yyp ?_;try refine Ce ?_ ?_<;>intro hb|apply Ca 22;refine yyp ?_;try refine Ce ?_ ?_<;>intro hb|apply Ca 41;refine yyp ?_;try refine Ce ?_ ?_<;>intro hb|apply Ca 60;refine yyp ?_;try refine Ce ?_ ?_<;>intro hb|apply Ca 72;refine yyp ?_;try refine Ce ?_ ?_<;>intro hb|refine zas [77,83] ?_;(first|refine yyp ?_;try refine Ce ?_ ?_<;>intro hb|refine yy2 ?_ ?_<;>intro hcmp);all_goals try (first|refine Dj false 77 4 Kj ?_|refine Dj false 83 4 Kj ?_)|refine yyp ?_|refine yy ?_|refine yy2 ?_ ?_<;>intro hcmp|apply Cf 148;refine Ci (hc:=(q7 _ _)) ?_|apply ah;refine Cc Kj ?_|refine Cb λK hK=>?_|apply_assumption -exfalso -symm)
 all_goals refine jn5 1 14 rfl rfl λhsm=>?_
 all_goals simp only[Ab]at hsm
 next=>
  as_aux_lemma=>
   (refine k9 ([9]++[4,5,89,90,91,92,93,94,95,96,97,98,99,100,101,102,103,104]) [] (λi:Nat=>[(5,.d (.int .i64 i)),(4,.d (.bool ((s.ax.take i).all Lr)))]) (λ_=>[]) (λi=>i<=s.ax.length) (λi=>s.ax.length - i) 0 (Ak _) λi hi=>?_
    dsimp only[Ac,Ae];rcases Ai i s.ax.length with hi2|hi2
    ·have hfo:=mo7 gl s.ax[i];have hnx:(s.ax.take (i+1)).all Lr=((s.ax.take i).all Lr && Lr s.ax[i]):=by rw[<-jo6 _ _ hi2,List.all_append];simp
     (repeat' first|refine yyp ?_;try refine Ce ?_ ?_<;>intro hb|refine yy ?_|apply Cf 151;refine Ci (hc:=hfo) ?_;try refine Ce ?_ ?_<;>intro hb|apply ah;refine Cc Kj ?_|refine Cb λK hK=>?_|apply_assumption -exfalso -symm)
     all_goals
      refine⟨i+1,by omega,by omega,?_⟩
      first
       |(have e:(s.ax.take (i+1)).all Lr=true:=by rw[hnx];simp only[*,Bool.and_self]
         rw[e];exact v6)
       |(have e:(s.ax.take (i+1)).all Lr=false:=by rw[hnx];simp only[*,Be,As]
         rw[e];exact v6)
    ·obtain rfl:i=s.ax.length:=by omega
     rw[Bv]
     (repeat' first|apply Ca 109;(first|refine yyp ?_;try refine Ce ?_ ?_<;>intro hb|refine yy2 ?_ ?_<;>intro hcmp);all_goals try refine Dj false 109 2 Kj ?_|refine yyp ?_|refine yy ?_|apply Cf 152;refine Ci (hc:=(by first|exact w4)) ?_|apply ah;refine Cc Kj ?_|refine Cb λK hK=>?_|apply_assumption -exfalso -symm)
     skip
     all_goals
      (refine j1 (j7 ?_))
      (repeat (rename (∀ S,TC _ _ _ S->_)=>hX;clear hX))
      clear q7 w4;simp only[aF,At,Am];rw[Ej];simp only[Hr,Ip,Cq,Lx.hasB,k,Int.reduceEq,or_self,or_true,true_or,or_false,false_or,if_true,if_false,ne_eq,not_true_eq_false,not_false_eq_true,decide_true,decide_false,Bf,Bu,As,Be,Aa,Ah,j9,hz,true_and,and_true,Em,Bb,iff_false,false_iff]at *
      first
       |done
       |grind [j9,Em])
 all_goals as_aux_lemma=>first
  |(refine k9 ([9]++[4,5,89,90,91,92,93,94,95,96,97,98,99,100,101,102,103,104]) [] (λi:Nat=>[(5,.d (.int .i64 i)),(4,.d (.bool false))]) (λ_=>[]) (λi=>i<=s.ax.length) (λi=>s.ax.length - i) 0 (Ak _) λi hi=>?_
    dsimp only[Ac,Ae];rcases Ai i s.ax.length with hi2|hi2
    ·(repeat' first|apply Ca 97;(first|refine yyp ?_;try refine Ce ?_ ?_<;>intro hb|refine yy2 ?_ ?_<;>intro hcmp);all_goals try refine Dj false 97 4 Kj ?_|refine yyp ?_;try refine Ce ?_ ?_<;>intro hb|refine yy ?_|apply ah;refine Cc Kj ?_|refine Cb λK hK=>?_|apply_assumption -exfalso -symm)
     refine⟨i+1,by omega,by omega,v6⟩
    ·obtain rfl:i=s.ax.length:=by omega
     (repeat' first|apply Ca 109;(first|refine yyp ?_;try refine Ce ?_ ?_<;>intro hb|refine yy2 ?_ ?_<;>intro hcmp);all_goals try refine Dj false 109 2 Kj ?_|refine yyp ?_;try refine Ce ?_ ?_<;>intro hb|refine yy ?_|apply ah;refine Cc Kj ?_|refine Cb λK hK=>?_|apply_assumption -exfalso -symm)
     (refine j1 (j7 ?_))
     (repeat (rename (∀ S,TC _ _ _ S->_)=>hX;clear hX))
     clear q7 w4;simp only[aF,At,Am];symm;rw[Bool.eq_false_iff];simp only[Hr,Ip,Cq,Lx.hasB,k,Int.reduceEq,or_self,or_true,true_or,or_false,false_or,if_true,if_false,ne_eq,not_true_eq_false,not_false_eq_true,decide_true,decide_false,Bf,Bu,As,Be,Aa,Ah,j9,hz,true_and,and_true,Em,Bb,iff_false,false_iff]at *
     first
      |done
      |grind [j9,Em])
theorem qp6 (s:Sp)(h5:s.kind≠5):FnD prog gl 113 [.d (dSp s)] (λv=>v=.d (.bool (Hr s))):=by
 have q1:=ka4 gl s.type;have q2:=ks8 gl s.type;have q3:=jf9 gl s.e;have q4:=x3 gl s.e;have q5:=qb9 gl s.aN;have q7:=λa b=>ks9 gl s.names a b;have w1:=kf6 gl (.mk 0 ty0 [] s.e s.aN s.ax s.body) sp0;have w2:=kf6 gl (.mk 0 ty0 [] ex0 s.aN s.ax s.body) sp0;have w3:=kf6 gl (.mk 0 s.type [] s.e pt0 s.ax s.body) sp0;have hz:∀ (a:Int) b c d e f h,eqB (Sp.mk a b c d e f h) sp0=true↔(a=0/\b=ty0/\c=[]/\d=ex0/\e=pt0/\f=[]/\h=[]):=λa b c d e f h=>by rw[j9];simp[sp0]
 simp only[r8]at q3 q4;rcases(by omega:s.kind=1\/s.kind=2\/s.kind=3\/s.kind=4\/(s.kind≠1/\s.kind≠2/\s.kind≠3/\s.kind≠4)) with k|k|k|k|k
 all_goals as_aux_lemma=>
  (refine j4 func113 ntmps113 results113 λw M=>?_)
  (repeat' first|apply Ca 1;(refine Ck 1 ?_)|apply Ca 3;(refine j2 3 ?_)|apply Ca 10;refine yyp ?_;try refine Ce ?_ ?_<;>intro hb|refine zas [15,27,32,46,51,65,109] ?_;(first|refine yyp ?_;try refine Ce ?_ ?_<;>intro hb|refine yy2 ?_ ?_<;>intro hcmp);all_goals try (first|refine Dj false 15 4 Kj ?_|refine Dj false 27 4 Kj ?_|refine Dj false 32 4 Kj ?_|refine Dj false 46 4 Kj ?_|refine Dj false 51 4 Kj ?_|refine Dj false 65 4 Kj ?_|refine Dj false 109 2 Kj ?_)|apply Ca 20;refine z_p Cu ?_|apply Ca 22;refine yyp ?_;try refine Ce ?_ ?_<;>intro hb|apply Ca 37;refine z_p Cu ?_|apply Ca 39;refine z_p Cu ?_|apply Ca 41;refine yyp ?_;try refine Ce ?_ ?_<;>intro hb|apply Ca 56;refine z_p Cu ?_|apply Ca 58;refine z_p Cu ?_|apply Ca 60;refine yyp ?_;try refine Ce ?_ ?_<;>intro hb|apply Ca 70;refine z_p Cu ?_|apply Ca 72;refine yyp ?_;try refine Ce ?_ ?_<;>intro hb|refine yyp ?_|refine yy ?_|apply Cf 147;refine Ci (hc:=q1) ?_|apply Cf 148;refine Ci (hc:=(q7 _ _)) ?_|apply Cf 149;refine Ci (hc:=q2) ?_|apply Cf 16;refine Ci (hc:=q3) ?_|apply Cf 110;refine Ci (hc:=q4) ?_|apply Cf 150;refine Ci (hc:=q5) ?_|apply Cf 152;refine Ci (hc:=(by first|exact w1|exact w2|exact w3)) ?_|apply ah;refine Cc Kj ?_|refine Cb λK hK=>?_|apply_assumption -exfalso -symm)
  all_goals
   (refine j1 (j7 ?_))
   (repeat (rename (∀ S,TC _ _ _ S->_)=>hX;clear hX))
   clear q1 q2 q3 q4 q5 q7 w1 w2 w3;simp only[aF,At,Am];rw[Ej];simp only[Hr,Ip,k,h5,Int.reduceEq,or_self,or_true,true_or,or_false,false_or,if_true,if_false,ne_eq,not_true_eq_false,not_false_eq_true,decide_true,decide_false,Bf,Bu,As,Be,Aa,Ah,j9,hz,true_and,and_true,Em,Bb,iff_false,false_iff]at *
   first
    |done
    |grind [j9,Em]
theorem y8 (s:Sp):FnD prog gl 113 [.d (dSp s)] (λv=>v=.d (.bool (Hr s))):=by
 by_cases h:s.kind=5
 ·exact qc0 gl s h
 ·exact qp6 gl s h
end
section
def Wu:List Nat:=[0,1,2,3,4,10,11,21,25,51]
attribute [local irreducible] TR TC
theorem x9 (l:List Gu)(a b lo hi:Int)(hkk:∀ g∈l,0<=g.kind):FnD prog gl 111 [.d (.list 23 (l.map dGu)),.d (.int .i64 a),.d (.int .i64 b),.d (.int .u8 lo),.d (.int .u8 hi)] (λv=>v=.d (.bool (Dq l a b lo hi))):=by
 have hall:=λ(g:Gu) (h:g∈l)=>qb4 gl g (hkk g h);simp only[jb7]at hall ⊢;unfold Dq
 (refine j4 func111 ntmps111 results111 λw M=>?_)
 refine k7 0 rfl λhn=>?_;simp only[Ab]at hn
 (repeat' first|refine yyp ?_;try refine Ce ?_ ?_<;>intro hb|refine yy ?_|refine yy2 ?_ ?_<;>intro hcmp|apply ah;refine Cc Wu ?_|refine Cb λK hK=>?_|apply_assumption -exfalso -symm)
 ·(refine j1 (j7 ?_))
  simp only[aF,Cq,Lx.hasB,Bl (by omega:¬a<=(l.length:Int)),As]
 ·(refine j1 (j7 ?_))
  simp only[aF,Cq,Lx.hasB,Bl (by omega:¬(l.length:Int)<=b),As,Be]
 have hd:Lx.hasB a b l.length=true:=by
  unfold Lx.hasB;rw[Bm (by omega),Bm (by omega)];rfl
 refine k9 [10,11,22,23,24,25,26,27,28,29,30,31,32,33,34,35,36,37,38,39,40,41,42,43,44,45,46,47,48,49,50,51] [] (λk:Nat=>[(11,.d (.int .i64 k))]) (λ_=>[]) (λk=>k<=l.length/\(l.all λg=>decide (lo<=g.kind) && decide (g.kind<=hi) && Jr g)=((l.drop k).all λg=>decide (lo<=g.kind) && decide (g.kind<=hi) && Jr g)) (λk=>l.length - k) 0 ⟨by omega,rfl⟩ λk ⟨hk,hi'⟩=>?_;dsimp only[Ac,Ae];rcases Ai k l.length with hk2|hk2
 ·rw[Bk hk2,Ei]at hi';have hone:=hall l[k] (Ao hk2)
  (repeat' first|refine yyp ?_;try refine Ce ?_ ?_<;>intro hb|refine yy ?_|refine yy2 ?_ ?_<;>intro hcmp|apply Cf 143;refine Ci (hc:=hone) ?_;try refine Ce ?_ ?_<;>intro hb|apply ah;refine Cc Wu ?_|refine Cb λK hK=>?_|apply_assumption -exfalso -symm)
  all_goals first
   |(refine⟨k+1,⟨by omega,?_⟩,by omega,v6⟩
     rw[hi',hb,Bm (by omega),Bm (by omega)];rfl)
   |((refine j1 (j7 ?_))
     have hf:(decide (lo<=l[k].kind) && decide (l[k].kind<=hi) && Jr l[k])=false:=by
      first
       |(rw[hb,Be])
       |(rw[Bl (by omega:¬lo<=l[k].kind)];rfl)
       |(rw[Bl (by omega:¬l[k].kind<=hi),Be];rfl)
     rw[hf,As]at hi';simp only[aF,Cq,hi',Be])
 ·rw[Bq hk2]at hi'
  (repeat' first|refine yyp ?_;try refine Ce ?_ ?_<;>intro hb|refine yy ?_|apply ah;refine Cc Wu ?_|refine Cb λK hK=>?_|apply_assumption -exfalso -symm)
  (refine j1 (j7 ?_))
  simp only[aF,Cq,hi',hd,List.all_nil,Bool.and_self]
end
end Go.Proofs.YtklklgfpkpglgaaGreatDoor
