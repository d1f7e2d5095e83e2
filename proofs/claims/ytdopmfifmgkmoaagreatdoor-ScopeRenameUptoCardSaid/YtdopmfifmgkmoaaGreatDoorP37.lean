/- Parts: S14, O30, L1. -/
import Derived.Test.YtdopmfifmgkmoaaGreatDoorP26
import Derived.Test.YtdopmfifmgkmoaaGreatDoorP36
set_option linter.all false
set_option maxRecDepth 100000
set_option maxHeartbeats 16000000
namespace Go.Proofs.YtdopmfifmgkmoaaGreatDoor
open Go.RowKit Go.Proofs.Tryz
section
namespace Sc
open Lx
mutual
def Ms:Pr->Prop
 |.mk kind name chan targets exprs rep guards l procs (.mk sk st sn se spp sf sb)=>Il (.mk kind name chan targets exprs rep guards l procs (.mk sk st sn se spp sf sb))=true/\Jj sb/\Lp guards/\Jj l
def Jj:List Pr->Prop
 |[]=>True
 |p::l=>Ms p/\Jj l
def Lp:List Gu->Prop
 |[]=>True
 |.mk _ _ _ _ _ _ _ body::l=>Jj body/\Lp l
end
mutual
def Jq:Pr->Nat
 |.mk _ _ _ _ _ _ guards l _ (.mk _ _ _ _ _ _ sb)=>1+Gt sb+Jl guards+Gt l
def Gt:List Pr->Nat
 |[]=>0
 |p::l=>Jq p+Gt l
def Jl:List Gu->Nat
 |[]=>0
 |.mk _ _ _ _ _ _ _ body::l=>Gt body+Jl l
end
theorem Qk (p:Pr)(h:ownB p=true):(p.kind=18->p.rep.name=ByteArray.empty)/\(p.kind≠18->p.spec=sp0)/\(p.kind=5->Hf p.chan=true/\Da p.exprs 1 9 Gr=true)/\Iz p.rep=true:=by
 unfold ownB at h;refine⟨fun hk=>?_,fun hk=>?_,fun hk=>?_,?_⟩
 ·simp only[hk,Int.reduceEq,or_self,if_false,if_true,Ab,Bool.not_not,Al]at h;exact h.2.1.1.1.1
 ·dsimp only at h;have h:=(Bool.and_eq_true_iff.1 h).2;have key:∀ (X nm ch tg ex pc:Bool),(X && Ip p nm ch tg ex pc false)=true->p.spec=sp0:=fun X nm ch tg ex pc h=>by
   rw[Ab]at h;have h:=h.2;unfold Ip at h;rw[Ab,Ed,k7]at h;exact h.2
  by_cases c0:p.kind=1\/p.kind=2
  ·rw[Ae c0]at h;exact key _ _ _ _ _ _ h
  rw[Af c0]at h;by_cases c1:p.kind=3
  ·rw[Ae c1]at h;exact key _ _ _ _ _ _ h
  rw[Af c1]at h;by_cases c2:p.kind=4
  ·rw[Ae c2]at h;exact key _ _ _ _ _ _ h
  rw[Af c2]at h;by_cases c3:p.kind=5
  ·rw[Ae c3]at h;exact key _ _ _ _ _ _ h
  rw[Af c3]at h;by_cases c4:p.kind=6
  ·rw[Ae c4]at h;exact key _ _ _ _ _ _ h
  rw[Af c4]at h;by_cases c5:p.kind=7
  ·rw[Ae c5]at h;exact key _ _ _ _ _ _ h
  rw[Af c5]at h;by_cases c6:p.kind=8\/p.kind=9
  ·rw[Ae c6]at h;exact key _ _ _ _ _ _ h
  rw[Af c6]at h;by_cases c7:p.kind=10
  ·rw[Ae c7]at h;exact key _ _ _ _ _ _ h
  rw[Af c7]at h;by_cases c8:p.kind=11
  ·rw[Ae c8]at h;exact key _ _ _ _ _ _ h
  rw[Af c8]at h;by_cases c9:p.kind=12\/p.kind=13
  ·rw[Ae c9]at h;exact key _ _ _ _ _ _ h
  rw[Af c9]at h;by_cases c10:p.kind=14
  ·rw[Ae c10]at h;exact key _ _ _ _ _ _ h
  rw[Af c10]at h;by_cases c11:p.kind=15
  ·rw[Ae c11]at h;exact key _ _ _ _ _ _ h
  rw[Af c11]at h;by_cases c12:p.kind=16
  ·rw[Ae c12]at h;exact key _ _ _ _ _ _ h
  rw[Af c12]at h;by_cases c13:p.kind=17
  ·rw[Ae c13]at h;exact key _ _ _ _ _ _ h
  rw[Af c13]at h;rw[Af hk]at h;cases h
 ·simp only[hk,Int.reduceEq,or_self,if_false,if_true,Ab]at h;exact⟨h.2.1.1.1.1.2,h.2.1.1.1.2⟩
 ·simp only[Ab]at h;exact h.1
mutual
theorem ki2:∀ (p:Pr) (depth left:Int) (pl:Bool),(Fz depth left pl p).1=true->Ms p/\(Fz depth left pl p).2+Jq p<=left
 |.mk kind name chan targets exprs rep guards l procs (.mk sk st sn se spp sf sb),depth,left,pl,h=>by
  rw[Fz]at h ⊢;by_cases c1:left - 1<0\/32<depth\/Il (.mk kind name chan targets exprs rep guards l procs (.mk sk st sn se spp sf sb))=false\/(kind=11/\pl=false)
  ·rw[Ae c1]at h;cases h
  rw[Af c1]at h ⊢;by_cases c2:kind=18/\spp.cases=true/\32<depth+2
  ·rw[Ae c2]at h;cases h
  rw[Af c2]at h ⊢;have hp:Il (.mk kind name chan targets exprs rep guards l procs (.mk sk st sn se spp sf sb))=true:=by
   cases hq:Il (.mk kind name chan targets exprs rep guards l procs (.mk sk st sn se spp sf sb)) with
   |true=>rfl
   |false=>exact absurd (.inr (.inr (.inl hq))) c1
  have ho:=hp;rw[Np,Ab]at ho;have hk:=Qk _ ho.1;have hgl:=Pp _ ho.1;simp only[Pr.kind,Pr.spec,Pr.guards]at hk hgl;have hb:(if kind=18 then Df (depth+1) (left - 1) sb else (true,left - 1)).1=true->Jj sb/\(if kind=18 then Df (depth+1) (left - 1) sb else (true,left - 1)).2+Gt sb<=left - 1:=fun hb=>by
   by_cases h18:kind=18
   ·rw[Ae h18]at hb ⊢;have hs:=js7 _ (Oy _ ho.1 h18);simp only[Pr.spec,Sp.kind,Sp.body]at hs;refine mm1 sb _ _ ?_ hb;by_cases h5:sk=5
    ·exact Fq (hs.2.1 h5)
    ·rw[hs.2.2 h5];exact Ak _
   ·rw[Af h18];have:=hk.2.1 h18;simp only[sp0,Sp.mk.injEq]at this;rw[this.2.2.2.2.2.2];exact⟨trivial,by simp only[Gt];omega⟩
  dsimp only at h ⊢;generalize (if kind=18 then Df (depth+1) (left - 1) sb else (true,left - 1))=b at h hb ⊢;by_cases c3:b.1=false
  ·rw[Ae c3]at h;cases h
  rw[Af c3]at h ⊢;obtain⟨b1,b2⟩:=hb (by simpa using c3);have hm:=qd9 l (if kind=11 then depth+2 else if kind=18 then depth else depth+1) b.2 (pl && decide (kind=18));generalize Gg (if kind=11 then depth+2 else if kind=18 then depth else depth+1) b.2 (pl && decide (kind=18)) l=m at h hm ⊢;by_cases c4:m.1=false
  ·rw[Ae c4]at h;cases h
  rw[Af c4]at h ⊢;obtain⟨m1,m2⟩:=hm (by simpa using c4);obtain⟨g1,g2⟩:=qe0 guards (depth+2) m.2 hgl h;refine⟨?_,?_⟩
  ·simp only[Ms];exact⟨hp,b1,g1,m1⟩
  ·simp only[Jq];omega
theorem mm1:∀ (l:List Pr) (depth left:Int),l.length<=1->(Df depth left l).1=true->Jj l/\(Df depth left l).2+Gt l<=left
 |[],depth,left,_,h=>by
  rw[Df];simp only[Jj,Gt];exact⟨trivial,by omega⟩
 |[p],depth,left,_,h=>by
  rw[Df]at h ⊢;have:=ki2 p depth left false h;simp only[Jj,Gt];exact⟨⟨this.1,trivial⟩,by omega⟩
 |_::_::_,_,_,hl,_=>by simp at hl
theorem qd9:∀ (l:List Pr) (depth left:Int) (pl:Bool),(Gg depth left pl l).1=true->Jj l/\(Gg depth left pl l).2+Gt l<=left
 |[],depth,left,pl,h=>by
  rw[Gg];simp only[Jj,Gt];exact⟨trivial,by omega⟩
 |p::l,depth,left,pl,h=>by
  rw[Gg]at h ⊢;by_cases c:(Fz depth left pl p).1=true
  ·rw[Ae c]at h ⊢;have h1:=ki2 p depth left pl c;have h2:=qd9 l depth _ pl h;simp only[Jj,Gt];exact⟨⟨h1.1,h2.1⟩,by omega⟩
  ·rw[Af c]at h;exact absurd h c
theorem qe0:∀ (l:List Gu) (depth left:Int),(∀ g∈l,g.body.length=1)->(Ib depth left l).1=true->Lp l/\(Ib depth left l).2+Jl l<=left
 |[],depth,left,_,h=>by
  rw[Ib];simp only[Lp,Jl];exact⟨trivial,by omega⟩
 |.mk _ _ _ _ _ _ _ body::l,depth,left,hl,h=>by
  rw[Ib]at h ⊢;by_cases c:(Df depth left body).1=true
  ·rw[Ae c]at h ⊢;have h1:=mm1 body depth left (Fq (hl _ Bi)) c;have h2:=qe0 l depth _ (fun g hg=>hl g (Bk _ hg)) h;simp only[Lp,Jl];exact⟨⟨h1.1,h2.1⟩,by omega⟩
  ·rw[Af c]at h;exact absurd h c
end
theorem Nl {p:Pr}(h:Dz p=true):Ms p/\Jq p<=2048:=by
 unfold Dz at h;have h1:=ki2 p 0 2048 true h;have h2:=Kv p 0 2048 true (by omega) (by omega);unfold agree at h2;have h3:=h2.1.1 h;have h4:=(h2.2 h3).1;exact⟨h1.1,by omega⟩
theorem ki3 {s:ByteArray}(h:Dg s=true):s≠ByteArray.empty:=by
 rintro rfl;cases h
theorem mm2 (s:Sp)(h:Jf s=true):(∀ x∈s.names,Dg x=true)/\(∀ f∈s.formals,Dg f.name=true)/\s.names.length<=8/\s.formals.length<=8/\(Jm s.e=true\/Gr s.e=true):=by
 unfold Jf at h;have he:Hf s.e=true->Gr s.e=true:=fun h=>by unfold Hf at h;exact(Bool.and_eq_true_iff.1 h).2
 have hn:∀ a b:Int,b<=8->Da s.names a b Dg=true->(∀ x∈s.names,Dg x=true)/\s.names.length<=8:=fun a b hb h=>by
  unfold Da hasB at h;simp only[Ab,Al]at h;exact⟨Ec.1 h.2,by omega⟩
 have hf:Da s.formals 0 8 Mg=true->(∀ f∈s.formals,Dg f.name=true)/\s.formals.length<=8:=fun h=>by
  unfold Da hasB at h;simp only[Ab,Al]at h;refine⟨fun f hf=>?_,by omega⟩;have:=Ec.1 h.2 f hf;unfold Mg at this;simp only[Ab]at this;exact this.1.1
 have h0:s.formals.length=0->(∀ f∈s.formals,Dg f.name=true)/\s.formals.length<=8:=fun h=>by
  rw[At h];exact⟨fun f hf=>(by cases hf),Ak _⟩
 by_cases k1:s.kind=1
 ·rw[Ae k1]at h;simp only[Ab,Al]at h;have a:=hn 1 8 (by omega) h.1.1.1.1.2;have b:=h0 h.1.2;exact⟨a.1,b.1,a.2,b.2,.inl h.1.1.1.2⟩
 rw[Af k1]at h;by_cases k2:s.kind=2
 ·rw[Ae k2]at h;simp only[Ab,Al]at h;have a:=hn 1 1 (by omega) h.1.1.1.2;have b:=h0 h.1.2;exact⟨a.1,b.1,a.2,b.2,.inr h.1.1.1.1.2⟩
 rw[Af k2]at h;by_cases k3:s.kind=3
 ·rw[Ae k3]at h;simp only[Ab,Al]at h;have a:=hn 1 1 (by omega) h.1.1.1.2;have b:=h0 h.1.2;exact⟨a.1,b.1,a.2,b.2,.inr (he h.1.1.1.1.2)⟩
 rw[Af k3]at h;by_cases k4:s.kind=4
 ·rw[Ae k4]at h;simp only[Ab,Al]at h;have a:=hn 1 1 (by omega) h.1.1.1.1.2;have b:=h0 h.1.2;exact⟨a.1,b.1,a.2,b.2,.inl h.1.1.2⟩
 rw[Af k4]at h;by_cases k5:s.kind=5
 ·rw[Ae k5]at h;simp only[Ab,Al]at h;have a:=hn 1 1 (by omega) h.1.1.1.2;have b:=hf h.1.1.1.1.2;exact⟨a.1,b.1,a.2,b.2,.inl h.1.2⟩
 rw[Af k5]at h;cases h
theorem qr5 {e:Ex}(h:Gr e=true)(hk:e.kind=4):e.l=[]:=by
 obtain⟨kind,op,ty,n,s,l⟩:=e;simp only[Ex.kind]at hk;subst hk;unfold Gr at h;rw[Dx]at h;split at h
 ·cases h
 ·rename_i h1;have h2:Lg (.mk 4 op ty n s l)=true:=by
   cases hq:Lg (.mk 4 op ty n s l) with
   |true=>rfl
   |false=>exact absurd (.inl hq) h1
  unfold Lg Ka at h2;simp only[Ex.kind,Ex.op,Ex.ty,Ex.n,Ex.s,Ex.l,Int.reduceEq,if_false,true_or,if_true,Ab,Al]at h2;have:=h2.2;have h3:(if Dg s=true then ((0:Int),decide (op.toNat=0/\ty=0/\n=0)) else (0,false)).1=0:=by split<;>rfl
  have h4:(l.length:Int)=0:=by
   refine this.trans ?_;split<;>rfl
  exact At (by show l.length=0;omega)
theorem qr6 {r:Rp}(h:Iz r=true)(h0:r.name=ByteArray.empty):r=rp0:=by
 unfold Iz at h;rw[Ae h0,Ab]at h;unfold Jm at h;rw[k7,k7]at h;obtain⟨a,b,c⟩:=r;dsimp only at h0 h;rw[h0,h.1,h.2];rfl
theorem qr7 (p:Pr)(h:ownB p=true):ml1 p.kind p.chan p.exprs p.rep:=by
 have hk:=Qk p h;refine⟨⟨hk.1,qr6 hk.2.2.2⟩,fun h5=>?_⟩;obtain⟨h1,h2⟩:=hk.2.2.1 h5;unfold Hf at h1;unfold Da hasB at h2;simp only[Ab,Bo,Al]at h1 h2;refine⟨fun e=>?_,?_,fun e he h4=>?_⟩
 ·rw[e]at h2;have:=h2.1.1;simp at this
 ·unfold Dt;rcases h1.1 with h|h
  ·rw[h];rfl
  ·rw[h];rfl
 ·refine qr5 (Ec.1 h2.2 e ?_) h4;cases hx:p.exprs with
  |nil=>rw[hx]at he;cases he
  |cons y l=>
   rw[hx]at he;simp only[List.head?_cons,Option.mem_def,Bm]at he;subst he;exact Bi
mutual
theorem qe1:∀ p:Pr,Ms p->Ry p
 |.mk kind name chan targets exprs rep guards l procs (.mk sk st sn se spp sf sb),h=>by
  simp only[Ms]at h;obtain⟨h1,h2,h3,h4⟩:=h;rw[Np,Ab]at h1;have hn:=qr7 _ h1.1;have hk:=Qk _ h1.1;simp only[Pr.kind,Pr.chan,Pr.exprs,Pr.rep,Pr.spec]at hn hk;have hs:(∀ s∈sn,s≠ByteArray.empty)/\(∀ f∈sf,f.name≠ByteArray.empty):=by
   by_cases h18:kind=18
   ·have:=mm2 _ (Oy _ h1.1 h18);exact⟨fun s hs=>ki3 (this.1 s hs),fun f hf=>ki3 (this.2.1 f hf)⟩
   ·have:=hk.2.1 h18;simp only[sp0,Sp.mk.injEq]at this;rw[this.2.2.1,this.2.2.2.2.2.1];exact⟨fun s hs=>(by cases hs),fun f hf=>(by cases hf)⟩
  simp only[Ry];exact⟨hn,hk.2.1,hs.1,hs.2,kt2 sb h2,qe2 guards h3,kt2 l h4⟩
theorem kt2:∀ l:List Pr,Jj l->Qu l
 |[],_=>trivial
 |p::l,h=>by
  simp only[Jj]at h;simp only[Qu];exact⟨qe1 p h.1,kt2 l h.2⟩
theorem qe2:∀ l:List Gu,Lp l->Sw l
 |[],_=>trivial
 |.mk _ _ _ _ _ _ _ body::l,h=>by
  simp only[Lp]at h;simp only[Sw,Xh];exact⟨kt2 body h.1,qe2 l h.2⟩
end
end Sc
end
section
def Pv:List Nat:=[0,1,2,3,4,5,6,7,12,27,38,58]
theorem kt3 (a b:Int):IntKind.i64.wrap (IntKind.i64.wrap a+IntKind.i64.wrap b)=IntKind.i64.wrap (a+b):=by
 have h1:∀ n:Int,IntKind.i64.wrap n=if n % 18446744073709551616>=9223372036854775808 then n % 18446744073709551616 - 18446744073709551616 else n % 18446744073709551616:=fun n=>by
  unfold IntKind.wrap;simp[IntKind.bits,IntKind.signed]
 rw[h1 a,h1 b,h1 (a+b),h1]
 repeat' split
 all_goals omega
section
variable {E:Set}{Q:Exit->Sd->Prop}{ops:Array Oper}{draw:Bool}{rest:Todo}
variable {env:List (Nat × V)}{H:List (Nat × Ob)}{gl:List (Nat × List D)}
theorem jn1 {c:Code}(n i:Nat){sz:Nat}{xs:List D}{cs:List V}(hl:look n H=some (.box cs))(hi:cs[i]? =some (.d (.list sz xs)))(h:xs.length<=9223372036854775807->TC E c Q ⟨env,H,gl⟩):TC E c Q ⟨env,H,gl⟩:=fun a w ⟨β,hB⟩=>by
 obtain⟨_,vs,_,_,_,h3⟩:=hB.obs n _ hl;obtain⟨x,_,h2⟩:=h3.get hi;obtain⟨_,_,_,_,q1,q2,_⟩:=h2;exact h (Fc q1 q2) a w ⟨β,hB⟩
theorem jq5 {c:Code}(n i j k:Nat){sz sz2:Nat}{xs ds ys:List D}{cs:List V}(hl:look n H=some (.box cs))(hi:cs[i]? =some (.d (.list sz xs)))(hj:xs[j]? =some (.agg ds))(hk:ds[k]? =some (.list sz2 ys))(h:ys.length<=9223372036854775807->TC E c Q ⟨env,H,gl⟩):TC E c Q ⟨env,H,gl⟩:=fun a w ⟨β,hB⟩=>by
 obtain⟨_,vs,_,_,_,h3⟩:=hB.obs n _ hl;obtain⟨x,_,h2⟩:=h3.get hi;obtain⟨_,_,us,_,_,_,_,q1,_⟩:=h2;have q2:=q1.get hj;obtain⟨v,q3⟩:∃ v,Gd w (Mut E.C.M0 β H) (.agg ds) v:=by
  obtain⟨v,q2⟩:=q2
  first
   |exact⟨v,q2.2.2⟩
   |exact⟨v,q2.2⟩
   |exact⟨v,q2.1⟩
 obtain⟨ws,_,q4⟩:=q3;obtain⟨u,_,_,q5⟩:=q4.get hk;obtain⟨_,_,_,_,q6,q7,_⟩:=q5;exact h (Fc q6 q7) a w ⟨β,hB⟩
end
theorem ki4 (l:List Pr)(j:Nat)(hj:j<l.length):Sc.Gt (l.take (j+1))=Sc.Gt (l.take j)+Sc.Jq l[j]:=by
 induction l generalizing j with
 |nil=>simp at hj
 |cons x l ih=>
  cases j with
  |zero=>simp[Sc.Gt]
  |succ j=>
   have:=ih j (by simpa using hj);simp only[Eg,Sc.Gt,Bz]at this ⊢;omega
theorem mr3 (l:List Gu)(j:Nat)(hj:j<l.length):Sc.Jl (l.take (j+1))=Sc.Jl (l.take j)+Sc.Gt l[j].body:=by
 induction l generalizing j with
 |nil=>simp at hj
 |cons x l ih=>
  obtain⟨_,_,_,_,_,_,_,body⟩:=x;cases j with
  |zero=>simp[Sc.Jl,Gu.body]
  |succ j=>
   have:=ih j (by simpa using hj);simp only[Eg,Sc.Jl,Bz]at this ⊢;omega
def dGq (g:Gu):D:=.agg [.int .u8 g.kind,.str g.name,
    .int .u8 g.cond.kind,.int .u8 g.cond.op,.int .u8 g.cond.ty,.int .i32 g.cond.n,.str g.cond.s,.list 6 (g.cond.l.map dEx),
    .int .u8 g.chan.kind,.int .u8 g.chan.op,.int .u8 g.chan.ty,.int .i32 g.chan.n,.str g.chan.s,.list 6 (g.chan.l.map dEx),
    .list 6 (g.targets.map dEx),.list 6 (g.values.map dEx),
    .int .u8 g.time.kind,.int .u8 g.time.op,.int .u8 g.time.ty,.int .i32 g.time.n,.str g.time.s,.list 6 (g.time.l.map dEx),
    .list 42 (g.body.map dP)]
theorem qe3:dGu=dGq:=by
 rw[je9];funext g;simp only[dG,dGq,v8]
attribute [local irreducible] TR TC
theorem rc9 (gl:List (Nat × List D))(p:Pr)
 (ih:∀ x:Pr,(x∈p.l\/x∈p.spec.body\/∃ g∈p.guards,x∈g.body)->FnD prog gl 28 [.d (dPr x)] (fun v=>v=.d (.int .i64 (IntKind.i64.wrap (Sc.Jq x))))):
 FnD prog gl 28 [.d (dPr p)] (fun v=>v=.d (.int .i64 (IntKind.i64.wrap (Sc.Jq p)))):=by
 simp only[v8]at ih ⊢
 (refine j3 func28 ntmps28 results28 fun w M=>?_)
 (repeat' first|refine Ca 1 ?_;(refine j6 1001 ?_)|refine yyp ?_;try refine Cc ?_ ?_<;>intro hb|refine yy ?_|refine at_nil ?_;refine Ce Pv ?_|refine Cb fun K hK=>?_|apply_assumption -exfalso -symm)
 refine jn1 1001 24 rfl rfl fun hsm=>?_;simp only[Aa]at hsm;simp only[v8];refine j8 [3,4,8,9,10,11,12,13,14,15,16,17,18,19,20,21,22] [] (fun j:Nat=>[(4,.d (.int .i64 j)),(3,.d (.int .i64 (IntKind.i64.wrap (1+Sc.Gt (p.l.take j):Nat))))]) (fun _=>[]) (fun j=>j<=p.l.length) (fun j=>p.l.length - j) 0 (Ak _) fun j hj=>?_;dsimp only[Ac,Ad];rcases Ah j p.l.length with hj2|hj2
 ·have hone:=ih p.l[j] (.inl (Ar hj2))
  (repeat' first|refine yyp ?_;try refine Cc ?_ ?_<;>intro hb|refine yy ?_|refine Cf 28 ?_;refine Cg (hc:=hone) ?_|refine at_nil ?_;refine Ce Pv ?_|refine Cb fun K hK=>?_|apply_assumption -exfalso -symm)
  refine⟨j+1,by omega,by omega,?_⟩;rw[kt3,ki4 _ _ hj2,<-Ey,Int.natCast_add (1+_)];exact v6
 obtain rfl:j=p.l.length:=by omega
 rw[Au]
 (repeat' first|refine yyp ?_;try refine Cc ?_ ?_<;>intro hb|refine yy ?_|refine at_nil ?_;refine Ce Pv ?_|refine Cb fun K hK=>?_|apply_assumption -exfalso -symm)
 refine jn1 1001 23 rfl rfl fun hsg=>?_;simp only[Aa]at hsg;rw[qe3];refine j8 [3,5,6,23,24,25,26,27,28,29,30,31,32,33,34,35,36,37,38,39,40,41,42,43,44,45,46,47,48,49,50,51,52] [] (fun j:Nat=>[(5,.d (.int .i64 j)),(3,.d (.int .i64 (IntKind.i64.wrap (1+Sc.Gt p.l+Sc.Jl (p.guards.take j):Nat))))]) (fun _=>[]) (fun j=>j<=p.guards.length) (fun j=>p.guards.length - j) 0 (Ak _) fun j hj=>?_;dsimp only[Ac,Ad];rcases Ah j p.guards.length with hj2|hj2
 ·(repeat' first|refine yyp ?_;try refine Cc ?_ ?_<;>intro hb|refine yy ?_|refine at_nil ?_;refine Ce Pv ?_|refine Cb fun K hK=>?_|apply_assumption -exfalso -symm)
  refine jq5 1001 23 j 22 rfl rfl (by rw[Bx,Be hj2];rfl) rfl fun hsb=>?_;simp only[Aa]at hsb;refine j8 [3,6,30,31,32,33,34,35,36,37,38,39,40,41,42,43,44,45,46,47,48,49,50,51,52] [] (fun i:Nat=>[(6,.d (.int .i64 i)),(3,.d (.int .i64 (IntKind.i64.wrap (1+Sc.Gt p.l+Sc.Jl (p.guards.take j)+Sc.Gt (p.guards[j].body.take i):Nat))))]) (fun _=>[]) (fun i=>i<=p.guards[j].body.length) (fun i=>p.guards[j].body.length - i) 0 (Ak _) fun i hi=>?_;dsimp only[Ac,Ad];rcases Ah i p.guards[j].body.length with hi2|hi2
  ·have hone:=ih p.guards[j].body[i] (.inr (.inr ⟨p.guards[j],Ar hj2,Ar hi2⟩))
   (repeat' first|refine yyp ?_;try refine Cc ?_ ?_<;>intro hb|refine yy ?_|refine Cf 28 ?_;refine Cg (hc:=hone) ?_|refine at_nil ?_;refine Ce Pv ?_|refine Cb fun K hK=>?_|apply_assumption -exfalso -symm)
   refine⟨i+1,by omega,by omega,?_⟩;rw[kt3,ki4 _ _ hi2,<-Ey,Int.natCast_add (1+_+_+_)];exact v6
  obtain rfl:i=p.guards[j].body.length:=by omega
  rw[Au]
  (repeat' first|refine yyp ?_;try refine Cc ?_ ?_<;>intro hb|refine yy ?_|refine at_nil ?_;refine Ce Pv ?_|refine Cb fun K hK=>?_|apply_assumption -exfalso -symm)
  refine⟨j+1,by omega,by omega,?_⟩;rw[mr3 _ _ hj2,<-Ey];exact v6
 obtain rfl:j=p.guards.length:=by omega
 rw[Au]
 (repeat' first|refine yyp ?_;try refine Cc ?_ ?_<;>intro hb|refine yy ?_|refine at_nil ?_;refine Ce Pv ?_|refine Cb fun K hK=>?_|apply_assumption -exfalso -symm)
 refine jn1 1001 41 rfl rfl fun hsb=>?_;simp only[Aa]at hsb
 try rw[v8]
 refine j8 [3,7,53,54,55,56,57,58,59,60,61,62,63,64,65,66,67,68,69] [] (fun j:Nat=>[(7,.d (.int .i64 j)),(3,.d (.int .i64 (IntKind.i64.wrap (1+Sc.Gt p.l+Sc.Jl p.guards+Sc.Gt (p.spec.body.take j):Nat))))]) (fun _=>[]) (fun j=>j<=p.spec.body.length) (fun j=>p.spec.body.length - j) 0 (Ak _) fun j hj=>?_;dsimp only[Ac,Ad];rcases Ah j p.spec.body.length with hj2|hj2
 ·have hone:=ih p.spec.body[j] (.inr (.inl (Ar hj2)))
  (repeat' first|refine yyp ?_;try refine Cc ?_ ?_<;>intro hb|refine yy ?_|refine Cf 28 ?_;refine Cg (hc:=hone) ?_|refine at_nil ?_;refine Ce Pv ?_|refine Cb fun K hK=>?_|apply_assumption -exfalso -symm)
  refine⟨j+1,by omega,by omega,?_⟩;rw[kt3,ki4 _ _ hj2,<-Ey,Int.natCast_add (1+_+_+_)];exact v6
 obtain rfl:j=p.spec.body.length:=by omega
 rw[Au]
 (repeat' first|refine yyp ?_;try refine Cc ?_ ?_<;>intro hb|refine yy ?_|refine at_nil ?_;refine Ce Pv ?_|refine Cb fun K hK=>?_|apply_assumption -exfalso -symm)
 (refine j0 (j5 ?_))
 have:Sc.Jq p=1+Sc.Gt p.l+Sc.Jl p.guards+Sc.Gt p.spec.body:=by
  obtain⟨kind,name,chan,targets,exprs,rep,guards,l,procs,⟨sk,st,sn,se,spp,sf,sb⟩⟩:=p;simp only[Sc.Jq,Pr.l,Pr.guards,Pr.spec,Sp.body];omega
 rw[this];rfl
theorem qe4 (gl:List (Nat × List D)):∀ (n:Nat) (p:Pr),SizeOf.sizeOf p<=n->FnD prog gl 28 [.d (dPr p)] (fun v=>v=.d (.int .i64 (IntKind.i64.wrap (Sc.Jq p)))):=by
 intro n
 induction n with
 |zero=>intro p h;cases p;simp only[Pr.mk.sizeOf_spec]at h;omega
 |succ n ih=>
  intro p hp;refine rc9 gl p fun x hx=>ih x ?_;rcases hx with hx|hx|⟨g,hg,hx⟩
  ·have:=mv0 hx;omega
  ·have:=mv2 hx;omega
  ·have:=mv1 hg hx;omega
end
section
attribute [local irreducible] TR TC
theorem jn2 (gl:List (Nat × List D))(p:Pr):FnD prog gl 10 [.d (dPr p)] (fun v=>v=.d (.bool (decide (150<IntKind.i64.wrap (Sc.Jq p))))):=by
 have c:=qe4 gl _ p (As _);rw[v8]at c ⊢
 (refine j3 func10 ntmps10 results10 fun w M=>?_)
 (repeat' first|refine Ca 1 ?_;(refine j6 1 ?_)|refine yyp ?_;try refine Cc ?_ ?_<;>intro hb|refine yy ?_|refine yy2 ?_ ?_<;>intro hcmp|refine Cf 28 ?_;refine Cg (hc:=c) ?_|refine at_nil ?_;refine Ce [0,1,2,3,4,5] ?_|refine Cb fun K hK=>?_|apply_assumption -exfalso -symm)
 all_goals first
  |((refine j0 (j5 ?_))
    simp[oneOf, *]
    done)
end
end Go.Proofs.YtdopmfifmgkmoaaGreatDoor
