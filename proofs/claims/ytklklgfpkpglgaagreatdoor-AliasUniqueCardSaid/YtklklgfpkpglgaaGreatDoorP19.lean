/- Parts: O24, O41. -/
import Derived.Test.YtklklgfpkpglgaaGreatDoorP35
set_option linter.all false
set_option maxRecDepth 100000
set_option maxHeartbeats 16000000
namespace Go.Proofs.YtklklgfpkpglgaaGreatDoor
open Go.RowKit Go.Proofs.Tryz
section
def Gx:List Nat:=[0,1,2,3,5,8,9,11,13,43,47,48,52,82,84,85,86,87,100,103,104,105,106,117]
variable {mm:Int}
namespace Lx
theorem Qc (depth left:Int)(pl:Bool)(p:Pr)(l:List Pr):Di depth left pl (p::l)=if (Dh depth left pl p).1 then Di depth (Dh depth left pl p).2 pl l else Dh depth left pl p:=by rw[Di]
theorem Pz (depth left:Int)(g:Gu)(l:List Gu):Gh depth left (g::l)=if (Co depth left g.body).1 then Gh depth (Co depth left g.body).2 l else Co depth left g.body:=by
 cases g;rw[Gh];rfl
theorem Qr (depth left:Int)(pl:Bool)(p:Pr):Dh depth left pl p=
 if left - 1<0\/32<depth\/Gq p=false\/(p.kind=11/\pl=false) then (false,left - 1)
 else if p.kind=18/\p.spec.proto.cases=true/\32<depth+2 then (false,left - 1)
 else if (if p.kind=18 then Co (depth+1) (left - 1) p.spec.body else (true,left - 1)).1=false then (false,(if p.kind=18 then Co (depth+1) (left - 1) p.spec.body else (true,left - 1)).2)
 else if (Di (if p.kind=11 then depth+2 else if p.kind=18 then depth else depth+1) (if p.kind=18 then Co (depth+1) (left - 1) p.spec.body else (true,left - 1)).2 (pl && decide (p.kind=18)) p.l).1=false
  then (false,(Di (if p.kind=11 then depth+2 else if p.kind=18 then depth else depth+1) (if p.kind=18 then Co (depth+1) (left - 1) p.spec.body else (true,left - 1)).2 (pl && decide (p.kind=18)) p.l).2)
  else Gh (depth+2) (Di (if p.kind=11 then depth+2 else if p.kind=18 then depth else depth+1) (if p.kind=18 then Co (depth+1) (left - 1) p.spec.body else (true,left - 1)).2 (pl && decide (p.kind=18)) p.l).2 p.guards:=by
 obtain⟨_,_,_,_,_,_,_,_,_,⟨⟩⟩:=p;rw[Dh];rfl
theorem Oa (p:Pr)(depth left:Int)(pl:Bool)(h0:0<=left)(h1:left<=2048)(h:(Dh depth left pl p).1=true):0<=(Dh depth left pl p).2/\(Dh depth left pl p).2<=left:=by
 have:=jh0 p depth left pl h0 h1;unfold agree at this;have h2:=this.1.1 h;have h3:=this.2 h2;omega
theorem Ov (p:Pr)(h:Gq p=true):∀ g∈p.guards,g.body.length=1:=by
 rw[Iy,Aa]at h;exact js0 p h.1
end Lx
theorem Lx.Mk (d l:Int)(L:List Pr)(h:0<L.length):Lx.Co d l L=Lx.Dh d l false L[0]:=by
 cases L with
 |nil=>simp at h
 |cons a t=>rw[Lx.Co];rfl
theorem Lx.Ou (d l:Int)(L:List Pr)(h:¬0<L.length):Lx.Co d l L=(true,l):=by
 cases L with
 |nil=>rw[Lx.Co]
 |cons a t=>simp at h
theorem Lx.Rk (L:List Pr)(depth left:Int)(h0:0<=left)(h1:left<=2048)(h:(Lx.Co depth left L).1=true):0<=(Lx.Co depth left L).2/\(Lx.Co depth left L).2<=left:=by
 have:=Lx.Lm L depth left h0 h1;unfold Lx.agree at this;have h2:=this.1.1 h;have h3:=this.2 h2;omega
theorem Lx.Sq (L:List Pr)(depth left:Int)(pl:Bool)(h0:0<=left)(h1:left<=2048)(h:(Lx.Di depth left pl L).1=true):0<=(Lx.Di depth left pl L).2/\(Lx.Di depth left pl L).2<=left:=by
 have:=Lx.Mj L depth left pl h0 h1;unfold Lx.agree at this;have h2:=this.1.1 h;have h3:=this.2 h2;omega
def dG2 (g:Gu):D:=.agg [.int .u8 g.kind,.str g.name,
    .int .u8 g.cond.kind,.int .u8 g.cond.op,.int .u8 g.cond.ty,.int .i32 g.cond.n,.str g.cond.s,.list 6 (g.cond.l.map dEx),
    .int .u8 g.chan.kind,.int .u8 g.chan.op,.int .u8 g.chan.ty,.int .i32 g.chan.n,.str g.chan.s,.list 6 (g.chan.l.map dEx),
    .list 6 (g.targets.map dEx),.list 6 (g.values.map dEx),
    .int .u8 g.time.kind,.int .u8 g.time.op,.int .u8 g.time.ty,.int .i32 g.time.n,.str g.time.s,.list 6 (g.time.l.map dEx),
    .list 42 (g.body.map dP)]
theorem Us:dG=dG2:=by
 funext g;unfold dG dG2;rw[j9]
def Lr (p:Pr):List D:=[.int .u8 p.kind,.str p.name,
    .int .u8 p.chan.kind,.int .u8 p.chan.op,.int .u8 p.chan.ty,.int .i32 p.chan.n,.str p.chan.s,.list 6 (p.chan.l.map dEx),
    .list 6 (p.targets.map dEx),.list 6 (p.exprs.map dEx),
    .str p.rep.name,.int .u8 p.rep.base.kind,.int .u8 p.rep.base.op,.int .u8 p.rep.base.ty,.int .i32 p.rep.base.n,.str p.rep.base.s,.list 6 (p.rep.base.l.map dEx),
    .int .u8 p.rep.count.kind,.int .u8 p.rep.count.op,.int .u8 p.rep.count.ty,.int .i32 p.rep.count.n,.str p.rep.count.s,.list 6 (p.rep.count.l.map dEx),
    .list 23 (p.guards.map dG2),.list 42 (p.l.map dP),.list 1 (p.procs.map (.int .i64)),
    .int .u8 p.spec.kind,.int .u8 p.spec.type.kind,.int .i64 p.spec.type.dim,.int .u8 p.spec.type.item,.str p.spec.type.proto,.list 1 (p.spec.names.map .str),
    .int .u8 p.spec.e.kind,.int .u8 p.spec.e.op,.int .u8 p.spec.e.ty,.int .i32 p.spec.e.n,.str p.spec.e.s,.list 6 (p.spec.e.l.map dEx),
    .bool p.spec.proto.cases,.list 2 (p.spec.proto.l.map dVa),.list 6 (p.spec.formals.map dFo),.list 42 (p.spec.body.map dP)]
theorem Rm (p:Pr):jy4 p=Lr p:=by unfold jy4 Lr;simp only[j9,jd7,Us]
attribute [local irreducible] TR TC
theorem Vl (p:Pr)(depth left:Int)(pl:Bool)(h0:0<=left)(h1:left<=2048)(hd0:0<=depth)(hd1:depth<=34)
 (ih:∀ x:Pr,SizeOf.sizeOf x<SizeOf.sizeOf p->∀ (d l:Int) (q:Bool),0<=l->l<=2048->0<=d->d<=34->FnE prog (glS mm) 45 [.ptr 5 0,.d (dPr x),.d (.int .i64 d),.d (.bool q)] [(5,.box [.d (.int .i64 l)])]
   (fun v H1=>v=.d (.bool (Lx.Dh d l q x).1)/\H1=[(5,.box [.d (.int .i64 (Lx.Dh d l q x).2)])])):
 FnE prog (glS mm) 45 [.ptr 5 0,.d (dPr p),.d (.int .i64 depth),.d (.bool pl)] [(5,.box [.d (.int .i64 left)])]
  (fun v H1=>v=.d (.bool (Lx.Dh depth left pl p).1)/\H1=[(5,.box [.d (.int .i64 (Lx.Dh depth left pl p).2)])]):=by
 have q1:=mt5 (mm:=mm) p;have heq:=Lx.Qr depth left pl p;have hpg:=Lx.Ov p;generalize Lx.Dh depth left pl p=res at heq ⊢;rw[j9]at q1 ⊢;simp only[j9]at ih
 (refine j2 func45 ntmps45 results45 fun w M E b0=>?_)
 refine Cb fun K0 k0=>?_
 (refine v8 (id:=0) ?_;(repeat' first|refine Ca 5 ?_;(refine Cq 1005 ?_)|refine yyp ?_;try refine Ce ?_ ?_<;>intro hb|refine at_nil ?_;refine Cc Gx ?_))
 refine k0 _ ?_;refine jw5 (t:=5) (env':=[(8,.d (.bool false)),(0,.ptr 5 0),(2,.d (.int .i64 depth)),(3,.d (.bool pl))]) (H':=[(5,.box [.d (.int .i64 left)])]) rfl rfl (by repeat (first|exact .nil|apply Frz.cons (.d _))) rfl (by(repeat (first|exact Sub.nil|apply Sub.cons rfl));fail_if_success intros) (by(repeat (first|exact Sub.nil|apply Sub.cons rfl));fail_if_success intros) rfl rfl ?_;refine Cb fun K1 k1=>?_
 (refine v8 (id:=1) ?_;(repeat' first|refine yyp ?_;try refine Ce ?_ ?_<;>intro hb|refine yy ?_|refine at_nil ?_;refine Cc Gx ?_))
 refine k1 _ ?_;refine jj2 (ι:=Unit) (fun _=>⟨[(5,.d (.ref (jy4 p) 0)),(8,.d (.bool false)),(0,.ptr 5 0),(2,.d (.int .i64 depth)),(3,.d (.bool pl))],[(5,.box [.d (.int .i64 (left - 1))])],glS mm⟩)
  (fun _=>¬(left - 1<0\/32<depth\/Lx.Gq p=false\/(p.kind=11/\pl=false))) ?_ ?_
 ·(repeat' first|refine Ca 26 ?_;(first|refine yyp ?_;try refine Ce ?_ ?_<;>intro hb|refine yy2 ?_ ?_<;>intro hcmp);all_goals try refine Nb true 26 43 Gx ?_|refine Ca 30 ?_;(first|refine yyp ?_;try refine Ce ?_ ?_<;>intro hb|refine yy2 ?_ ?_<;>intro hcmp);all_goals try refine Nb true 30 43 Gx ?_|refine Ca 35 ?_;(first|refine yyp ?_;try refine Ce ?_ ?_<;>intro hb|refine yy2 ?_ ?_<;>intro hcmp);all_goals try refine Nb true 35 43 Gx ?_|refine Ca 39 ?_;refine yyp ?_;try refine Ce ?_ ?_<;>intro hb|refine Ca 43 ?_;refine yyp ?_;try refine Ce ?_ ?_<;>intro hb|refine yyp ?_|refine yy ?_|refine yy2 ?_ ?_<;>intro hcmp|refine Ch 77 ?_;refine Ck (hc:=q1) ?_|refine at_nil ?_;refine Cc Gx ?_|refine Cb fun K hK=>?_|apply_assumption -exfalso -symm)
  all_goals clear ih q1
  all_goals first
   |(refine j1 ?_
     rw[Ad (by clear heq hpg;(repeat (rename (∀ S:Sd,TC _ _ _ S->_)=>hX;clear hX));simp_all)]at heq;subst heq;refine j4 ⟨?_,rfl⟩;rfl)
   |(refine⟨(),?_,k8⟩
     (repeat (rename (∀ S:Sd,TC _ _ _ S->_)=>hX;clear hX))
     clear heq hpg;simp_all
     try omega)
 rintro _ hok;rw[Ae hok]at heq;have hpg:=hpg (by cases h:Lx.Gq p with|true=>rfl|false=>exact absurd (.inr (.inr (.inl h))) hok);have hl0:0<=left - 1:=by omega
 have hd2:depth<=32:=by omega
 clear q1 hok;rw[Rm];obtain⟨below,hbelow⟩:∃ z,z=if p.kind=11 then depth+2 else if p.kind=18 then depth else depth+1:=⟨_,rfl⟩;obtain⟨b,hb'⟩:∃ z,z=if p.kind=18 then Lx.Co (depth+1) (left - 1) p.spec.body else (true,left - 1):=⟨_,rfl⟩;rw[<-hbelow,<-hb']at heq;refine Cb fun K4 k4=>?_
 (refine v8 (id:=4) ?_;(repeat' first|refine yyp ?_;try refine Ce ?_ ?_<;>intro hb|refine at_nil ?_;refine Cc Gx ?_))
 refine k4 _ ?_;refine jj2 (ι:=Unit) (fun _=>⟨[(9,.d (.int .i64 below)),(5,.d (.ref (Lr p) 0)),(8,.d (.bool false)),(0,.ptr 5 0),(2,.d (.int .i64 depth)),(3,.d (.bool pl))],[(5,.box [.d (.int .i64 b.2)])],glS mm⟩)
  (fun _=>¬(p.kind=18/\p.spec.proto.cases=true/\32<depth+2)/\b.1=true) ?_ ?_
 ·by_cases h11:p.kind=11
  ·rw[Ad h11]at hbelow;rw[Ae (by omega)]at hb';subst hbelow;subst hb'
   (repeat' first|refine Ca 48 ?_;refine yyp ?_;try refine Ce ?_ ?_<;>intro hb|refine yyp ?_|refine yy ?_|refine at_nil ?_;refine Cc Gx ?_|refine Cb fun K hK=>?_|apply_assumption -exfalso -symm)
   all_goals try clear ih
   all_goals try clear hih
   all_goals try simp only[Bq,Eu]at hb
   all_goals first
    |(exfalso
      (repeat (rename (∀ S:Sd,TC _ _ _ S->_)=>hX;clear hX))
      clear heq hpg;omega)
    |(refine⟨(),⟨?_,?_⟩,k8⟩
      ·(repeat (rename (∀ S:Sd,TC _ _ _ S->_)=>hX;clear hX))
       clear heq hpg;simp_all
       try omega
      ·first
        |rfl
        |assumption)
    |(refine j1 ?_
      rw[Ad (by clear heq hpg;(repeat (rename (∀ S:Sd,TC _ _ _ S->_)=>hX;clear hX));simp_all)]at heq;subst heq;refine j4 ⟨?_,rfl⟩;rfl)
    |(refine j1 ?_
      rw[Ae (by clear heq hpg;(repeat (rename (∀ S:Sd,TC _ _ _ S->_)=>hX;clear hX));simp_all),Ad (by assumption)]at heq;subst heq;refine j4 ⟨?_,rfl⟩;rfl)
  ·by_cases h18:p.kind=18
   ·rw[Ae h11,Ad h18]at hbelow;rw[Ad h18]at hb'
    replace hbelow:=hbelow.symm
    subst hbelow;by_cases hpos:0<p.spec.body.length
    ·have hih:=ih p.spec.body[0] (rt6 (Aw _)) (depth+1) (left - 1) false (by omega) (by omega) (by omega) (by omega);rw[Lx.Mk _ _ _ hpos]at hb';subst hb'
     (repeat' first|refine Ca 48 ?_;refine yyp ?_;try refine Ce ?_ ?_<;>intro hb|refine Ca 52 ?_;refine yyp ?_;try refine Ce ?_ ?_<;>intro hb|refine Ca 59 ?_;refine yyp ?_;try refine Ce ?_ ?_<;>intro hb|refine Ca 64 ?_;refine yyp ?_;try refine Ce ?_ ?_<;>intro hb|refine Ca 70 ?_;refine yyp ?_;try refine Ce ?_ ?_<;>intro hb|refine Ca 79 ?_;refine Cg (hc:=hih) ?_|refine Ca 82 ?_;refine yyp ?_;try refine Ce ?_ ?_<;>intro hb|refine yyp ?_|refine yy ?_|refine yy2 ?_ ?_<;>intro hcmp|refine at_nil ?_;refine Cc Gx ?_|refine Cb fun K hK=>?_|apply_assumption -exfalso -symm)
     all_goals try clear ih
     all_goals try clear hih
     all_goals try simp only[Bq,Eu]at hb
     all_goals first
      |(exfalso
        (repeat (rename (∀ S:Sd,TC _ _ _ S->_)=>hX;clear hX))
        clear heq hpg;omega)
      |(refine⟨(),⟨?_,?_⟩,k8⟩
        ·(repeat (rename (∀ S:Sd,TC _ _ _ S->_)=>hX;clear hX))
         clear heq hpg;simp_all
         try omega
        ·first
          |rfl
          |assumption)
      |(refine j1 ?_
        rw[Ad (by clear heq hpg;(repeat (rename (∀ S:Sd,TC _ _ _ S->_)=>hX;clear hX));simp_all)]at heq;subst heq;refine j4 ⟨?_,rfl⟩;rfl)
      |(refine j1 ?_
        rw[Ae (by clear heq hpg;(repeat (rename (∀ S:Sd,TC _ _ _ S->_)=>hX;clear hX));simp_all),Ad (by assumption)]at heq;subst heq;refine j4 ⟨?_,rfl⟩;rfl)
    ·rw[Lx.Ou _ _ _ hpos]at hb';subst hb'
     (repeat' first|refine Ca 48 ?_;refine yyp ?_;try refine Ce ?_ ?_<;>intro hb|refine Ca 52 ?_;refine yyp ?_;try refine Ce ?_ ?_<;>intro hb|refine Ca 59 ?_;refine yyp ?_;try refine Ce ?_ ?_<;>intro hb|refine Ca 64 ?_;refine yyp ?_;try refine Ce ?_ ?_<;>intro hb|refine Ca 70 ?_;refine yyp ?_;try refine Ce ?_ ?_<;>intro hb|refine Ca 82 ?_;refine yyp ?_;try refine Ce ?_ ?_<;>intro hb|refine yyp ?_|refine yy ?_|refine yy2 ?_ ?_<;>intro hcmp|refine at_nil ?_;refine Cc Gx ?_|refine Cb fun K hK=>?_|apply_assumption -exfalso -symm)
     all_goals try clear ih
     all_goals try clear hih
     all_goals try simp only[Bq,Eu]at hb
     all_goals first
      |(exfalso
        (repeat (rename (∀ S:Sd,TC _ _ _ S->_)=>hX;clear hX))
        clear heq hpg;omega)
      |(refine⟨(),⟨?_,?_⟩,k8⟩
        ·(repeat (rename (∀ S:Sd,TC _ _ _ S->_)=>hX;clear hX))
         clear heq hpg;simp_all
         try omega
        ·first
          |rfl
          |assumption)
      |(refine j1 ?_
        rw[Ad (by clear heq hpg;(repeat (rename (∀ S:Sd,TC _ _ _ S->_)=>hX;clear hX));simp_all)]at heq;subst heq;refine j4 ⟨?_,rfl⟩;rfl)
      |(refine j1 ?_
        rw[Ae (by clear heq hpg;(repeat (rename (∀ S:Sd,TC _ _ _ S->_)=>hX;clear hX));simp_all),Ad (by assumption)]at heq;subst heq;refine j4 ⟨?_,rfl⟩;rfl)
   ·rw[Ae h11,Ae h18]at hbelow;rw[Ae h18]at hb';subst hbelow;subst hb'
    (repeat' first|refine Ca 48 ?_;refine yyp ?_;try refine Ce ?_ ?_<;>intro hb|refine Ca 52 ?_;refine yyp ?_;try refine Ce ?_ ?_<;>intro hb|refine yyp ?_|refine yy ?_|refine at_nil ?_;refine Cc Gx ?_|refine Cb fun K hK=>?_|apply_assumption -exfalso -symm)
    all_goals try clear ih
    all_goals try clear hih
    all_goals try simp only[Bq,Eu]at hb
    all_goals first
     |(exfalso
       (repeat (rename (∀ S:Sd,TC _ _ _ S->_)=>hX;clear hX))
       clear heq hpg;omega)
     |(refine⟨(),⟨?_,?_⟩,k8⟩
       ·(repeat (rename (∀ S:Sd,TC _ _ _ S->_)=>hX;clear hX))
        clear heq hpg;simp_all
        try omega
       ·first
         |rfl
         |assumption)
     |(refine j1 ?_
       rw[Ad (by clear heq hpg;(repeat (rename (∀ S:Sd,TC _ _ _ S->_)=>hX;clear hX));simp_all)]at heq;subst heq;refine j4 ⟨?_,rfl⟩;rfl)
     |(refine j1 ?_
       rw[Ae (by clear heq hpg;(repeat (rename (∀ S:Sd,TC _ _ _ S->_)=>hX;clear hX));simp_all),Ad (by assumption)]at heq;subst heq;refine j4 ⟨?_,rfl⟩;rfl)
 rintro _ ⟨hn1,hb1⟩;rw[Ae hn1,Ae (by rw[hb1];simp)]at heq;have hbl:0<=b.2/\b.2<=2048:=by
  rw[hb']at hb1 ⊢;split
  ·rename_i h18;rw[Ad h18]at hb1;have:=Lx.Rk p.spec.body (depth+1) (left - 1) hl0 (by omega) hb1;omega
  ·exact⟨hl0,by dsimp only;omega⟩
 have hbelow2:0<=below/\below<=34:=by
  rw[hbelow];split
  ·omega
  ·split<;>omega
 clear hbelow hb' hn1;obtain⟨m,hm⟩:∃ z,z=Lx.Di below b.2 (pl && decide (p.kind=18)) p.l:=⟨_,rfl⟩;rw[<-hm]at heq;have hml:m.1=true->0<=m.2/\m.2<=2048:=fun h=>by
  rw[hm]at h ⊢;have:=Lx.Sq p.l below b.2 _ hbl.1 hbl.2 h;omega
 refine jj2 (ι:=Unit) (fun _=>⟨[(5,.d (.ref (Lr p) 0)),(0,.ptr 5 0),(2,.d (.int .i64 depth))],[(5,.box [.d (.int .i64 m.2)])],glS mm⟩)
  (fun _=>m.1=true) ?_ ?_
 ·obtain⟨q,hq⟩:∃ q,q=(pl && decide (p.kind=18)):=⟨_,rfl⟩;rw[<-hq]at hm;cases pl<;>by_cases h18:p.kind=18
  all_goals simp only[h18,decide_true,decide_false,Bw,Bo,Bi,Bj]at hq
  all_goals subst hq
  all_goals
   refine Cb fun K12 k12=>?_
   (refine v8 (id:=12) ?_;(repeat' first|refine yyp ?_;try refine Ce ?_ ?_<;>intro hb|refine at_nil ?_;refine Cc Gx ?_))
   refine k12 _ ?_;refine j8 84 rfl fun hn=>?_;simp only[Ab]at hn
   (repeat' first|refine yy ?_|refine Cb fun K hK=>?_|apply_assumption -exfalso -symm)
   refine j6 [8,11,86,87,88,89,90,91,92,93,94,95,96,97,98,99,100,101] [5] (fun x:Nat × Int=>[(86,.d (.int .i64 x.1))]) (fun x=>[(5,.box [.d (.int .i64 x.2)])]) (fun x=>x.1<=p.l.length/\0<=x.2/\x.2<=2048/\m=Lx.Di below x.2 _ (p.l.drop x.1)) (fun x=>p.l.length - x.1) (0,b.2) ⟨by omega,hbl.1,hbl.2,hm⟩ fun⟨k,z⟩ ⟨hk,hz0,hz1,hmk⟩=>?_;dsimp only[Ac,Af]at hk hz0 hz1 hmk ⊢;by_cases hk2:k<p.l.length
   ·rw[By hk2,Lx.Qc]at hmk;have hone:=fun q=>ih p.l[k] (rt4 (Aw _)) below z q hz0 hz1 hbelow2.1 hbelow2.2;have hlf:=fun q=>Lx.Oa p.l[k] below z q hz0 hz1
    (repeat' first|refine Ca 11 ?_;(refine j3 1011 ?_)|refine Ca 94 ?_;refine yyp ?_;try refine Ce ?_ ?_<;>intro hb|refine Ca 99 ?_;refine Cg (hc:=hone _) ?_|refine Ca 100 ?_;refine yyp ?_;try refine Ce ?_ ?_<;>intro hb|refine yyp ?_|refine yy ?_|refine at_nil ?_;refine Cc Gx ?_|refine Cb fun K hK=>?_|apply_assumption -exfalso -symm)
    ·simp only[Bq]at hb;rw[Ae (by rw[hb];simp)]at hmk;subst hmk;refine j1 ?_;rw[Ad hb]at heq;subst heq;refine j4 ⟨?_,rfl⟩;rfl
    ·simp only[Eu]at hb;rw[Ad hb]at hmk;have:=hlf _ hb;exact⟨(k+1,_),⟨hk2,this.1,Int.le_trans this.2 hz1,hmk⟩,by dsimp only;omega,k8⟩
   ·rw[Bz (by omega),Lx.Di]at hmk;subst hmk
    (repeat' first|refine yyp ?_|refine yy ?_|refine at_nil ?_;refine Cc Gx ?_|refine Cb fun K hK=>?_|apply_assumption -exfalso -symm)
    exact⟨(),rfl,k8⟩
 rintro _ hm1;have hmb:=hml hm1;rw[Ae (by rw[hm1];simp)]at heq;clear hml hm hbelow2 hbl hb1;refine jj2 (ι:=Unit) (fun _=>⟨[(5,.d (.ref (Lr p) 0)),(0,.ptr 5 0)],[(5,.box [.d (.int .i64 res.2)])],glS mm⟩)
  (fun _=>res.1=true) ?_ ?_
 ·refine Cb fun K18 k18=>?_
  (refine v8 (id:=18) ?_;(repeat' first|refine yyp ?_;try refine Ce ?_ ?_<;>intro hb|refine at_nil ?_;refine Cc Gx ?_))
  refine k18 _ ?_;refine j8 103 rfl fun hn=>?_;simp only[Ab]at hn
  (repeat' first|refine yy ?_|refine Cb fun K hK=>?_|apply_assumption -exfalso -symm)
  refine j6 [8,13,105,106,107,108,109,110,111,112,113,114,115,116,117,118] [5] (fun x:Nat × Int=>[(105,.d (.int .i64 x.1))]) (fun x=>[(5,.box [.d (.int .i64 x.2)])]) (fun x=>x.1<=p.guards.length/\0<=x.2/\x.2<=2048/\res=Lx.Gh (depth+2) x.2 (p.guards.drop x.1)) (fun x=>p.guards.length - x.1) (0,m.2) ⟨by omega,hmb.1,hmb.2,heq⟩ fun⟨k,z⟩ ⟨hk,hz0,hz1,hmk⟩=>?_;dsimp only[Ac,Af]at hk hz0 hz1 hmk ⊢;by_cases hk2:k<p.guards.length
  ·have hlen:=hpg p.guards[k] (Aw _);have hpos:0<p.guards[k].body.length:=by omega
   rw[By hk2,Lx.Pz,Lx.Mk _ _ _ hpos]at hmk;have hone:=ih p.guards[k].body[0] (rt5 (Aw _) (Aw _)) (depth+2) z false hz0 hz1 (by omega) (by omega);have hlf:=Lx.Oa p.guards[k].body[0] (depth+2) z false hz0 hz1
   (repeat' first|refine Ca 13 ?_;(refine j3 1013 ?_)|refine Ca 116 ?_;refine Cg (hc:=hone) ?_|refine Ca 117 ?_;refine yyp ?_;try refine Ce ?_ ?_<;>intro hb|refine yyp ?_|refine yy ?_|refine at_nil ?_;refine Cc Gx ?_|refine Cb fun K hK=>?_|apply_assumption -exfalso -symm)
   ·simp only[Bq]at hb;rw[Ae (by rw[hb];simp)]at hmk;subst hmk;refine j1 ?_;refine j4 ⟨?_,rfl⟩;rw[hb];rfl
   ·simp only[Eu]at hb;rw[Ad hb]at hmk;have:=hlf hb;exact⟨(k+1,_),⟨hk2,this.1,Int.le_trans this.2 hz1,hmk⟩,by dsimp only;omega,k8⟩
  ·rw[Bz (by omega),Lx.Gh]at hmk;subst hmk
   (repeat' first|refine yyp ?_|refine yy ?_|refine at_nil ?_;refine Cc Gx ?_|refine Cb fun K hK=>?_|apply_assumption -exfalso -symm)
   exact⟨(),rfl,k8⟩
 rintro _ hr1
 (repeat' first|refine yyp ?_|refine yy ?_|refine at_nil ?_;refine Cc Gx ?_|refine Cb fun K hK=>?_|apply_assumption -exfalso -symm)
 refine j1 ?_;refine j4 ⟨?_,rfl⟩;rw[hr1];rfl
end
section
namespace Lx
mutual
def kPr:Pr->Prop
 |.mk _ _ _ _ _ _ guards l _ (.mk _ _ _ _ _ _ sb)=>Sb guards/\Oi l/\Oi sb
def Oi:List Pr->Prop
 |[]=>True
 |p::l=>kPr p/\Oi l
def Sb:List Gu->Prop
 |[]=>True
 |.mk kind _ _ _ _ _ _ body::l=>0<=kind/\Oi body/\Sb l
end
end Lx
end
end Go.Proofs.YtklklgfpkpglgaaGreatDoor
