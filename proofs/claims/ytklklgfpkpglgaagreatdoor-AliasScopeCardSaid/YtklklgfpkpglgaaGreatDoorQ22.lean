/- Parts. -/
import Derived.Test.YtklklgfpkpglgaaGreatDoorQ21
set_option linter.all false
set_option maxRecDepth 100000
set_option maxHeartbeats 0
namespace Go.Proofs.YtklklgfpkpglgaaGreatDoor
open Go.RowKit Go.Proofs.Tryz Lx
section
def Ki:List Nat:=[0,1,2,3,5,8,9,11,13,43,47,48,52,82,84,85,86,87,100,103,104,105,106,117]
variable {mm:Int}
namespace Lx
theorem Vs (depth left:Int)(pl:Bool)(p:Pr)(l:List Pr):Dy depth left pl (p::l)=if (Du depth left pl p).1 then Dy depth (Du depth left pl p).2 pl l else Du depth left pl p:=by rw[Dy]
theorem Vm (depth left:Int)(g:Gu)(l:List Gu):He depth left (g::l)=if (Ct depth left g.body).1 then He depth (Ct depth left g.body).2 l else Ct depth left g.body:=by
 cases g;rw[He];rfl
theorem Wm (depth left:Int)(pl:Bool)(p:Pr):Du depth left pl p=
 if left - 1<0\/32<depth\/Gy p=false\/(p.kind=11/\pl=false) then (false,left - 1)
 else if p.kind=18/\p.spec.aN.cases=true/\32<depth+2 then (false,left - 1)
 else if (if p.kind=18 then Ct (depth+1) (left - 1) p.spec.body else (true,left - 1)).1=false then (false,(if p.kind=18 then Ct (depth+1) (left - 1) p.spec.body else (true,left - 1)).2)
 else if (Dy (if p.kind=11 then depth+2 else if p.kind=18 then depth else depth+1) (if p.kind=18 then Ct (depth+1) (left - 1) p.spec.body else (true,left - 1)).2 (pl && decide (p.kind=18)) p.l).1=false
  then (false,(Dy (if p.kind=11 then depth+2 else if p.kind=18 then depth else depth+1) (if p.kind=18 then Ct (depth+1) (left - 1) p.spec.body else (true,left - 1)).2 (pl && decide (p.kind=18)) p.l).2)
  else He (depth+2) (Dy (if p.kind=11 then depth+2 else if p.kind=18 then depth else depth+1) (if p.kind=18 then Ct (depth+1) (left - 1) p.spec.body else (true,left - 1)).2 (pl && decide (p.kind=18)) p.l).2 p.ak:=by
 obtain⟨_,_,_,_,_,_,_,_,_,⟨⟩⟩:=p;rw[Du];rfl
theorem Ub (p:Pr)(depth left:Int)(pl:Bool)(h0:0<=left)(h1:left<=2048)(h:(Du depth left pl p).1=true):0<=(Du depth left pl p).2/\(Du depth left pl p).2<=left:=by
 have:=Ky p depth left pl h0 h1;unfold agree at this;have h2:=this.1.1 h;have h3:=this.2 h2;omega
theorem Uu (p:Pr)(h:Gy p=true):∀ g∈p.ak,g.body.length=1:=by
 rw[Je,Aa]at h;exact Oz p h.1
end Lx
theorem Lx.Sy (d l:Int)(L:List Pr)(h:0<L.length):Ct d l L=Du d l false L[0]:=by
 cases L with
 |nil=>simp at h
 |cons a t=>rw[Ct];rfl
theorem Lx.Un (d l:Int)(L:List Pr)(h:¬0<L.length):Ct d l L=(true,l):=by
 cases L with
 |nil=>rw[Ct]
 |cons a t=>simp at h
theorem Lx.Xo (L:List Pr)(depth left:Int)(h0:0<=left)(h1:left<=2048)(h:(Ct depth left L).1=true):0<=(Ct depth left L).2/\(Ct depth left L).2<=left:=by
 have:=Nq L depth left h0 h1;unfold Lx.agree at this;have h2:=this.1.1 h;have h3:=this.2 h2;omega
theorem Lx.Yd (L:List Pr)(depth left:Int)(pl:Bool)(h0:0<=left)(h1:left<=2048)(h:(Dy depth left pl L).1=true):0<=(Dy depth left pl L).2/\(Dy depth left pl L).2<=left:=by
 have:=Og L depth left pl h0 h1;unfold Lx.agree at this;have h2:=this.1.1 h;have h3:=this.2 h2;omega
def dG2 (g:Gu):D:=.agg [.int .u8 g.kind,.str g.name,
    .int .u8 g.cond.kind,.int .u8 g.cond.op,.int .u8 g.cond.ty,.int .i32 g.cond.n,.str g.cond.s,.list 6 (g.cond.l.map dEx),
    .int .u8 g.av.kind,.int .u8 g.av.op,.int .u8 g.av.ty,.int .i32 g.av.n,.str g.av.s,.list 6 (g.av.l.map dEx),
    .list 6 (g.aj.map dEx),.list 6 (g.values.map dEx),
    .int .u8 g.time.kind,.int .u8 g.time.op,.int .u8 g.time.ty,.int .i32 g.time.n,.str g.time.s,.list 6 (g.time.l.map dEx),
    .list 42 (g.body.map dP)]
theorem vh2:dG=dG2:=by
 funext g;unfold dG dG2;rw[v7]
def jm9 (p:Pr):List D:=[.int .u8 p.kind,.str p.name,
    .int .u8 p.av.kind,.int .u8 p.av.op,.int .u8 p.av.ty,.int .i32 p.av.n,.str p.av.s,.list 6 (p.av.l.map dEx),
    .list 6 (p.aj.map dEx),.list 6 (p.au.map dEx),
    .str p.rep.name,.int .u8 p.rep.base.kind,.int .u8 p.rep.base.op,.int .u8 p.rep.base.ty,.int .i32 p.rep.base.n,.str p.rep.base.s,.list 6 (p.rep.base.l.map dEx),
    .int .u8 p.rep.count.kind,.int .u8 p.rep.count.op,.int .u8 p.rep.count.ty,.int .i32 p.rep.count.n,.str p.rep.count.s,.list 6 (p.rep.count.l.map dEx),
    .list 23 (p.ak.map dG2),.list 42 (p.l.map dP),.list 1 (p.ay.map (.int .i64)),
    .int .u8 p.spec.kind,.int .u8 p.spec.type.kind,.int .i64 p.spec.type.dim,.int .u8 p.spec.type.item,.str p.spec.type.aN,.list 1 (p.spec.names.map .str),
    .int .u8 p.spec.e.kind,.int .u8 p.spec.e.op,.int .u8 p.spec.e.ty,.int .i32 p.spec.e.n,.str p.spec.e.s,.list 6 (p.spec.e.l.map dEx),
    .bool p.spec.aN.cases,.list 2 (p.spec.aN.l.map dVa),.list 6 (p.spec.ax.map dFo),.list 42 (p.spec.body.map dP)]
theorem mf0 (p:Pr):kd1 p=jm9 p:=by unfold kd1 jm9;simp only[v7,jb7,vh2]
attribute [local irreducible] TR TC
theorem rv1 (p:Pr)(depth left:Int)(pl:Bool)(h0:0<=left)(h1:left<=2048)(hd0:0<=depth)(hd1:depth<=34)
 (ih:∀ x:Pr,SizeOf.sizeOf x<SizeOf.sizeOf p->∀ (d l:Int) (q:Bool),0<=l->l<=2048->0<=d->d<=34->FnE prog (glS mm) 45 [.ptr 5 0,.d (dPr x),.d (.int .i64 d),.d (.bool q)] [(5,.box [.d (.int .i64 l)])]
   (λv H1=>v=.d (.bool (Du d l q x).1)/\H1=[(5,.box [.d (.int .i64 (Du d l q x).2)])])):
 FnE prog (glS mm) 45 [.ptr 5 0,.d (dPr p),.d (.int .i64 depth),.d (.bool pl)] [(5,.box [.d (.int .i64 left)])]
  (λv H1=>v=.d (.bool (Du depth left pl p).1)/\H1=[(5,.box [.d (.int .i64 (Du depth left pl p).2)])]):=by
 have q1:=rd4 (mm:=mm) p;have heq:=Wm depth left pl p;have hpg:=Uu p;generalize Du depth left pl p=res at heq ⊢;rw[v7]at q1 ⊢;simp only[v7]at ih
 (refine j3 func45 ntmps45 results45 λw M E b0=>?_)
 refine Cb λK0 k0=>?_
 (refine y6 (id:=0) ?_;(repeat' first|apply Ca 5;(refine Ck 1005 ?_)|refine yyp ?_;try refine Ce ?_ ?_<;>intro hb|apply ah;refine Cc Ki ?_))
 refine k0 _ ?_;refine jo2 (t:=5) (env':=[(8,.d (.bool false)),(0,.ptr 5 0),(2,.d (.int .i64 depth)),(3,.d (.bool pl))]) (H':=[(5,.box [.d (.int .i64 left)])]) rfl rfl (by repeat (first|exact .nil|apply Frz.cons (.d _))) rfl (by(repeat (first|exact Sub.nil|apply Sub.cons rfl));fail_if_success intros) (by(repeat (first|exact Sub.nil|apply Sub.cons rfl));fail_if_success intros) rfl rfl ?_;refine Cb λK1 k1=>?_
 (refine y6 (id:=1) ?_;(repeat' first|refine yyp ?_;try refine Ce ?_ ?_<;>intro hb|refine yy ?_|apply ah;refine Cc Ki ?_))
 refine k1 _ ?_;refine z7 (ι:=Unit) (λ_=>⟨[(5,.d (.ref (kd1 p) 0)),(8,.d (.bool false)),(0,.ptr 5 0),(2,.d (.int .i64 depth)),(3,.d (.bool pl))],[(5,.box [.d (.int .i64 (left - 1))])],glS mm⟩)
  (λ_=>¬(left - 1<0\/32<depth\/Gy p=false\/(p.kind=11/\pl=false))) ?_ ?_
 ·(repeat' first|refine zas [26,30,35] ?_;(first|refine yyp ?_;try refine Ce ?_ ?_<;>intro hb|refine yy2 ?_ ?_<;>intro hcmp);all_goals try (first|refine Dj true 26 43 Ki ?_|refine Dj true 30 43 Ki ?_|refine Dj true 35 43 Ki ?_)|apply Ca 39;refine yyp ?_;try refine Ce ?_ ?_<;>intro hb|apply Ca 43;refine yyp ?_;try refine Ce ?_ ?_<;>intro hb|refine yyp ?_|refine yy ?_|refine yy2 ?_ ?_<;>intro hcmp|apply Cf 77;refine Ci (hc:=q1) ?_|apply ah;refine Cc Ki ?_|refine Cb λK hK=>?_|apply_assumption -exfalso -symm)
  all_goals clear ih q1
  all_goals first
   |(refine j1 ?_
     rw[Ad (by clear heq hpg;(repeat (rename (∀ S,TC _ _ _ S->_)=>hX;clear hX));simp_all)]at heq;subst heq;refine j8 ⟨?_,rfl⟩;rfl)
   |(refine⟨(),?_,v6⟩
     (repeat (rename (∀ S,TC _ _ _ S->_)=>hX;clear hX))
     clear heq hpg;simp_all
     try omega)
 rintro _ hok;rw[Af hok]at heq;have hpg:=hpg (by cases h:Gy p with|true=>rfl|false=>exact absurd (.inr (.inr (.inl h))) hok);have hl0:0<=left - 1:=by omega
 have hd2:depth<=32:=by omega
 clear q1 hok;rw[mf0];obtain⟨below,hbelow⟩:∃ z,z=if p.kind=11 then depth+2 else if p.kind=18 then depth else depth+1:=⟨_,rfl⟩;obtain⟨b,hb'⟩:∃ z,z=if p.kind=18 then Ct (depth+1) (left - 1) p.spec.body else (true,left - 1):=⟨_,rfl⟩;rw[<-hbelow,<-hb']at heq;refine Cb λK4 k4=>?_
 (refine y6 (id:=4) ?_;(repeat' first|refine yyp ?_;try refine Ce ?_ ?_<;>intro hb|apply ah;refine Cc Ki ?_))
 refine k4 _ ?_;refine z7 (ι:=Unit) (λ_=>⟨[(9,.d (.int .i64 below)),(5,.d (.ref (jm9 p) 0)),(8,.d (.bool false)),(0,.ptr 5 0),(2,.d (.int .i64 depth)),(3,.d (.bool pl))],[(5,.box [.d (.int .i64 b.2)])],glS mm⟩)
  (λ_=>¬(p.kind=18/\p.spec.aN.cases=true/\32<depth+2)/\b.1=true) ?_ ?_
 ·by_cases h11:p.kind=11
  ·rw[Ad h11]at hbelow;rw[Af (by omega)]at hb';subst hbelow;subst hb'
   (repeat' first|apply Ca 48;refine yyp ?_;try refine Ce ?_ ?_<;>intro hb|refine yyp ?_|refine yy ?_|apply ah;refine Cc Ki ?_|refine Cb λK hK=>?_|apply_assumption -exfalso -symm)
   all_goals try clear ih
   all_goals try clear hih
   all_goals try simp only[Bz,Bool.not_eq_false']at hb
   all_goals first
    |(exfalso
      (repeat (rename (∀ S,TC _ _ _ S->_)=>hX;clear hX))
      clear heq hpg;omega)
    |(refine⟨(),⟨?_,?_⟩,v6⟩
      ·(repeat (rename (∀ S,TC _ _ _ S->_)=>hX;clear hX))
       clear heq hpg;simp_all
       try omega
      ·first
        |rfl
        |assumption)
    |(refine j1 ?_
      rw[Ad (by clear heq hpg;(repeat (rename (∀ S,TC _ _ _ S->_)=>hX;clear hX));simp_all)]at heq;subst heq;refine j8 ⟨?_,rfl⟩;rfl)
    |(refine j1 ?_
      rw[Af (by clear heq hpg;(repeat (rename (∀ S,TC _ _ _ S->_)=>hX;clear hX));simp_all),Ad (by assumption)]at heq;subst heq;refine j8 ⟨?_,rfl⟩;rfl)
  ·by_cases h18:p.kind=18
   ·rw[Af h11,Ad h18]at hbelow;rw[Ad h18]at hb'
    replace hbelow:=hbelow.symm
    subst hbelow;by_cases hpos:0<p.spec.body.length
    ·have hih:=ih p.spec.body[0] (ru6 (Ao _)) (depth+1) (left - 1) false (by omega) (by omega) (by omega) (by omega);rw[Sy _ _ _ hpos]at hb';subst hb'
     (repeat' first|apply Ca 48;refine yyp ?_;try refine Ce ?_ ?_<;>intro hb|apply Ca 52;refine yyp ?_;try refine Ce ?_ ?_<;>intro hb|apply Ca 59;refine yyp ?_;try refine Ce ?_ ?_<;>intro hb|apply Ca 64;refine yyp ?_;try refine Ce ?_ ?_<;>intro hb|apply Ca 70;refine yyp ?_;try refine Ce ?_ ?_<;>intro hb|apply Ca 79;refine Ch (hc:=hih) ?_|apply Ca 82;refine yyp ?_;try refine Ce ?_ ?_<;>intro hb|refine yyp ?_|refine yy ?_|refine yy2 ?_ ?_<;>intro hcmp|apply ah;refine Cc Ki ?_|refine Cb λK hK=>?_|apply_assumption -exfalso -symm)
     all_goals try clear ih
     all_goals try clear hih
     all_goals try simp only[Bz,Bool.not_eq_false']at hb
     all_goals first
      |(exfalso
        (repeat (rename (∀ S,TC _ _ _ S->_)=>hX;clear hX))
        clear heq hpg;omega)
      |(refine⟨(),⟨?_,?_⟩,v6⟩
        ·(repeat (rename (∀ S,TC _ _ _ S->_)=>hX;clear hX))
         clear heq hpg;simp_all
         try omega
        ·first
          |rfl
          |assumption)
      |(refine j1 ?_
        rw[Ad (by clear heq hpg;(repeat (rename (∀ S,TC _ _ _ S->_)=>hX;clear hX));simp_all)]at heq;subst heq;refine j8 ⟨?_,rfl⟩;rfl)
      |(refine j1 ?_
        rw[Af (by clear heq hpg;(repeat (rename (∀ S,TC _ _ _ S->_)=>hX;clear hX));simp_all),Ad (by assumption)]at heq;subst heq;refine j8 ⟨?_,rfl⟩;rfl)
    ·rw[Un _ _ _ hpos]at hb';subst hb'
     (repeat' first|apply Ca 48;refine yyp ?_;try refine Ce ?_ ?_<;>intro hb|apply Ca 52;refine yyp ?_;try refine Ce ?_ ?_<;>intro hb|apply Ca 59;refine yyp ?_;try refine Ce ?_ ?_<;>intro hb|apply Ca 64;refine yyp ?_;try refine Ce ?_ ?_<;>intro hb|apply Ca 70;refine yyp ?_;try refine Ce ?_ ?_<;>intro hb|apply Ca 82;refine yyp ?_;try refine Ce ?_ ?_<;>intro hb|refine yyp ?_|refine yy ?_|refine yy2 ?_ ?_<;>intro hcmp|apply ah;refine Cc Ki ?_|refine Cb λK hK=>?_|apply_assumption -exfalso -symm)
     all_goals try clear ih
     all_goals try clear hih
     all_goals try simp only[Bz,Bool.not_eq_false']at hb
     all_goals first
      |(exfalso
        (repeat (rename (∀ S,TC _ _ _ S->_)=>hX;clear hX))
        clear heq hpg;omega)
      |(refine⟨(),⟨?_,?_⟩,v6⟩
        ·(repeat (rename (∀ S,TC _ _ _ S->_)=>hX;clear hX))
         clear heq hpg;simp_all
         try omega
        ·first
          |rfl
          |assumption)
      |(refine j1 ?_
        rw[Ad (by clear heq hpg;(repeat (rename (∀ S,TC _ _ _ S->_)=>hX;clear hX));simp_all)]at heq;subst heq;refine j8 ⟨?_,rfl⟩;rfl)
      |(refine j1 ?_
        rw[Af (by clear heq hpg;(repeat (rename (∀ S,TC _ _ _ S->_)=>hX;clear hX));simp_all),Ad (by assumption)]at heq;subst heq;refine j8 ⟨?_,rfl⟩;rfl)
   ·rw[Af h11,Af h18]at hbelow;rw[Af h18]at hb';subst hbelow;subst hb'
    (repeat' first|apply Ca 48;refine yyp ?_;try refine Ce ?_ ?_<;>intro hb|apply Ca 52;refine yyp ?_;try refine Ce ?_ ?_<;>intro hb|refine yyp ?_|refine yy ?_|apply ah;refine Cc Ki ?_|refine Cb λK hK=>?_|apply_assumption -exfalso -symm)
    all_goals try clear ih
    all_goals try clear hih
    all_goals try simp only[Bz,Bool.not_eq_false']at hb
    all_goals first
     |(exfalso
       (repeat (rename (∀ S,TC _ _ _ S->_)=>hX;clear hX))
       clear heq hpg;omega)
     |(refine⟨(),⟨?_,?_⟩,v6⟩
       ·(repeat (rename (∀ S,TC _ _ _ S->_)=>hX;clear hX))
        clear heq hpg;simp_all
        try omega
       ·first
         |rfl
         |assumption)
     |(refine j1 ?_
       rw[Ad (by clear heq hpg;(repeat (rename (∀ S,TC _ _ _ S->_)=>hX;clear hX));simp_all)]at heq;subst heq;refine j8 ⟨?_,rfl⟩;rfl)
     |(refine j1 ?_
       rw[Af (by clear heq hpg;(repeat (rename (∀ S,TC _ _ _ S->_)=>hX;clear hX));simp_all),Ad (by assumption)]at heq;subst heq;refine j8 ⟨?_,rfl⟩;rfl)
 rintro _ ⟨hn1,hb1⟩;rw[Af hn1,Af (by rw[hb1];simp)]at heq;have hbl:0<=b.2/\b.2<=2048:=by
  rw[hb']at hb1 ⊢;split
  ·rename_i h18;rw[Ad h18]at hb1;have:=Xo p.spec.body (depth+1) (left - 1) hl0 (by omega) hb1;omega
  ·exact⟨hl0,by dsimp only;omega⟩
 have hbelow2:0<=below/\below<=34:=by
  rw[hbelow];split
  ·omega
  ·split<;>omega
 clear hbelow hb' hn1;obtain⟨m,hm⟩:∃ z,z=Dy below b.2 (pl && decide (p.kind=18)) p.l:=⟨_,rfl⟩;rw[<-hm]at heq;have hml:m.1=true->0<=m.2/\m.2<=2048:=λh=>by
  rw[hm]at h ⊢;have:=Yd p.l below b.2 _ hbl.1 hbl.2 h;omega
 refine z7 (ι:=Unit) (λ_=>⟨[(5,.d (.ref (jm9 p) 0)),(0,.ptr 5 0),(2,.d (.int .i64 depth))],[(5,.box [.d (.int .i64 m.2)])],glS mm⟩)
  (λ_=>m.1=true) ?_ ?_
 ·obtain⟨q,hq⟩:∃ q,q=(pl && decide (p.kind=18)):=⟨_,rfl⟩;rw[<-hq]at hm;cases pl<;>by_cases h18:p.kind=18
  all_goals simp only[h18,decide_true,decide_false,Bu,Be,Bf,As]at hq
  all_goals subst hq
  all_goals
   refine Cb λK12 k12=>?_
   (refine y6 (id:=12) ?_;(repeat' first|refine yyp ?_;try refine Ce ?_ ?_<;>intro hb|apply ah;refine Cc Ki ?_))
   refine k12 _ ?_;refine k7 84 rfl λhn=>?_;simp only[Ab]at hn
   (repeat' first|refine yy ?_|refine Cb λK hK=>?_|apply_assumption -exfalso -symm)
   refine k9 [8,11,86,87,88,89,90,91,92,93,94,95,96,97,98,99,100,101] [5] (λx:Nat × Int=>[(86,.d (.int .i64 x.1))]) (λx=>[(5,.box [.d (.int .i64 x.2)])]) (λx=>x.1<=p.l.length/\0<=x.2/\x.2<=2048/\m=Dy below x.2 _ (p.l.drop x.1)) (λx=>p.l.length - x.1) (0,b.2) ⟨by omega,hbl.1,hbl.2,hm⟩ λ⟨k,z⟩ ⟨hk,hz0,hz1,hmk⟩=>?_;dsimp only[Ac,Ae]at hk hz0 hz1 hmk ⊢;by_cases hk2:k<p.l.length
   ·rw[Bk hk2,Vs]at hmk;have hone:=λq=>ih p.l[k] (ru4 (Ao _)) below z q hz0 hz1 hbelow2.1 hbelow2.2;have hlf:=λq=>Ub p.l[k] below z q hz0 hz1
    (repeat' first|apply Ca 11;(refine j2 1011 ?_)|apply Ca 94;refine yyp ?_;try refine Ce ?_ ?_<;>intro hb|apply Ca 99;refine Ch (hc:=hone _) ?_|apply Ca 100;refine yyp ?_;try refine Ce ?_ ?_<;>intro hb|refine yyp ?_|refine yy ?_|apply ah;refine Cc Ki ?_|refine Cb λK hK=>?_|apply_assumption -exfalso -symm)
    ·simp only[Bz]at hb;rw[Af (by rw[hb];simp)]at hmk;subst hmk;refine j1 ?_;rw[Ad hb]at heq;subst heq;refine j8 ⟨?_,rfl⟩;rfl
    ·simp only[Bool.not_eq_false']at hb;rw[Ad hb]at hmk;have:=hlf _ hb;exact⟨(k+1,_),⟨hk2,this.1,Int.le_trans this.2 hz1,hmk⟩,by dsimp only;omega,v6⟩
   ·rw[Bq (by omega),Dy]at hmk;subst hmk
    (repeat' first|refine yyp ?_|refine yy ?_|apply ah;refine Cc Ki ?_|refine Cb λK hK=>?_|apply_assumption -exfalso -symm)
    exact⟨(),rfl,v6⟩
 rintro _ hm1;have hmb:=hml hm1;rw[Af (by rw[hm1];simp)]at heq;clear hml hm hbelow2 hbl hb1;refine z7 (ι:=Unit) (λ_=>⟨[(5,.d (.ref (jm9 p) 0)),(0,.ptr 5 0)],[(5,.box [.d (.int .i64 res.2)])],glS mm⟩)
  (λ_=>res.1=true) ?_ ?_
 ·refine Cb λK18 k18=>?_
  (refine y6 (id:=18) ?_;(repeat' first|refine yyp ?_;try refine Ce ?_ ?_<;>intro hb|apply ah;refine Cc Ki ?_))
  refine k18 _ ?_;refine k7 103 rfl λhn=>?_;simp only[Ab]at hn
  (repeat' first|refine yy ?_|refine Cb λK hK=>?_|apply_assumption -exfalso -symm)
  refine k9 [8,13,105,106,107,108,109,110,111,112,113,114,115,116,117,118] [5] (λx:Nat × Int=>[(105,.d (.int .i64 x.1))]) (λx=>[(5,.box [.d (.int .i64 x.2)])]) (λx=>x.1<=p.ak.length/\0<=x.2/\x.2<=2048/\res=He (depth+2) x.2 (p.ak.drop x.1)) (λx=>p.ak.length - x.1) (0,m.2) ⟨by omega,hmb.1,hmb.2,heq⟩ λ⟨k,z⟩ ⟨hk,hz0,hz1,hmk⟩=>?_;dsimp only[Ac,Ae]at hk hz0 hz1 hmk ⊢;by_cases hk2:k<p.ak.length
  ·have hlen:=hpg p.ak[k] (Ao _);have hpos:0<p.ak[k].body.length:=by omega
   rw[Bk hk2,Vm,Sy _ _ _ hpos]at hmk;have hone:=ih p.ak[k].body[0] (ru5 (Ao _) (Ao _)) (depth+2) z false hz0 hz1 (by omega) (by omega);have hlf:=Ub p.ak[k].body[0] (depth+2) z false hz0 hz1
   (repeat' first|apply Ca 13;(refine j2 1013 ?_)|apply Ca 116;refine Ch (hc:=hone) ?_|apply Ca 117;refine yyp ?_;try refine Ce ?_ ?_<;>intro hb|refine yyp ?_|refine yy ?_|apply ah;refine Cc Ki ?_|refine Cb λK hK=>?_|apply_assumption -exfalso -symm)
   ·simp only[Bz]at hb;rw[Af (by rw[hb];simp)]at hmk;subst hmk;refine j1 ?_;refine j8 ⟨?_,rfl⟩;rw[hb];rfl
   ·simp only[Bool.not_eq_false']at hb;rw[Ad hb]at hmk;have:=hlf hb;exact⟨(k+1,_),⟨hk2,this.1,Int.le_trans this.2 hz1,hmk⟩,by dsimp only;omega,v6⟩
  ·rw[Bq (by omega),He]at hmk;subst hmk
   (repeat' first|refine yyp ?_|refine yy ?_|apply ah;refine Cc Ki ?_|refine Cb λK hK=>?_|apply_assumption -exfalso -symm)
   exact⟨(),rfl,v6⟩
 rintro _ hr1
 (repeat' first|refine yyp ?_|refine yy ?_|apply ah;refine Cc Ki ?_|refine Cb λK hK=>?_|apply_assumption -exfalso -symm)
 refine j1 ?_;refine j8 ⟨?_,rfl⟩;rw[hr1];rfl
end
section
namespace Lx
mutual
def kPr:Pr->Prop
 |.mk _ _ _ _ _ _ ak l _ (.mk _ _ _ _ _ _ sb)=>Ud ak/\Pw l/\Pw sb
def Pw:List Pr->Prop
 |[]=>True
 |p::l=>kPr p/\Pw l
def Ud:List Gu->Prop
 |[]=>True
 |.mk kind _ _ _ _ _ _ body::l=>0<=kind/\Pw body/\Ud l
end
theorem Rj:∀ {l:List Pr},Pw l->∀ x∈l,kPr x
 |p::l,h,x,hx=>by
  simp only[Pw]at h;rcases Bc.1 hx with rfl|hx
  ·exact h.1
  ·exact Rj h.2 x hx
theorem Ti:∀ {l:List Gu},Ud l->∀ g∈l,0<=g.kind/\Pw g.body
 |.mk kind _ _ _ _ _ _ body::l,h,g,hg=>by
  simp only[Ud]at h;rcases Bc.1 hg with rfl|hg
  ·exact⟨h.1,h.2.1⟩
  ·exact Ti h.2.2 g hg
theorem kPr_at {p:Pr}(h:kPr p):Ud p.ak/\Pw p.l/\Pw p.spec.body:=by
 obtain⟨_,_,_,_,_,_,_,_,_,⟨⟩⟩:=p;simp only[kPr]at h;exact h
theorem Tk (depth left:Int)(pl:Bool)(p:Pr)(l:List Pr):Jh depth left pl (p::l)=if left<0 then left else Jh depth (Kr depth left pl p) pl l:=by rw[Jh]
theorem Wh (depth left:Int)(g:Gu)(l:List Gu):Kl depth left (g::l)=if left<0 then left else Kl depth (Iw depth left g.body) l:=by
 cases g;rw[Kl];rfl
theorem Xp (depth left:Int)(pl:Bool)(p:Pr):Kr depth left pl p=
 if 32<depth\/left=0\/ownB p=false\/(p.kind=11/\pl=false) then -1
 else if p.kind=18/\p.spec.kind=4/\p.spec.aN.cases=true/\32<depth+2 then -1
 else Kl (depth+2) (Jh (if p.kind=11 then depth+2 else if p.kind=18 then depth else depth+1) (if p.kind=18/\p.spec.kind=5 then Iw (depth+1) (left - 1) p.spec.body else left - 1) (pl && decide (p.kind=18)) p.l) p.ak:=by
 obtain⟨_,_,_,_,_,_,_,_,_,⟨⟩⟩:=p;rw[Kr];rfl
theorem Qm (p:Pr)(depth left:Int)(pl:Bool)(h0:0<=left)(h1:left<=2048):Kr depth left pl p<=left:=by
 have:=Ky p depth left pl h0 h1;unfold agree at this;by_cases h:0<=Kr depth left pl p
 ·have:=(this.2 h).2;omega
 ·omega
theorem Qw (d l:Int)(L:List Pr)(h:0<L.length):Iw d l L=Kr d l false L[0]:=by
 cases L with
 |nil=>simp at h
 |cons a t=>rw[Iw];rfl
theorem Yc (p:Pr)(h:ownB p=true)(hk:p.kind=18)(h5:p.spec.kind=5):p.spec.body.length=1:=(jm7 _ (Nr p h hk)).2.1 h5
end Lx
end
end Go.Proofs.YtklklgfpkpglgaaGreatDoor
