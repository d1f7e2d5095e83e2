/- Parts: O37, O38, O39, O40, O42. -/
import Derived.Test.YtdopmfifmgkmoaaGreatDoorP40
import Derived.Test.YtdopmfifmgkmoaaGreatDoorP19
set_option linter.all false
set_option maxRecDepth 100000
set_option maxHeartbeats 16000000
namespace Go.Proofs.YtdopmfifmgkmoaaGreatDoor
open Go.RowKit Go.Proofs.Tryz
section
def Kb:List Nat:=[0,1,2,3,4,5,6,7,8,9,10,21,31,32,37,53,70,87,104,118,129,137,160,191,199,206,219,233,249]
attribute [local irreducible] Lx.Da Lx.Hf Lx.Dq Lx.Jf Lx.Dg Lx.Gr Lx.Iz Lx.ownB
attribute [local irreducible] TR TC
theorem ms4 (gl:List (Nat × List D))(p:Pr)(hkk:∀ g∈p.guards,0<=g.kind)(k:p.kind=11):FnD prog gl 91 [.d (dPr p)] (fun v=>v=.d (.bool (Lx.ownB p))):=by
 have t1:=x3 gl p.targets;have t2:=y8 gl p.exprs;have t3:=x6 gl p.chan;have t4:=fun a b lo hi=>y6 gl p.guards a b lo hi hkk;have t6:=y3 gl p.name;have t7:=z6 gl p.spec;clear hkk;simp only[r9]at t3;refine ja7 gl p fun w M r l0 g0 least most hr hl0 hg0 hlm=>?_;have hown:=je5 p r l0 g0 least most hr hl0 hg0 hlm;simp only[kl7,kl8,kl9,kl6,k,Int.reduceEq,or_self,or_true,true_or,or_false,false_or,if_true,if_false]at hown;refine g8 (ι:=Bool × Bool × Bool) (fun x=>oS gl p .p [(4,.d (.bool x.1)),(8,.d (.bool x.2.1)),(9,.d (.bool x.2.2))]) (fun x=>x=(!r && decide (p.procs.length=p.l.length) && (decide (8<p.procs.length) || p.procs.all Lr),Lx.hasB 1 8 p.l.length,g0)) ?_ ?_<;>dsimp only[oS,ozc,prC,exC,jt7,spC,kb4,Ac,Ad]
 ·((repeat' first|refine Ca 1 ?_;(refine j6 1 ?_)|refine Ck 46 ?_;refine halt ?_|refine yyp ?_|refine yy ?_|refine yy2 ?_ ?_<;>intro hcmp|refine at_nil ?_;refine Ce Kb ?_|refine Cb fun K hK=>?_|apply_assumption -exfalso -symm);all_goals try refine unhalt ?_)
  (refine x7 (id:=46) ?_;(repeat' first|refine yyp ?_;try refine Cc ?_ ?_<;>intro hb|refine yy ?_|refine yy2 ?_ ?_<;>intro hcmp|refine at_nil ?_;refine Ce Kb ?_))
  apply_assumption -exfalso -symm
  refine yy ?_;refine g8 (ι:=Bool) (fun f=>oS gl p .o [(4,.d (.bool f)),(9,.d (.bool g0)),(8,.d (.bool l0)),(5,.d (.bool r))]) (fun f=>f=(!r && decide (p.procs.length=p.l.length))) ?_ ?_<;>dsimp only[oS,ozc,prC,exC,jt7,spC,kb4,Ac,Ad]
  ·(repeat' first|refine Ca 141 ?_;(first|refine yyp ?_;try refine Cc ?_ ?_<;>intro hb|refine yy2 ?_ ?_<;>intro hcmp);all_goals try refine Db false 141 4 Kb ?_|refine Ca 141 ?_;refine yyp ?_;try refine Cc ?_ ?_<;>intro hb|refine yyp ?_|refine yy ?_|refine yy2 ?_ ?_<;>intro hcmp|refine at_nil ?_;refine Ce Kb ?_|refine Cb fun K hK=>?_|apply_assumption -exfalso -symm)
   all_goals
    refine⟨_,?_,v6⟩
    (repeat (rename (∀ S:Sd,TC _ _ _ S->_)=>hX;clear hX))
    clear t1 t2 t3 t4 t6 t7 hown;clear hl0 hg0 hlm;simp_all
    all_goals (try omega)
  rintro f hf
  (repeat' first|refine Ca 155 ?_;(first|refine yyp ?_;try refine Cc ?_ ?_<;>intro hb|refine yy2 ?_ ?_<;>intro hcmp);all_goals try refine Db false 155 160 Kb ?_|refine Ca 155 ?_;refine yyp ?_;try refine Cc ?_ ?_<;>intro hb|refine Ca 160 ?_;refine yyp ?_;try refine Cc ?_ ?_<;>intro hb|refine Ca 164 ?_;(first|refine yyp ?_;try refine Cc ?_ ?_<;>intro hb|refine yy2 ?_ ?_<;>intro hcmp);all_goals try refine Db false 164 4 Kb ?_|refine Ca 164 ?_;refine yyp ?_;try refine Cc ?_ ?_<;>intro hb|refine Ca 172 ?_;(first|refine yyp ?_;try refine Cc ?_ ?_<;>intro hb|refine yy2 ?_ ?_<;>intro hcmp);all_goals try refine Db false 172 4 Kb ?_|refine Ca 172 ?_;refine yyp ?_;try refine Cc ?_ ?_<;>intro hb|refine Ca 184 ?_;(first|refine yyp ?_;try refine Cc ?_ ?_<;>intro hb|refine yy2 ?_ ?_<;>intro hcmp);all_goals try refine Db false 184 8 Kb ?_|refine Ca 184 ?_;refine yyp ?_;try refine Cc ?_ ?_<;>intro hb|refine yyp ?_|refine yy ?_|refine yy2 ?_ ?_<;>intro hcmp|refine at_nil ?_;refine Ce Kb ?_|refine Cb fun K hK=>?_|apply_assumption -exfalso -symm)
  refine j8 [4,10,150,151,152,153,154,155,156,157,158,159,160,161,162,163,164,165,166,167,168,169,170,171,172,173,174,175,176,177,178,179] [] (fun i:Nat=>[(10,.d (.int .i64 i)),(4,.d (.bool ((p.procs.take i).all Lr && f)))]) (fun _=>[]) (fun i=>i<=p.procs.length/\(8<p.procs.length->i=0)) (fun i=>p.procs.length - i) 0 ⟨Ak _,fun _=>rfl⟩ fun i ⟨hi,hi8⟩=>?_;dsimp only[Ac,Ad];rcases Ah i p.procs.length with hi2|hi2
  ·have hnx:(p.procs.take (i+1)).all Lr=((p.procs.take i).all Lr && Lr p.procs[i]):=by rw[<-ja3 _ _ hi2,List.all_append];simp
   (repeat' first|refine Ca 155 ?_;(first|refine yyp ?_;try refine Cc ?_ ?_<;>intro hb|refine yy2 ?_ ?_<;>intro hcmp);all_goals try refine Db false 155 160 Kb ?_|refine Ca 155 ?_;refine yyp ?_;try refine Cc ?_ ?_<;>intro hb|refine Ca 160 ?_;refine yyp ?_;try refine Cc ?_ ?_<;>intro hb|refine Ca 164 ?_;(first|refine yyp ?_;try refine Cc ?_ ?_<;>intro hb|refine yy2 ?_ ?_<;>intro hcmp);all_goals try refine Db false 164 4 Kb ?_|refine Ca 164 ?_;refine yyp ?_;try refine Cc ?_ ?_<;>intro hb|refine Ca 172 ?_;(first|refine yyp ?_;try refine Cc ?_ ?_<;>intro hb|refine yy2 ?_ ?_<;>intro hcmp);all_goals try refine Db false 172 4 Kb ?_|refine Ca 172 ?_;refine yyp ?_;try refine Cc ?_ ?_<;>intro hb|refine Ca 184 ?_;(first|refine yyp ?_;try refine Cc ?_ ?_<;>intro hb|refine yy2 ?_ ?_<;>intro hcmp);all_goals try refine Db false 184 8 Kb ?_|refine Ca 184 ?_;refine yyp ?_;try refine Cc ?_ ?_<;>intro hb|refine yyp ?_|refine yy ?_|refine yy2 ?_ ?_<;>intro hcmp|refine at_nil ?_;refine Ce Kb ?_|refine Cb fun K hK=>?_|apply_assumption -exfalso -symm)
   all_goals first
    |(refine⟨i+1,⟨by omega,fun h=>by omega⟩,by omega,?_⟩
      first
       |(have e:((p.procs.take (i+1)).all Lr && f)=true:=by
          rw[hnx];have hq:Lr p.procs[i]=true:=by unfold Lr;rw[Bt (by omega),Bt (by omega)];rfl
          rw[hq,Bn];assumption
         rw[e];exact v6)
       |(have e:((p.procs.take (i+1)).all Lr && f)=false:=by
          rw[hnx]
          first
           |(have hq:Lr p.procs[i]=false:=by
              unfold Lr
              first
               |(rw[Bq (by omega)];rfl)
               |(rw[Bq (p:=p.procs[i]<8) (by omega),Az])
             rw[hq,Az,Av])
           |(rw[Bool.and_right_comm,hb,Av])
         rw[e];exact v6))
    |(refine⟨(_,_,_),?_,v6⟩
      (repeat (rename (∀ S:Sd,TC _ _ _ S->_)=>hX;clear hX))
      clear t1 t2 t3 t4 t6 t7 hown;clear hl0 hg0 hlm hr;have h8:8<p.procs.length:=by omega
      obtain rfl:i=0:=hi8 h8;simp only[Bg,Lx.hasB,hf,h8,decide_true,Ee,Bn,Fd,List.all_nil,Bc,and_true,true_and]
      first
       |done
       |omega
       |(rw[Bt (by omega),Bt (by omega)];rfl)
       |(rw[Bt (by omega),Bq (by omega)];rfl)
       |(rw[Bq (by omega)];rfl)
       |grind)
  ·obtain rfl:i=p.procs.length:=by omega
   rw[Au];have h8:¬8<p.procs.length:=fun h=>by have:=hi8 h;omega
   (repeat' first|refine Ca 155 ?_;(first|refine yyp ?_;try refine Cc ?_ ?_<;>intro hb|refine yy2 ?_ ?_<;>intro hcmp);all_goals try refine Db false 155 160 Kb ?_|refine Ca 155 ?_;refine yyp ?_;try refine Cc ?_ ?_<;>intro hb|refine Ca 160 ?_;refine yyp ?_;try refine Cc ?_ ?_<;>intro hb|refine Ca 164 ?_;(first|refine yyp ?_;try refine Cc ?_ ?_<;>intro hb|refine yy2 ?_ ?_<;>intro hcmp);all_goals try refine Db false 164 4 Kb ?_|refine Ca 164 ?_;refine yyp ?_;try refine Cc ?_ ?_<;>intro hb|refine Ca 172 ?_;(first|refine yyp ?_;try refine Cc ?_ ?_<;>intro hb|refine yy2 ?_ ?_<;>intro hcmp);all_goals try refine Db false 172 4 Kb ?_|refine Ca 172 ?_;refine yyp ?_;try refine Cc ?_ ?_<;>intro hb|refine Ca 184 ?_;(first|refine yyp ?_;try refine Cc ?_ ?_<;>intro hb|refine yy2 ?_ ?_<;>intro hcmp);all_goals try refine Db false 184 8 Kb ?_|refine Ca 184 ?_;refine yyp ?_;try refine Cc ?_ ?_<;>intro hb|refine yyp ?_|refine yy ?_|refine yy2 ?_ ?_<;>intro hcmp|refine at_nil ?_;refine Ce Kb ?_|refine Cb fun K hK=>?_|apply_assumption -exfalso -symm)
   all_goals first
    |(refine⟨(_,_,_),?_,v6⟩
      (repeat (rename (∀ S:Sd,TC _ _ _ S->_)=>hX;clear hX))
      clear t1 t2 t3 t4 t6 t7 hown;clear hl0 hg0 hlm hr;have ea:(p.procs.all Lr && f)=(!r && decide (p.procs.length=p.l.length) && (decide (8<p.procs.length) || p.procs.all Lr)):=by
       rw[hf,Bq h8,Ed,Bool.and_comm]
      simp only[Bg,Lx.hasB,ea,and_true,true_and]
      first
       |done
       |omega
       |(rw[Bt (by omega),Bt (by omega)];rfl)
       |(rw[Bt (by omega),Bq (by omega)];rfl)
       |(rw[Bq (by omega)];rfl)
       |grind)
 rintro⟨fine,parts,choices⟩ hx;simp only[Bg]at hx;obtain⟨rfl,rfl,rfl⟩:=hx;exact ja8 gl p w M .p _ _ _ hown
end
section
def Tf:List Nat:=[0,1,2,3,4,5,6,7,8,9,10,21,31,32,37,53,70,87,104,118,129,137,160,191,199,206,219,233,249]
attribute [local irreducible] Lx.Da Lx.Hf Lx.Dq Lx.Jf Lx.Dg Lx.Gr Lx.Iz Lx.ownB
attribute [local irreducible] TR TC
theorem ms5 (gl:List (Nat × List D))(p:Pr)(hkk:∀ g∈p.guards,0<=g.kind)(k:p.kind=14):FnD prog gl 91 [.d (dPr p)] (fun v=>v=.d (.bool (Lx.ownB p))):=by
 have t1:=x3 gl p.targets;have t2:=y8 gl p.exprs;have t3:=x6 gl p.chan;have t4:=fun a b lo hi=>y6 gl p.guards a b lo hi hkk;have t6:=y3 gl p.name;have t7:=z6 gl p.spec;clear hkk;simp only[r9]at t3;refine ja7 gl p fun w M r l0 g0 least most hr hl0 hg0 hlm=>?_;have hown:=je5 p r l0 g0 least most hr hl0 hg0 hlm;simp only[kl7,kl8,kl9,kl6,k,Int.reduceEq,or_self,or_true,true_or,or_false,false_or,if_true,if_false]at hown;refine g8 (ι:=Bool × Bool × Bool) (fun x=>oS gl p .o [(4,.d (.bool x.1)),(8,.d (.bool x.2.1)),(9,.d (.bool x.2.2))]) (fun x=>x=(true,l0,Lx.Dq p.guards least most 1 1)) ?_ ?_<;>dsimp only[oS,ozc,prC,exC,jt7,spC,kb4,Ac,Ad]
 ·(repeat' first|refine yyp ?_|refine yy ?_|refine yy2 ?_ ?_<;>intro hcmp|refine Cf 129 ?_;refine Cg (hc:=(t4 _ _ _ _)) ?_|refine at_nil ?_;refine Ce Tf ?_|refine Cb fun K hK=>?_|apply_assumption -exfalso -symm)
  all_goals
   refine⟨(_,_,_),?_,v6⟩
   (repeat (rename (∀ S:Sd,TC _ _ _ S->_)=>hX;clear hX))
   clear t1 t2 t3 t4 t6 t7 hown;clear hr hlm hl0 hg0;simp only[Bg,Lx.hasB]at *
   all_goals (try simp_all)
   all_goals (try omega)
   all_goals (try (cases r<;>first|rfl|(simp;omega)|omega))
 rintro⟨fine,parts,choices⟩ hx;simp only[Bg]at hx;obtain⟨rfl,rfl,rfl⟩:=hx;exact ja8 gl p w M .o _ _ _ hown
theorem ms6 (gl:List (Nat × List D))(p:Pr)(hkk:∀ g∈p.guards,0<=g.kind)(k:p.kind=15):FnD prog gl 91 [.d (dPr p)] (fun v=>v=.d (.bool (Lx.ownB p))):=by
 have t1:=x3 gl p.targets;have t2:=y8 gl p.exprs;have t3:=x6 gl p.chan;have t4:=fun a b lo hi=>y6 gl p.guards a b lo hi hkk;have t6:=y3 gl p.name;have t7:=z6 gl p.spec;clear hkk;simp only[r9]at t3;refine ja7 gl p fun w M r l0 g0 least most hr hl0 hg0 hlm=>?_;have hown:=je5 p r l0 g0 least most hr hl0 hg0 hlm;simp only[kl7,kl8,kl9,kl6,k,Int.reduceEq,or_self,or_true,true_or,or_false,false_or,if_true,if_false]at hown;refine g8 (ι:=Bool × Bool × Bool) (fun x=>oS gl p .e [(4,.d (.bool x.1)),(8,.d (.bool x.2.1)),(9,.d (.bool x.2.2))]) (fun x=>x=(!r && Lx.Da p.exprs 1 1 Lx.Gr,l0,Lx.Dq p.guards 0 16 5 6)) ?_ ?_<;>dsimp only[oS,ozc,prC,exC,jt7,spC,kb4,Ac,Ad]
 ·(repeat' first|refine Ca 210 ?_;(first|refine yyp ?_;try refine Cc ?_ ?_<;>intro hb|refine yy2 ?_ ?_<;>intro hcmp);all_goals try refine Db false 210 4 Tf ?_|refine Ca 210 ?_;refine yyp ?_;try refine Cc ?_ ?_<;>intro hb|refine yyp ?_|refine yy ?_|refine yy2 ?_ ?_<;>intro hcmp|refine Cf 127 ?_;refine Cg (hc:=(t2 _ _)) ?_|refine Cf 129 ?_;refine Cg (hc:=(t4 _ _ _ _)) ?_|refine at_nil ?_;refine Ce Tf ?_|refine Cb fun K hK=>?_|apply_assumption -exfalso -symm)
  all_goals
   refine⟨(_,_,_),?_,v6⟩
   (repeat (rename (∀ S:Sd,TC _ _ _ S->_)=>hX;clear hX))
   clear t1 t2 t3 t4 t6 t7 hown;clear hr hlm hl0 hg0;simp only[Bg,Lx.hasB]at *
   all_goals (try simp_all)
   all_goals (try omega)
   all_goals (try (cases r<;>first|rfl|(simp;omega)|omega))
 rintro⟨fine,parts,choices⟩ hx;simp only[Bg]at hx;obtain⟨rfl,rfl,rfl⟩:=hx;exact ja8 gl p w M .e _ _ _ hown
theorem ms7 (gl:List (Nat × List D))(p:Pr)(hkk:∀ g∈p.guards,0<=g.kind)(k:p.kind=16):FnD prog gl 91 [.d (dPr p)] (fun v=>v=.d (.bool (Lx.ownB p))):=by
 have t1:=x3 gl p.targets;have t2:=y8 gl p.exprs;have t3:=x6 gl p.chan;have t4:=fun a b lo hi=>y6 gl p.guards a b lo hi hkk;have t6:=y3 gl p.name;have t7:=z6 gl p.spec;clear hkk;simp only[r9]at t3;refine ja7 gl p fun w M r l0 g0 least most hr hl0 hg0 hlm=>?_;have hown:=je5 p r l0 g0 least most hr hl0 hg0 hlm;simp only[kl7,kl8,kl9,kl6,k,Int.reduceEq,or_self,or_true,true_or,or_false,false_or,if_true,if_false]at hown;refine g8 (ι:=Bool × Bool × Bool) (fun x=>oS gl p .e [(4,.d (.bool x.1)),(8,.d (.bool x.2.1)),(9,.d (.bool x.2.2))]) (fun x=>x=(!r && Lx.Da p.exprs 1 1 Lx.Gr,decide (p.l.length=1),g0)) ?_ ?_<;>dsimp only[oS,ozc,prC,exC,jt7,spC,kb4,Ac,Ad]
 ·(repeat' first|refine Ca 223 ?_;(first|refine yyp ?_;try refine Cc ?_ ?_<;>intro hb|refine yy2 ?_ ?_<;>intro hcmp);all_goals try refine Db false 223 4 Tf ?_|refine Ca 223 ?_;refine yyp ?_;try refine Cc ?_ ?_<;>intro hb|refine yyp ?_|refine yy ?_|refine yy2 ?_ ?_<;>intro hcmp|refine Cf 127 ?_;refine Cg (hc:=(t2 _ _)) ?_|refine at_nil ?_;refine Ce Tf ?_|refine Cb fun K hK=>?_|apply_assumption -exfalso -symm)
  all_goals
   refine⟨(_,_,_),?_,v6⟩
   (repeat (rename (∀ S:Sd,TC _ _ _ S->_)=>hX;clear hX))
   clear t1 t2 t3 t4 t6 t7 hown;clear hr hlm hl0 hg0;simp only[Bg,Lx.hasB]at *
   all_goals (try simp_all)
   all_goals (try omega)
   all_goals (try (cases r<;>first|rfl|(simp;omega)|omega))
 rintro⟨fine,parts,choices⟩ hx;simp only[Bg]at hx;obtain⟨rfl,rfl,rfl⟩:=hx;exact ja8 gl p w M .e _ _ _ hown
end
section
def Sm:List Nat:=[0,1,2,3,4,5,6,7,8,9,10,21,31,32,37,53,70,87,104,118,129,137,160,191,199,206,219,233,249]
attribute [local irreducible] Lx.Da Lx.Hf Lx.Dq Lx.Jf Lx.Dg Lx.Gr Lx.Iz Lx.ownB
attribute [local irreducible] TR TC
theorem ms8 (gl:List (Nat × List D))(p:Pr)(hkk:∀ g∈p.guards,0<=g.kind)(k:p.kind=17):FnD prog gl 91 [.d (dPr p)] (fun v=>v=.d (.bool (Lx.ownB p))):=by
 have t1:=x3 gl p.targets;have t2:=y8 gl p.exprs;have t3:=x6 gl p.chan;have t4:=fun a b lo hi=>y6 gl p.guards a b lo hi hkk;have t6:=y3 gl p.name;have t7:=z6 gl p.spec;clear hkk;simp only[r9]at t3;refine ja7 gl p fun w M r l0 g0 least most hr hl0 hg0 hlm=>?_;have hown:=je5 p r l0 g0 least most hr hl0 hg0 hlm;simp only[kl7,kl8,kl9,kl6,k,Int.reduceEq,or_self,or_true,true_or,or_false,false_or,if_true,if_false]at hown;refine g8 (ι:=Bool × Bool × Bool) (fun x=>oS gl p .ne [(4,.d (.bool x.1)),(8,.d (.bool x.2.1)),(9,.d (.bool x.2.2))]) (fun x=>x=(!r && Lx.Dg p.name && Lx.Da p.exprs 0 8 Lx.Gr,l0,g0)) ?_ ?_<;>dsimp only[oS,ozc,prC,exC,jt7,spC,kb4,Ac,Ad]
 ·(repeat' first|refine Ca 237 ?_;(first|refine yyp ?_;try refine Cc ?_ ?_<;>intro hb|refine yy2 ?_ ?_<;>intro hcmp);all_goals try refine Db false 237 4 Sm ?_|refine Ca 237 ?_;refine yyp ?_;try refine Cc ?_ ?_<;>intro hb|refine Ca 242 ?_;(first|refine yyp ?_;try refine Cc ?_ ?_<;>intro hb|refine yy2 ?_ ?_<;>intro hcmp);all_goals try refine Db false 242 4 Sm ?_|refine Ca 242 ?_;refine yyp ?_;try refine Cc ?_ ?_<;>intro hb|refine yyp ?_|refine yy ?_|refine yy2 ?_ ?_<;>intro hcmp|refine Cf 130 ?_;refine Cg (hc:=t6) ?_|refine Cf 127 ?_;refine Cg (hc:=(t2 _ _)) ?_|refine at_nil ?_;refine Ce Sm ?_|refine Cb fun K hK=>?_|apply_assumption -exfalso -symm)
  all_goals
   refine⟨(_,_,_),?_,v6⟩
   (repeat (rename (∀ S:Sd,TC _ _ _ S->_)=>hX;clear hX))
   clear t1 t2 t3 t4 t6 t7 hown;clear hr hlm hl0 hg0;simp only[Bg,Lx.hasB]at *
   all_goals (try simp_all)
   all_goals (try omega)
   all_goals (try (cases r<;>first|rfl|(simp;omega)|omega))
 rintro⟨fine,parts,choices⟩ hx;simp only[Bg]at hx;obtain⟨rfl,rfl,rfl⟩:=hx;exact ja8 gl p w M .ne _ _ _ hown
theorem ms9 (gl:List (Nat × List D))(p:Pr)(hkk:∀ g∈p.guards,0<=g.kind)(k:p.kind=18):FnD prog gl 91 [.d (dPr p)] (fun v=>v=.d (.bool (Lx.ownB p))):=by
 have t1:=x3 gl p.targets;have t2:=y8 gl p.exprs;have t3:=x6 gl p.chan;have t4:=fun a b lo hi=>y6 gl p.guards a b lo hi hkk;have t6:=y3 gl p.name;have t7:=z6 gl p.spec;clear hkk;simp only[r9]at t3;refine ja7 gl p fun w M r l0 g0 least most hr hl0 hg0 hlm=>?_;have hown:=je5 p r l0 g0 least most hr hl0 hg0 hlm;simp only[kl7,kl8,kl9,kl6,k,Int.reduceEq,or_self,or_true,true_or,or_false,false_or,if_true,if_false]at hown;refine g8 (ι:=Bool × Bool × Bool) (fun x=>oS gl p .s [(4,.d (.bool x.1)),(8,.d (.bool x.2.1)),(9,.d (.bool x.2.2))]) (fun x=>x=(!r && Lx.Jf p.spec,decide (p.l.length=1),g0)) ?_ ?_<;>dsimp only[oS,ozc,prC,exC,jt7,spC,kb4,Ac,Ad]
 ·(repeat' first|refine Ca 253 ?_;(first|refine yyp ?_;try refine Cc ?_ ?_<;>intro hb|refine yy2 ?_ ?_<;>intro hcmp);all_goals try refine Db false 253 4 Sm ?_|refine Ca 253 ?_;refine yyp ?_;try refine Cc ?_ ?_<;>intro hb|refine Ca 262 ?_;refine z_p Cr ?_|refine yyp ?_|refine yy ?_|refine yy2 ?_ ?_<;>intro hcmp|refine Cf 131 ?_;refine Cg (hc:=t7) ?_|refine at_nil ?_;refine Ce Sm ?_|refine Cb fun K hK=>?_|apply_assumption -exfalso -symm)
  all_goals
   refine⟨(_,_,_),?_,v6⟩
   (repeat (rename (∀ S:Sd,TC _ _ _ S->_)=>hX;clear hX))
   clear t1 t2 t3 t4 t6 t7 hown;clear hr hlm hl0 hg0;simp only[Bg,Lx.hasB]at *
   all_goals (try simp_all)
   all_goals (try omega)
   all_goals (try (cases r<;>first|rfl|(simp;omega)|omega))
 rintro⟨fine,parts,choices⟩ hx;simp only[Bg]at hx;obtain⟨rfl,rfl,rfl⟩:=hx;exact ja8 gl p w M .s _ _ _ hown
theorem qg4 (gl:List (Nat × List D))(p:Pr)(hkk:∀ g∈p.guards,0<=g.kind)(k:p.kind≠1/\p.kind≠2/\p.kind≠3/\p.kind≠4/\p.kind≠5/\p.kind≠6/\p.kind≠7/\p.kind≠8/\p.kind≠9/\p.kind≠10/\p.kind≠11/\p.kind≠12/\p.kind≠13/\p.kind≠14/\p.kind≠15/\p.kind≠16/\p.kind≠17/\p.kind≠18):FnD prog gl 91 [.d (dPr p)] (fun v=>v=.d (.bool (Lx.ownB p))):=by
 have t1:=x3 gl p.targets;have t2:=y8 gl p.exprs;have t3:=x6 gl p.chan;have t4:=fun a b lo hi=>y6 gl p.guards a b lo hi hkk;have t6:=y3 gl p.name;have t7:=z6 gl p.spec;clear hkk;simp only[r9]at t3;refine ja7 gl p fun w M r l0 g0 least most hr hl0 hg0 hlm=>?_;have hown:=je5 p r l0 g0 least most hr hl0 hg0 hlm;simp only[kl7,kl8,kl9,kl6,k,Int.reduceEq,or_self,or_true,true_or,or_false,false_or,if_true,if_false]at hown;refine g8 (ι:=Bool × Bool × Bool) (fun x=>oS gl p .o [(4,.d (.bool x.1)),(8,.d (.bool x.2.1)),(9,.d (.bool x.2.2))]) (fun x=>x=(false,l0,g0)) ?_ ?_<;>dsimp only[oS,ozc,prC,exC,jt7,spC,kb4,Ac,Ad]
 ·(repeat' first|refine Ca 1 ?_;(refine j6 1 ?_)|refine yyp ?_|refine yy ?_|refine yy2 ?_ ?_<;>intro hcmp|refine at_nil ?_;refine Ce Sm ?_|refine Cb fun K hK=>?_|apply_assumption -exfalso -symm)
  all_goals
   refine⟨(_,_,_),?_,v6⟩
   (repeat (rename (∀ S:Sd,TC _ _ _ S->_)=>hX;clear hX))
   clear t1 t2 t3 t4 t6 t7 hown;clear hr hlm hl0 hg0;simp only[Bg,Lx.hasB]at *
   all_goals (try simp_all)
   all_goals (try omega)
   all_goals (try (cases r<;>first|rfl|(simp;omega)|omega))
 rintro⟨fine,parts,choices⟩ hx;simp only[Bg]at hx;obtain⟨rfl,rfl,rfl⟩:=hx;exact ja8 gl p w M .o _ _ _ hown
end
section
theorem qg5 (gl:List (Nat × List D))(p:Pr)(hkk:∀ g∈p.guards,0<=g.kind):FnD prog gl 91 [.d (dPr p)] (fun v=>v=.d (.bool (Lx.ownB p))):=by
 by_cases h1:p.kind=1
 ·exact qf5 gl p hkk h1
 by_cases h2:p.kind=2
 ·exact qf6 gl p hkk h2
 by_cases h3:p.kind=3
 ·exact qf7 gl p hkk h3
 by_cases h4:p.kind=4
 ·exact qf8 gl p hkk h4
 by_cases h5:p.kind=5
 ·exact qf9 gl p hkk h5
 by_cases h6:p.kind=6
 ·exact qg0 gl p hkk h6
 by_cases h7:p.kind=7
 ·exact qg1 gl p hkk h7
 by_cases h8:p.kind=8
 ·exact qg2 gl p hkk h8
 by_cases h9:p.kind=9
 ·exact qg3 gl p hkk h9
 by_cases h10:p.kind=10
 ·exact ms0 gl p hkk h10
 by_cases h11:p.kind=11
 ·exact ms4 gl p hkk h11
 by_cases h12:p.kind=12
 ·exact ms1 gl p hkk h12
 by_cases h13:p.kind=13
 ·exact ms3 gl p hkk h13
 by_cases h14:p.kind=14
 ·exact ms5 gl p hkk h14
 by_cases h15:p.kind=15
 ·exact ms6 gl p hkk h15
 by_cases h16:p.kind=16
 ·exact ms7 gl p hkk h16
 by_cases h17:p.kind=17
 ·exact ms8 gl p hkk h17
 by_cases h18:p.kind=18
 ·exact ms9 gl p hkk h18
 exact qg4 gl p hkk ⟨h1,h2,h3,h4,h5,h6,h7,h8,h9,h10,h11,h12,h13,h14,h15,h16,h17,h18⟩
end
section
def Im:List Nat:=[0,1,2,3,4,8,9,10,11,31,38,54,58,70,81,106]
def ji2:Plan:=lin [0,8,20,24,28,32,36,5,12,17,41,44,48,54,56]
attribute [local irreducible] TR TC
theorem mt0 (gl:List (Nat × List D))(p:Pr)(depth left:Int)(pl:Bool)(h0:0<=left)(h1:left<=2048)(hd0:0<=depth)(hd1:depth<=34)(hkp:Lx.kPr p)
 (ih:∀ x:Pr,SizeOf.sizeOf x<SizeOf.sizeOf p->Lx.kPr x->∀ (d l:Int) (q:Bool),0<=l->l<=2048->0<=d->d<=34->FnD prog gl 50 [.d (dPr x),.d (.int .i64 d),.d (.int .i64 l),.d (.bool q)] (fun v=>v=.d (.int .i64 (Lx.Kr d l q x)))):
 FnD prog gl 50 [.d (dPr p),.d (.int .i64 depth),.d (.int .i64 left),.d (.bool pl)] (fun v=>v=.d (.int .i64 (Lx.Kr depth left pl p))):=by
 have hka:=Lx.kPr_at hkp;have q1:=qg5 gl p fun g hg=>(Lx.Td hka.1 g hg).1;have heq:=Lx.Wz depth left pl p;have hpg:=Lx.Pp p;have hsp:=Lx.Xo p;generalize Lx.Kr depth left pl p=res at heq ⊢;rw[v8]at q1 ⊢;simp only[v8]at ih
 (refine j3 func50 ntmps50 results50 fun w M=>?_)
 refine k9 0 24 rfl rfl fun hnl=>?_;refine k9 0 23 rfl rfl fun hng=>?_;simp only[Aa]at hnl hng;refine Cb fun K0 k0=>?_
 (refine x7 (id:=0) ?_;(repeat' first|refine Ca 4 ?_;(refine j6 4 ?_)|refine yyp ?_;try refine Cc ?_ ?_<;>intro hb|refine at_nil ?_;refine Ce Im ?_))
 refine k0 _ ?_;refine jp2 (t:=4) (env':=[(8,.d (.int .i64 0)),(1,.d (.int .i64 depth)),(2,.d (.int .i64 left)),(3,.d (.bool pl))]) (H':=[]) rfl rfl (by repeat (first|exact .nil|apply Frz.cons (.d _))) rfl (by(repeat (first|exact Sub.nil|apply Sub.cons rfl));fail_if_success intros) (by(repeat (first|exact Sub.nil|apply Sub.cons rfl));fail_if_success intros) rfl rfl ?_;refine g8 (ι:=Unit) (fun _=>⟨[(4,.d (.ref (ka7 p) 0)),(8,.d (.int .i64 0)),(1,.d (.int .i64 depth)),(2,.d (.int .i64 left)),(3,.d (.bool pl))],[],gl⟩)
  (fun _=>¬(32<depth\/left=0\/Lx.ownB p=false\/(p.kind=11/\pl=false))) ?_ ?_
 ·(repeat' first|refine Ca 14 ?_;(first|refine yyp ?_;try refine Cc ?_ ?_<;>intro hb|refine yy2 ?_ ?_<;>intro hcmp);all_goals try refine Db true 14 31 Im ?_|refine Ca 18 ?_;(first|refine yyp ?_;try refine Cc ?_ ?_<;>intro hb|refine yy2 ?_ ?_<;>intro hcmp);all_goals try refine Db true 18 31 Im ?_|refine Ca 23 ?_;(first|refine yyp ?_;try refine Cc ?_ ?_<;>intro hb|refine yy2 ?_ ?_<;>intro hcmp);all_goals try refine Db true 23 31 Im ?_|refine Ca 27 ?_;refine yyp ?_;try refine Cc ?_ ?_<;>intro hb|refine Ca 31 ?_;refine yyp ?_;try refine Cc ?_ ?_<;>intro hb|refine yyp ?_|refine yy ?_|refine yy2 ?_ ?_<;>intro hcmp|refine Cf 91 ?_;refine Cg (hc:=q1) ?_|refine at_nil ?_;refine Ce Im ?_|refine Cb fun K hK=>?_|refine Ck 16 ?_;refine j1 [] ji2 ?_|apply_assumption -exfalso -symm)
  all_goals clear ih q1
  all_goals first
   |(refine j0 ?_
     dsimp only[Exit.Mq];rw[Ae (by clear heq hpg hsp;(repeat (rename (∀ S:Sd,TC _ _ _ S->_)=>hX;clear hX));simp_all)]at heq;subst heq;refine j5 ?_;rfl)
   |(refine⟨(),?_,v6⟩
     (repeat (rename (∀ S:Sd,TC _ _ _ S->_)=>hX;clear hX))
     clear heq hpg hsp;simp_all
     try omega)
 rintro _ hok;rw[Af hok]at heq;have hown:Lx.ownB p=true:=by cases h:Lx.ownB p with|true=>rfl|false=>exact absurd (.inr (.inr (.inl h))) hok
 have hpg:=hpg hown;have hsp:=hsp hown;have hl0:0<=left - 1:=by omega
 have hd2:depth<=32:=by omega
 clear q1 hok;rw[ky8];obtain⟨d1,hdd⟩:∃ z,z=if p.kind=18 then depth else depth+1:=⟨_,rfl⟩;obtain⟨below,hbelow⟩:∃ z,z=if p.kind=11 then depth+2 else if p.kind=18 then depth else depth+1:=⟨_,rfl⟩;obtain⟨b,hb'⟩:∃ z,z=if p.kind=18/\p.spec.kind=5 then Lx.Jk (depth+1) (left - 1) p.spec.body else left - 1:=⟨_,rfl⟩;rw[<-hbelow,<-hb']at heq;refine Cb fun K3 k3=>?_
 (refine x7 (id:=3) ?_;(repeat' first|refine yyp ?_;try refine Cc ?_ ?_<;>intro hb|refine at_nil ?_;refine Ce Im ?_))
 refine k3 _ ?_;refine Cb fun K4 k4=>?_
 (refine x7 (id:=4) ?_;(repeat' first|refine yyp ?_;try refine Cc ?_ ?_<;>intro hb|refine at_nil ?_;refine Ce Im ?_))
 refine k4 _ ?_;refine g8 (ι:=Unit) (fun _=>⟨[(9,.d (.int .i64 d1)),(2,.d (.int .i64 b)),(4,.d (.ref (jm6 p) 0)),(8,.d (.int .i64 0)),(1,.d (.int .i64 depth)),(3,.d (.bool pl))],[],gl⟩)
  (fun _=>¬(p.kind=18/\p.spec.kind=4/\p.spec.proto.cases=true/\32<depth+2)) ?_ ?_
 ·by_cases h18:p.kind=18
  ·rw[Ae h18]at hdd
   replace hdd:=hdd.symm
   subst hdd;by_cases h5:p.spec.kind=5
   ·have hpos:0<p.spec.body.length:=by have:=hsp h18 h5;omega
    have hih:=ih p.spec.body[0] (mv2 (Ar _)) (Lx.Ro hka.2.2 _ (Ar _)) (depth+1) (left - 1) false (by omega) (by omega) (by omega) (by omega);rw[Ae ⟨h18,h5⟩,Lx.Rc _ _ _ hpos]at hb';subst hb'
    (repeat' first|refine Ca 44 ?_;(first|refine yyp ?_;try refine Cc ?_ ?_<;>intro hb|refine yy2 ?_ ?_<;>intro hcmp);all_goals try refine Db false 44 54 Im ?_|refine yyp ?_|refine yy ?_|refine Cf 50 ?_;refine Cg (hc:=hih) ?_|refine at_nil ?_;refine Ce Im ?_|refine Cb fun K hK=>?_|refine Ck 16 ?_;refine j1 [] ji2 ?_|apply_assumption -exfalso -symm)
    all_goals try clear ih
    all_goals try clear hih
    all_goals first
     |(exfalso
       (repeat (rename (∀ S:Sd,TC _ _ _ S->_)=>hX;clear hX))
       clear heq hpg hsp;omega)
     |(refine⟨(),?_,v6⟩
       (repeat (rename (∀ S:Sd,TC _ _ _ S->_)=>hX;clear hX))
       clear heq hpg hsp;simp_all
       try omega)
     |(refine j0 ?_
       dsimp only[Exit.Mq];rw[Ae (by clear heq hpg hsp;(repeat (rename (∀ S:Sd,TC _ _ _ S->_)=>hX;clear hX));simp_all)]at heq;subst heq;refine j5 ?_;rfl)
   ·rw[Af (fun h=>h5 h.2)]at hb';subst hb'
    (repeat' first|refine Ca 44 ?_;(first|refine yyp ?_;try refine Cc ?_ ?_<;>intro hb|refine yy2 ?_ ?_<;>intro hcmp);all_goals try refine Db false 44 54 Im ?_|refine Ca 50 ?_;(first|refine yyp ?_;try refine Cc ?_ ?_<;>intro hb|refine yy2 ?_ ?_<;>intro hcmp);all_goals try refine Db false 50 54 Im ?_|refine Ca 54 ?_;refine yyp ?_;try refine Cc ?_ ?_<;>intro hb|refine yyp ?_|refine yy ?_|refine yy2 ?_ ?_<;>intro hcmp|refine at_nil ?_;refine Ce Im ?_|refine Cb fun K hK=>?_|refine Ck 16 ?_;refine j1 [] ji2 ?_|apply_assumption -exfalso -symm)
    all_goals try clear ih
    all_goals first
     |(exfalso
       (repeat (rename (∀ S:Sd,TC _ _ _ S->_)=>hX;clear hX))
       clear heq hpg hsp;omega)
     |(refine⟨(),?_,v6⟩
       (repeat (rename (∀ S:Sd,TC _ _ _ S->_)=>hX;clear hX))
       clear heq hpg hsp;simp_all
       try omega)
     |(refine j0 ?_
       dsimp only[Exit.Mq];rw[Ae (by clear heq hpg hsp;(repeat (rename (∀ S:Sd,TC _ _ _ S->_)=>hX;clear hX));simp_all)]at heq;subst heq;refine j5 ?_;rfl)
  ·rw[Af h18]at hdd;rw[Af (fun h=>h18 h.1)]at hb';subst hdd;subst hb'
   (repeat' first|refine yyp ?_|refine yy ?_|refine at_nil ?_;refine Ce Im ?_|refine Cb fun K hK=>?_|refine Ck 16 ?_;refine j1 [] ji2 ?_|apply_assumption -exfalso -symm)
   all_goals try clear ih
   all_goals first
    |(exfalso
      (repeat (rename (∀ S:Sd,TC _ _ _ S->_)=>hX;clear hX))
      clear heq hpg hsp;omega)
    |(refine⟨(),?_,v6⟩
      (repeat (rename (∀ S:Sd,TC _ _ _ S->_)=>hX;clear hX))
      clear heq hpg hsp;simp_all
      done)
 rintro _ hn1;rw[Af hn1]at heq;have hbl:b<=2048:=by
  rw[hb'];split
  ·rename_i h18;have hpos:0<p.spec.body.length:=by have:=hsp h18.1 h18.2;omega
   rw[Lx.Rc _ _ _ hpos];have:=Lx.Qw p.spec.body[0] (depth+1) (left - 1) false hl0 (by omega);omega
  ·omega
 refine g8 (ι:=Unit) (fun _=>⟨[(9,.d (.int .i64 below)),(2,.d (.int .i64 b)),(4,.d (.ref (jm6 p) 0)),(8,.d (.int .i64 0)),(1,.d (.int .i64 depth)),(3,.d (.bool pl))],[],gl⟩)
  (fun _=>True) ?_ ?_
 ·by_cases h11:p.kind=11
  ·rw[Ae h11]at hbelow;clear hdd;subst hbelow
   (repeat' first|refine yyp ?_|refine yy ?_|refine at_nil ?_;refine Ce Im ?_|refine Cb fun K hK=>?_|refine Ck 16 ?_;refine j1 [] ji2 ?_|apply_assumption -exfalso -symm)
   all_goals first
    |(exfalso
      (repeat (rename (∀ S:Sd,TC _ _ _ S->_)=>hX;clear hX))
      omega)
    |(exact⟨(),trivial,v6⟩)
  ·rw[Af h11,<-hdd]at hbelow;clear hdd;subst hbelow
   (repeat' first|refine yyp ?_|refine yy ?_|refine at_nil ?_;refine Ce Im ?_|refine Cb fun K hK=>?_|refine Ck 16 ?_;refine j1 [] ji2 ?_|apply_assumption -exfalso -symm)
   all_goals first
    |(exfalso
      (repeat (rename (∀ S:Sd,TC _ _ _ S->_)=>hX;clear hX))
      omega)
    |(exact⟨(),trivial,v6⟩)
 rintro _ _;have hbelow2:0<=below/\below<=34:=by
  rw[hbelow];split
  ·omega
  ·split<;>omega
 clear hbelow hb' hn1 hdd;obtain⟨m,hm⟩:∃ z,z=Lx.Jp below b (pl && decide (p.kind=18)) p.l:=⟨_,rfl⟩;rw[<-hm]at heq;have hml:m<=2048:=by
  rw[hm];clear hm heq;generalize p.l=l;generalize (pl && decide (p.kind=18))=q
  induction l generalizing b with
  |nil=>rw[Lx.Jp];exact hbl
  |cons x l ihl=>
   rw[Lx.Tg];split
   ·omega
   ·exact ihl _ (Int.le_trans (Lx.Qw x below b q (by omega) hbl) hbl)
 refine g8 (ι:=Unit) (fun _=>⟨[(2,.d (.int .i64 m)),(4,.d (.ref (jm6 p) 0)),(8,.d (.int .i64 0)),(1,.d (.int .i64 depth))],[],gl⟩)
  (fun _=>True) ?_ ?_
 ·obtain⟨q,hq⟩:∃ q,q=(pl && decide (p.kind=18)):=⟨_,rfl⟩;rw[<-hq]at hm;cases pl<;>by_cases h18:p.kind=18
  all_goals simp only[h18,decide_true,decide_false,Bn,Az,Bc,Av]at hq
  all_goals subst hq
  all_goals
   (repeat' first|refine yyp ?_|refine yy ?_|refine at_nil ?_;refine Ce Im ?_|refine Cb fun K hK=>?_|refine Ck 16 ?_;refine j1 [] ji2 ?_|apply_assumption -exfalso -symm)
   refine j8 [2,10,73,74,75,76,77,78,79,80,81,82,83,84,85,86,87,88,89,90,91,92,93,94,95,96,97] [] (fun x:Nat × Int=>[(10,.d (.int .i64 x.1)),(2,.d (.int .i64 x.2))]) (fun _=>[]) (fun x=>x.1<=p.l.length/\x.2<=2048/\m=Lx.Jp below x.2 _ (p.l.drop x.1)) (fun x=>p.l.length - x.1) (0,b) ⟨by omega,hbl,hm⟩ fun⟨k,z⟩ ⟨hk,hz1,hmk⟩=>?_;dsimp only[Ac,Ad]at hk hz1 hmk ⊢;by_cases hk2:k<p.l.length
   ·by_cases hz0:0<=z
    ·rw[Bd hk2,Lx.Tg,Af (by omega)]at hmk;have hone:=fun q=>ih p.l[k] (mv0 (Ar _)) (Lx.Ro hka.2.1 _ (Ar _)) below z q hz0 hz1 hbelow2.1 hbelow2.2;have hlf:=fun q=>Lx.Qw p.l[k] below z q hz0 hz1
     (repeat' first|refine Ca 78 ?_;(first|refine yyp ?_;try refine Cc ?_ ?_<;>intro hb|refine yy2 ?_ ?_<;>intro hcmp);all_goals try refine Db false 78 81 Im ?_|refine Ca 81 ?_;refine yyp ?_;try refine Cc ?_ ?_<;>intro hb|refine Ca 92 ?_;refine yyp ?_;try refine Cc ?_ ?_<;>intro hb|refine yyp ?_|refine yy ?_|refine Cf 50 ?_;refine Cg (hc:=hone _) ?_|refine at_nil ?_;refine Ce Im ?_|refine Cb fun K hK=>?_|refine Ck 16 ?_;refine j1 [] ji2 ?_|apply_assumption -exfalso -symm)
     all_goals first
      |(exfalso
        (repeat (rename (∀ S:Sd,TC _ _ _ S->_)=>hX;clear hX))
        omega)
      |(exact⟨(k+1,_),⟨hk2,Int.le_trans (hlf _) hz1,hmk⟩,by dsimp only;omega,v6⟩)
    ·rw[Lx.Qo _ _ _ (by omega)]at hmk;subst hmk
     (repeat' first|refine Ca 78 ?_;(first|refine yyp ?_;try refine Cc ?_ ?_<;>intro hb|refine yy2 ?_ ?_<;>intro hcmp);all_goals try refine Db false 78 81 Im ?_|refine Ca 81 ?_;refine yyp ?_;try refine Cc ?_ ?_<;>intro hb|refine yyp ?_|refine yy ?_|refine at_nil ?_;refine Ce Im ?_|refine Cb fun K hK=>?_|refine Ck 16 ?_;refine j1 [] ji2 ?_|apply_assumption -exfalso -symm)
     all_goals first
      |(exfalso
        (repeat (rename (∀ S:Sd,TC _ _ _ S->_)=>hX;clear hX))
        omega)
      |(exact⟨(),trivial,v6⟩)
   ·rw[Br (by omega),Lx.Jp]at hmk;subst hmk
    (repeat' first|refine Ca 78 ?_;(first|refine yyp ?_;try refine Cc ?_ ?_<;>intro hb|refine yy2 ?_ ?_<;>intro hcmp);all_goals try refine Db false 78 81 Im ?_|refine yyp ?_|refine yy ?_|refine Cb fun K hK=>?_|refine Ck 16 ?_;refine j1 [] ji2 ?_|apply_assumption -exfalso -symm)
    all_goals first
     |(exfalso
       (repeat (rename (∀ S:Sd,TC _ _ _ S->_)=>hX;clear hX))
       omega)
     |(exact⟨(),trivial,v6⟩)
 rintro _ _;clear hm hbelow2 hbl;refine g8 (ι:=Unit) (fun _=>⟨[(2,.d (.int .i64 res)),(4,.d (.ref (jm6 p) 0)),(8,.d (.int .i64 0))],[],gl⟩)
  (fun _=>True) ?_ ?_
 ·(repeat' first|refine yyp ?_|refine yy ?_|refine at_nil ?_;refine Ce Im ?_|refine Cb fun K hK=>?_|refine Ck 16 ?_;refine j1 [] ji2 ?_|apply_assumption -exfalso -symm)
  refine j8 [2,11,98,99,100,101,102,103,104,105,106,107,108,109,110,111,112,113,114,115,116,117,118,119,120] [] (fun x:Nat × Int=>[(11,.d (.int .i64 x.1)),(2,.d (.int .i64 x.2))]) (fun _=>[]) (fun x=>x.1<=p.guards.length/\x.2<=2048/\res=Lx.Kl (depth+2) x.2 (p.guards.drop x.1)) (fun x=>p.guards.length - x.1) (0,m) ⟨by omega,hml,heq⟩ fun⟨k,z⟩ ⟨hk,hz1,hmk⟩=>?_;dsimp only[Ac,Ad]at hk hz1 hmk ⊢;by_cases hk2:k<p.guards.length
  ·by_cases hz0:0<=z
   ·have hlen:=hpg p.guards[k] (Ar _);have hpos:0<p.guards[k].body.length:=by omega
    rw[Bd hk2,Lx.Wl,Af (by omega),Lx.Rc _ _ _ hpos]at hmk;have hone:=ih p.guards[k].body[0] (mv1 (Ar _) (Ar _)) (Lx.Ro (Lx.Td hka.1 _ (Ar _)).2 _ (Ar _)) (depth+2) z false hz0 hz1 (by omega) (by omega);have hlf:=Lx.Qw p.guards[k].body[0] (depth+2) z false hz0 hz1
    (repeat' first|refine Ca 103 ?_;(first|refine yyp ?_;try refine Cc ?_ ?_<;>intro hb|refine yy2 ?_ ?_<;>intro hcmp);all_goals try refine Db false 103 106 Im ?_|refine Ca 106 ?_;refine yyp ?_;try refine Cc ?_ ?_<;>intro hb|refine yyp ?_|refine yy ?_|refine Cf 50 ?_;refine Cg (hc:=hone) ?_|refine at_nil ?_;refine Ce Im ?_|refine Cb fun K hK=>?_|refine Ck 16 ?_;refine j1 [] ji2 ?_|apply_assumption -exfalso -symm)
    all_goals first
     |(exfalso
       (repeat (rename (∀ S:Sd,TC _ _ _ S->_)=>hX;clear hX))
       omega)
     |(exact⟨(k+1,_),⟨hk2,Int.le_trans hlf hz1,hmk⟩,by dsimp only;omega,v6⟩)
   ·rw[Lx.Oc _ _ (by omega)]at hmk;subst hmk
    (repeat' first|refine Ca 103 ?_;(first|refine yyp ?_;try refine Cc ?_ ?_<;>intro hb|refine yy2 ?_ ?_<;>intro hcmp);all_goals try refine Db false 103 106 Im ?_|refine Ca 106 ?_;refine yyp ?_;try refine Cc ?_ ?_<;>intro hb|refine yyp ?_|refine yy ?_|refine at_nil ?_;refine Ce Im ?_|refine Cb fun K hK=>?_|refine Ck 16 ?_;refine j1 [] ji2 ?_|apply_assumption -exfalso -symm)
    all_goals first
     |(exfalso
       (repeat (rename (∀ S:Sd,TC _ _ _ S->_)=>hX;clear hX))
       omega)
     |(exact⟨(),trivial,v6⟩)
  ·rw[Br (by omega),Lx.Kl]at hmk;subst hmk
   (repeat' first|refine Ca 103 ?_;(first|refine yyp ?_;try refine Cc ?_ ?_<;>intro hb|refine yy2 ?_ ?_<;>intro hcmp);all_goals try refine Db false 103 106 Im ?_|refine yyp ?_|refine yy ?_|refine Cb fun K hK=>?_|refine Ck 16 ?_;refine j1 [] ji2 ?_|apply_assumption -exfalso -symm)
   all_goals first
    |(exfalso
      (repeat (rename (∀ S:Sd,TC _ _ _ S->_)=>hX;clear hX))
      omega)
    |(exact⟨(),trivial,v6⟩)
 rintro _ _
 (repeat' first|refine yyp ?_|refine yy ?_|refine at_nil ?_;refine Ce Im ?_|refine Cb fun K hK=>?_|refine Ck 16 ?_;refine j1 [] ji2 ?_|apply_assumption -exfalso -symm)
 (refine j0 (j5 ?_))
 rfl
theorem qs2 (gl:List (Nat × List D)):∀ (n:Nat) (p:Pr),SizeOf.sizeOf p<=n->Lx.kPr p->∀ (depth left:Int) (pl:Bool),0<=left->left<=2048->0<=depth->depth<=34->FnD prog gl 50 [.d (dPr p),.d (.int .i64 depth),.d (.int .i64 left),.d (.bool pl)] (fun v=>v=.d (.int .i64 (Lx.Kr depth left pl p))):=by
 intro n
 induction n with
 |zero=>intro p h;cases p;simp only[Pr.mk.sizeOf_spec]at h;omega
 |succ n ih=>
  intro p hp hk depth left pl h0 h1 h2 h3;exact mt0 gl p depth left pl h0 h1 h2 h3 hk fun x hx hkx d l q a1 a2 a3 a4=>ih x (by omega) hkx d l q a1 a2 a3 a4
theorem jq8 (gl:List (Nat × List D))(p:Pr)(hk:Lx.kPr p):FnD prog gl 22 [.d (dPr p)] (fun v=>v=.d (.bool (Lx.Dz p))):=by
 have h:=qs2 gl _ p (As _) hk 0 2048 true (by omega) (by omega) (by omega) (by omega);have ha:=Lx.Kv p 0 2048 true (by omega) (by omega);unfold Lx.agree at ha;rw[v8]at h ⊢
 (refine j3 func22 ntmps22 results22 fun w M=>?_)
 (repeat' first|refine Ca 1 ?_;(refine j6 1 ?_)|refine yyp ?_;try refine Cc ?_ ?_<;>intro hb|refine yy ?_|refine yy2 ?_ ?_<;>intro hcmp|refine Cf 50 ?_;refine Cg (hc:=h) ?_|refine at_nil ?_;refine Ce [0,1,2,3,4,5] ?_|refine Cb fun K hK=>?_|apply_assumption -exfalso -symm)
 all_goals
  (refine j0 (j5 ?_))
  simp only[oneOf,Ax,An,Lx.Dz]
  (repeat (rename (∀ S:Sd,TC _ _ _ S->_)=>hX;clear hX))
  clear h
 ·rw[eq_comm,ha.1];omega
 ·rw[eq_comm,Bool.eq_false_iff];intro e;have:=ha.1.1 e;omega
end
end Go.Proofs.YtdopmfifmgkmoaaGreatDoor
