/- Parts. -/
import Derived.Test.YtklklgfpkpglgaaGreatDoorQ41
import Derived.Test.YtklklgfpkpglgaaGreatDoorQ22
set_option linter.all false
set_option maxRecDepth 100000
set_option maxHeartbeats 0
namespace Go.Proofs.YtklklgfpkpglgaaGreatDoor
open Go.RowKit Go.Proofs.Tryz Lx
variable (gl:List (Nat × List D))
section
def Mk:List Nat:=[0,1,2,3,4,5,6,7,8,9,10,21,31,32,37,53,70,87,104,118,129,137,160,191,199,206,219,233,249]
attribute [local irreducible] Cq Ga Dq Hr Cw Gd Hw Lx.ownB
attribute [local irreducible] TR TC
theorem qc4 (p:Pr)(hkk:∀ g∈p.ak,0<=g.kind)(k:p.kind=11):FnD prog gl 67 [.d (dPr p)] (λv=>v=.d (.bool (Lx.ownB p))):=by
 have t1:=v8 gl p.aj;have t2:=y5 gl p.au;have t3:=x3 gl p.av;have t4:=λa b lo hi=>x9 gl p.ak a b lo hi hkk;have t6:=x7 gl p.name;have t7:=y8 gl p.spec;clear hkk;simp only[r8]at t3;refine ja5 gl p λw M r l0 g0 least most hr hl0 hg0 hlm=>?_;have hown:=je9 p r l0 g0 least most hr hl0 hg0 hlm;simp only[kq2,kq3,kq4,kq1,k,Int.reduceEq,or_self,or_true,true_or,or_false,false_or,if_true,if_false]at hown;refine z7 (ι:=Bool × Bool × Bool) (λx=>oS gl p .p [(4,.d (.bool x.1)),(8,.d (.bool x.2.1)),(9,.d (.bool x.2.2))]) (λx=>x=(!r && decide (p.ay.length=p.l.length) && (decide (8<p.ay.length) || p.ay.all Lg),Lx.hasB 1 8 p.l.length,g0)) ?_ ?_<;>dsimp only[oS,ozc,prC,exC,ju5,spC,ke0,Ac,Ae]
 ·((repeat' first|apply Cg 46;refine halt ?_|refine yyp ?_|refine yy ?_|apply ah;refine Cc Mk ?_|refine Cb λK hK=>?_|apply_assumption -exfalso -symm);all_goals try refine unhalt ?_)
  (refine y6 (id:=46) ?_;(repeat' first|refine yyp ?_;try refine Ce ?_ ?_<;>intro hb|apply ah;refine Cc Mk ?_))
  apply_assumption -exfalso -symm
  refine yy ?_;refine z7 (ι:=Bool) (λf=>oS gl p .o [(4,.d (.bool f)),(9,.d (.bool g0)),(8,.d (.bool l0)),(5,.d (.bool r))]) (λf=>f=(!r && decide (p.ay.length=p.l.length))) ?_ ?_<;>dsimp only[oS,ozc,prC,exC,ju5,spC,ke0,Ac,Ae]
  ·(repeat' first|apply Ca 141;(first|refine yyp ?_;try refine Ce ?_ ?_<;>intro hb|refine yy2 ?_ ?_<;>intro hcmp);all_goals try refine Dj false 141 4 Mk ?_|refine yyp ?_|refine yy ?_|refine yy2 ?_ ?_<;>intro hcmp|apply ah;refine Cc Mk ?_|refine Cb λK hK=>?_|apply_assumption -exfalso -symm)
   all_goals
    refine⟨_,?_,v6⟩
    (repeat (rename (∀ S,TC _ _ _ S->_)=>hX;clear hX))
    clear t1 t2 t3 t4 t6 t7 hown;clear hl0 hg0 hlm;simp_all
    all_goals (try omega)
  rintro f hf
  (repeat' first|refine yyp ?_|refine yy ?_|apply ah;refine Cc Mk ?_|refine Cb λK hK=>?_|apply_assumption -exfalso -symm)
  refine k9 [4,10,150,151,152,153,154,155,156,157,158,159,160,161,162,163,164,165,166,167,168,169,170,171,172,173,174,175,176,177,178,179] [] (λi:Nat=>[(10,.d (.int .i64 i)),(4,.d (.bool ((p.ay.take i).all Lg && f)))]) (λ_=>[]) (λi=>i<=p.ay.length/\(8<p.ay.length->i=0)) (λi=>p.ay.length - i) 0 ⟨Ak _,λ_=>rfl⟩ λi ⟨hi,hi8⟩=>?_;dsimp only[Ac,Ae];rcases Ai i p.ay.length with hi2|hi2
  ·have hnx:(p.ay.take (i+1)).all Lg=((p.ay.take i).all Lg && Lg p.ay[i]):=by rw[<-jo6 _ _ hi2,List.all_append];simp
   (repeat' first|refine zas [155,164,172,184] ?_;(first|refine yyp ?_;try refine Ce ?_ ?_<;>intro hb|refine yy2 ?_ ?_<;>intro hcmp);all_goals try (first|refine Dj false 155 160 Mk ?_|refine Dj false 164 4 Mk ?_|refine Dj false 172 4 Mk ?_|refine Dj false 184 8 Mk ?_)|apply Ca 160;refine yyp ?_;try refine Ce ?_ ?_<;>intro hb|refine yyp ?_|refine yy ?_|refine yy2 ?_ ?_<;>intro hcmp|apply ah;refine Cc Mk ?_|refine Cb λK hK=>?_|apply_assumption -exfalso -symm)
   all_goals first
    |(refine⟨i+1,⟨by omega,λh=>by omega⟩,by omega,?_⟩
      first
       |(have e:((p.ay.take (i+1)).all Lg && f)=true:=by
          rw[hnx];have hq:Lg p.ay[i]=true:=by unfold Lg;rw[Bm (by omega),Bm (by omega)];rfl
          rw[hq,Bu];assumption
         rw[e];exact v6)
       |(have e:((p.ay.take (i+1)).all Lg && f)=false:=by
          rw[hnx]
          first
           |(have hq:Lg p.ay[i]=false:=by
              unfold Lg
              first
               |(rw[Bl (by omega)];rfl)
               |(rw[Bl (p:=p.ay[i]<8) (by omega),Be])
             rw[hq,Be,As])
           |(rw[Bool.and_right_comm,hb,As])
         rw[e];exact v6))
    |(refine⟨(_,_,_),?_,v6⟩
      (repeat (rename (∀ S,TC _ _ _ S->_)=>hX;clear hX))
      clear t1 t2 t3 t4 t6 t7 hown;clear hl0 hg0 hlm hr;have h8:8<p.ay.length:=by omega
      obtain rfl:i=0:=hi8 h8;simp only[Bh,Lx.hasB,hf,h8,decide_true,Ef,Bu,List.take_zero,List.all_nil,Bf,and_true,true_and]
      first
       |done
       |omega
       |(rw[Bm (by omega),Bm (by omega)];rfl)
       |(rw[Bm (by omega),Bl (by omega)];rfl)
       |(rw[Bl (by omega)];rfl)
       |grind)
  ·obtain rfl:i=p.ay.length:=by omega
   rw[Bv];have h8:¬8<p.ay.length:=λh=>by have:=hi8 h;omega
   (repeat' first|refine zas [155,184] ?_;(first|refine yyp ?_;try refine Ce ?_ ?_<;>intro hb|refine yy2 ?_ ?_<;>intro hcmp);all_goals try (first|refine Dj false 155 160 Mk ?_|refine Dj false 184 8 Mk ?_)|refine yyp ?_|refine yy ?_|refine yy2 ?_ ?_<;>intro hcmp|apply ah;refine Cc Mk ?_|refine Cb λK hK=>?_|apply_assumption -exfalso -symm)
   all_goals first
    |(refine⟨(_,_,_),?_,v6⟩
      (repeat (rename (∀ S,TC _ _ _ S->_)=>hX;clear hX))
      clear t1 t2 t3 t4 t6 t7 hown;clear hl0 hg0 hlm hr;have ea:(p.ay.all Lg && f)=(!r && decide (p.ay.length=p.l.length) && (decide (8<p.ay.length) || p.ay.all Lg)):=by
       rw[hf,Bl h8,Ee,Bool.and_comm]
      simp only[Bh,Lx.hasB,ea,and_true,true_and]
      first
       |done
       |omega
       |(rw[Bm (by omega),Bm (by omega)];rfl)
       |(rw[Bm (by omega),Bl (by omega)];rfl)
       |(rw[Bl (by omega)];rfl)
       |grind)
 rintro⟨fine,parts,choices⟩ hx;simp only[Bh]at hx;obtain⟨rfl,rfl,rfl⟩:=hx;exact ja6 gl p w M .p _ _ _ hown
end
section
def Tt:List Nat:=[0,1,2,3,4,5,6,7,8,9,10,21,31,32,37,53,70,87,104,118,129,137,160,191,199,206,219,233,249]
attribute [local irreducible] Cq Ga Dq Hr Cw Gd Hw Lx.ownB
attribute [local irreducible] TR TC
theorem qc5 (p:Pr)(hkk:∀ g∈p.ak,0<=g.kind)(k:p.kind=14):FnD prog gl 67 [.d (dPr p)] (λv=>v=.d (.bool (Lx.ownB p))):=by
 have t1:=v8 gl p.aj;have t2:=y5 gl p.au;have t3:=x3 gl p.av;have t4:=λa b lo hi=>x9 gl p.ak a b lo hi hkk;have t6:=x7 gl p.name;have t7:=y8 gl p.spec;clear hkk;simp only[r8]at t3;refine ja5 gl p λw M r l0 g0 least most hr hl0 hg0 hlm=>?_;have hown:=je9 p r l0 g0 least most hr hl0 hg0 hlm;simp only[kq2,kq3,kq4,kq1,k,Int.reduceEq,or_self,or_true,true_or,or_false,false_or,if_true,if_false]at hown;refine z7 (ι:=Bool × Bool × Bool) (λx=>oS gl p .o [(4,.d (.bool x.1)),(8,.d (.bool x.2.1)),(9,.d (.bool x.2.2))]) (λx=>x=(true,l0,Dq p.ak least most 1 1)) ?_ ?_<;>dsimp only[oS,ozc,prC,exC,ju5,spC,ke0,Ac,Ae]
 ·(repeat' first|refine yyp ?_|refine yy ?_|apply Cf 111;refine Ci (hc:=(t4 _ _ _ _)) ?_|apply ah;refine Cc Tt ?_|refine Cb λK hK=>?_|apply_assumption -exfalso -symm)
  all_goals
   refine⟨(_,_,_),?_,v6⟩
   (repeat (rename (∀ S,TC _ _ _ S->_)=>hX;clear hX))
   clear t1 t2 t3 t4 t6 t7 hown;clear hr hlm hl0 hg0;simp only[Bh,Lx.hasB]at *
   all_goals (try simp_all)
   all_goals (try omega)
   all_goals (try (cases r<;>first|rfl|(simp;omega)|omega))
 rintro⟨fine,parts,choices⟩ hx;simp only[Bh]at hx;obtain⟨rfl,rfl,rfl⟩:=hx;exact ja6 gl p w M .o _ _ _ hown
theorem qc6 (p:Pr)(hkk:∀ g∈p.ak,0<=g.kind)(k:p.kind=15):FnD prog gl 67 [.d (dPr p)] (λv=>v=.d (.bool (Lx.ownB p))):=by
 have t1:=v8 gl p.aj;have t2:=y5 gl p.au;have t3:=x3 gl p.av;have t4:=λa b lo hi=>x9 gl p.ak a b lo hi hkk;have t6:=x7 gl p.name;have t7:=y8 gl p.spec;clear hkk;simp only[r8]at t3;refine ja5 gl p λw M r l0 g0 least most hr hl0 hg0 hlm=>?_;have hown:=je9 p r l0 g0 least most hr hl0 hg0 hlm;simp only[kq2,kq3,kq4,kq1,k,Int.reduceEq,or_self,or_true,true_or,or_false,false_or,if_true,if_false]at hown;refine z7 (ι:=Bool × Bool × Bool) (λx=>oS gl p .e [(4,.d (.bool x.1)),(8,.d (.bool x.2.1)),(9,.d (.bool x.2.2))]) (λx=>x=(!r && Cq p.au 1 1 Gd,l0,Dq p.ak 0 16 5 6)) ?_ ?_<;>dsimp only[oS,ozc,prC,exC,ju5,spC,ke0,Ac,Ae]
 ·(repeat' first|apply Ca 210;(first|refine yyp ?_;try refine Ce ?_ ?_<;>intro hb|refine yy2 ?_ ?_<;>intro hcmp);all_goals try refine Dj false 210 4 Tt ?_|refine yyp ?_|refine yy ?_|apply Cf 109;refine Ci (hc:=(t2 _ _)) ?_|apply Cf 111;refine Ci (hc:=(t4 _ _ _ _)) ?_|apply ah;refine Cc Tt ?_|refine Cb λK hK=>?_|apply_assumption -exfalso -symm)
  all_goals
   refine⟨(_,_,_),?_,v6⟩
   (repeat (rename (∀ S,TC _ _ _ S->_)=>hX;clear hX))
   clear t1 t2 t3 t4 t6 t7 hown;clear hr hlm hl0 hg0;simp only[Bh,Lx.hasB]at *
   all_goals (try simp_all)
   all_goals (try omega)
   all_goals (try (cases r<;>first|rfl|(simp;omega)|omega))
 rintro⟨fine,parts,choices⟩ hx;simp only[Bh]at hx;obtain⟨rfl,rfl,rfl⟩:=hx;exact ja6 gl p w M .e _ _ _ hown
theorem qc7 (p:Pr)(hkk:∀ g∈p.ak,0<=g.kind)(k:p.kind=16):FnD prog gl 67 [.d (dPr p)] (λv=>v=.d (.bool (Lx.ownB p))):=by
 have t1:=v8 gl p.aj;have t2:=y5 gl p.au;have t3:=x3 gl p.av;have t4:=λa b lo hi=>x9 gl p.ak a b lo hi hkk;have t6:=x7 gl p.name;have t7:=y8 gl p.spec;clear hkk;simp only[r8]at t3;refine ja5 gl p λw M r l0 g0 least most hr hl0 hg0 hlm=>?_;have hown:=je9 p r l0 g0 least most hr hl0 hg0 hlm;simp only[kq2,kq3,kq4,kq1,k,Int.reduceEq,or_self,or_true,true_or,or_false,false_or,if_true,if_false]at hown;refine z7 (ι:=Bool × Bool × Bool) (λx=>oS gl p .e [(4,.d (.bool x.1)),(8,.d (.bool x.2.1)),(9,.d (.bool x.2.2))]) (λx=>x=(!r && Cq p.au 1 1 Gd,decide (p.l.length=1),g0)) ?_ ?_<;>dsimp only[oS,ozc,prC,exC,ju5,spC,ke0,Ac,Ae]
 ·(repeat' first|apply Ca 223;(first|refine yyp ?_;try refine Ce ?_ ?_<;>intro hb|refine yy2 ?_ ?_<;>intro hcmp);all_goals try refine Dj false 223 4 Tt ?_|refine yyp ?_|refine yy ?_|refine yy2 ?_ ?_<;>intro hcmp|apply Cf 109;refine Ci (hc:=(t2 _ _)) ?_|apply ah;refine Cc Tt ?_|refine Cb λK hK=>?_|apply_assumption -exfalso -symm)
  all_goals
   refine⟨(_,_,_),?_,v6⟩
   (repeat (rename (∀ S,TC _ _ _ S->_)=>hX;clear hX))
   clear t1 t2 t3 t4 t6 t7 hown;clear hr hlm hl0 hg0;simp only[Bh,Lx.hasB]at *
   all_goals (try simp_all)
   all_goals (try omega)
   all_goals (try (cases r<;>first|rfl|(simp;omega)|omega))
 rintro⟨fine,parts,choices⟩ hx;simp only[Bh]at hx;obtain⟨rfl,rfl,rfl⟩:=hx;exact ja6 gl p w M .e _ _ _ hown
end
section
def Sk:List Nat:=[0,1,2,3,4,5,6,7,8,9,10,21,31,32,37,53,70,87,104,118,129,137,160,191,199,206,219,233,249]
attribute [local irreducible] Cq Ga Dq Hr Cw Gd Hw Lx.ownB
attribute [local irreducible] TR TC
theorem qc8 (p:Pr)(hkk:∀ g∈p.ak,0<=g.kind)(k:p.kind=17):FnD prog gl 67 [.d (dPr p)] (λv=>v=.d (.bool (Lx.ownB p))):=by
 have t1:=v8 gl p.aj;have t2:=y5 gl p.au;have t3:=x3 gl p.av;have t4:=λa b lo hi=>x9 gl p.ak a b lo hi hkk;have t6:=x7 gl p.name;have t7:=y8 gl p.spec;clear hkk;simp only[r8]at t3;refine ja5 gl p λw M r l0 g0 least most hr hl0 hg0 hlm=>?_;have hown:=je9 p r l0 g0 least most hr hl0 hg0 hlm;simp only[kq2,kq3,kq4,kq1,k,Int.reduceEq,or_self,or_true,true_or,or_false,false_or,if_true,if_false]at hown;refine z7 (ι:=Bool × Bool × Bool) (λx=>oS gl p .ne [(4,.d (.bool x.1)),(8,.d (.bool x.2.1)),(9,.d (.bool x.2.2))]) (λx=>x=(!r && Cw p.name && Cq p.au 0 8 Gd,l0,g0)) ?_ ?_<;>dsimp only[oS,ozc,prC,exC,ju5,spC,ke0,Ac,Ae]
 ·(repeat' first|refine zas [237,242] ?_;(first|refine yyp ?_;try refine Ce ?_ ?_<;>intro hb|refine yy2 ?_ ?_<;>intro hcmp);all_goals try (first|refine Dj false 237 4 Sk ?_|refine Dj false 242 4 Sk ?_)|refine yyp ?_|refine yy ?_|apply Cf 112;refine Ci (hc:=t6) ?_|apply Cf 109;refine Ci (hc:=(t2 _ _)) ?_|apply ah;refine Cc Sk ?_|refine Cb λK hK=>?_|apply_assumption -exfalso -symm)
  all_goals
   refine⟨(_,_,_),?_,v6⟩
   (repeat (rename (∀ S,TC _ _ _ S->_)=>hX;clear hX))
   clear t1 t2 t3 t4 t6 t7 hown;clear hr hlm hl0 hg0;simp only[Bh,Lx.hasB]at *
   all_goals (try simp_all)
   all_goals (try omega)
   all_goals (try (cases r<;>first|rfl|(simp;omega)|omega))
 rintro⟨fine,parts,choices⟩ hx;simp only[Bh]at hx;obtain⟨rfl,rfl,rfl⟩:=hx;exact ja6 gl p w M .ne _ _ _ hown
theorem qc9 (p:Pr)(hkk:∀ g∈p.ak,0<=g.kind)(k:p.kind=18):FnD prog gl 67 [.d (dPr p)] (λv=>v=.d (.bool (Lx.ownB p))):=by
 have t1:=v8 gl p.aj;have t2:=y5 gl p.au;have t3:=x3 gl p.av;have t4:=λa b lo hi=>x9 gl p.ak a b lo hi hkk;have t6:=x7 gl p.name;have t7:=y8 gl p.spec;clear hkk;simp only[r8]at t3;refine ja5 gl p λw M r l0 g0 least most hr hl0 hg0 hlm=>?_;have hown:=je9 p r l0 g0 least most hr hl0 hg0 hlm;simp only[kq2,kq3,kq4,kq1,k,Int.reduceEq,or_self,or_true,true_or,or_false,false_or,if_true,if_false]at hown;refine z7 (ι:=Bool × Bool × Bool) (λx=>oS gl p .s [(4,.d (.bool x.1)),(8,.d (.bool x.2.1)),(9,.d (.bool x.2.2))]) (λx=>x=(!r && Hr p.spec,decide (p.l.length=1),g0)) ?_ ?_<;>dsimp only[oS,ozc,prC,exC,ju5,spC,ke0,Ac,Ae]
 ·(repeat' first|apply Ca 253;(first|refine yyp ?_;try refine Ce ?_ ?_<;>intro hb|refine yy2 ?_ ?_<;>intro hcmp);all_goals try refine Dj false 253 4 Sk ?_|apply Ca 262;refine z_p Cu ?_|refine yyp ?_|refine yy ?_|refine yy2 ?_ ?_<;>intro hcmp|apply Cf 113;refine Ci (hc:=t7) ?_|apply ah;refine Cc Sk ?_|refine Cb λK hK=>?_|apply_assumption -exfalso -symm)
  all_goals
   refine⟨(_,_,_),?_,v6⟩
   (repeat (rename (∀ S,TC _ _ _ S->_)=>hX;clear hX))
   clear t1 t2 t3 t4 t6 t7 hown;clear hr hlm hl0 hg0;simp only[Bh,Lx.hasB]at *
   all_goals (try simp_all)
   all_goals (try omega)
   all_goals (try (cases r<;>first|rfl|(simp;omega)|omega))
 rintro⟨fine,parts,choices⟩ hx;simp only[Bh]at hx;obtain⟨rfl,rfl,rfl⟩:=hx;exact ja6 gl p w M .s _ _ _ hown
theorem qq6 (p:Pr)(hkk:∀ g∈p.ak,0<=g.kind)(k:p.kind≠1/\p.kind≠2/\p.kind≠3/\p.kind≠4/\p.kind≠5/\p.kind≠6/\p.kind≠7/\p.kind≠8/\p.kind≠9/\p.kind≠10/\p.kind≠11/\p.kind≠12/\p.kind≠13/\p.kind≠14/\p.kind≠15/\p.kind≠16/\p.kind≠17/\p.kind≠18):FnD prog gl 67 [.d (dPr p)] (λv=>v=.d (.bool (Lx.ownB p))):=by
 have t1:=v8 gl p.aj;have t2:=y5 gl p.au;have t3:=x3 gl p.av;have t4:=λa b lo hi=>x9 gl p.ak a b lo hi hkk;have t6:=x7 gl p.name;have t7:=y8 gl p.spec;clear hkk;simp only[r8]at t3;refine ja5 gl p λw M r l0 g0 least most hr hl0 hg0 hlm=>?_;have hown:=je9 p r l0 g0 least most hr hl0 hg0 hlm;simp only[kq2,kq3,kq4,kq1,k,Int.reduceEq,or_self,or_true,true_or,or_false,false_or,if_true,if_false]at hown;refine z7 (ι:=Bool × Bool × Bool) (λx=>oS gl p .o [(4,.d (.bool x.1)),(8,.d (.bool x.2.1)),(9,.d (.bool x.2.2))]) (λx=>x=(false,l0,g0)) ?_ ?_<;>dsimp only[oS,ozc,prC,exC,ju5,spC,ke0,Ac,Ae]
 ·(repeat' first|refine yyp ?_|refine yy ?_|apply ah;refine Cc Sk ?_|refine Cb λK hK=>?_|apply_assumption -exfalso -symm)
  all_goals
   refine⟨(_,_,_),?_,v6⟩
   (repeat (rename (∀ S,TC _ _ _ S->_)=>hX;clear hX))
   clear t1 t2 t3 t4 t6 t7 hown;clear hr hlm hl0 hg0;simp only[Bh,Lx.hasB]at *
   all_goals (try simp_all)
   all_goals (try omega)
   all_goals (try (cases r<;>first|rfl|(simp;omega)|omega))
 rintro⟨fine,parts,choices⟩ hx;simp only[Bh]at hx;obtain⟨rfl,rfl,rfl⟩:=hx;exact ja6 gl p w M .o _ _ _ hown
end
section
theorem qq7 (p:Pr)(hkk:∀ g∈p.ak,0<=g.kind):FnD prog gl 67 [.d (dPr p)] (λv=>v=.d (.bool (Lx.ownB p))):=by
 by_cases h1:p.kind=1
 ·exact qp7 gl p hkk h1
 by_cases h2:p.kind=2
 ·exact qp8 gl p hkk h2
 by_cases h3:p.kind=3
 ·exact qp9 gl p hkk h3
 by_cases h4:p.kind=4
 ·exact qq0 gl p hkk h4
 by_cases h5:p.kind=5
 ·exact qq1 gl p hkk h5
 by_cases h6:p.kind=6
 ·exact qq2 gl p hkk h6
 by_cases h7:p.kind=7
 ·exact qq3 gl p hkk h7
 by_cases h8:p.kind=8
 ·exact qq4 gl p hkk h8
 by_cases h9:p.kind=9
 ·exact qq5 gl p hkk h9
 by_cases h10:p.kind=10
 ·exact qc1 gl p hkk h10
 by_cases h11:p.kind=11
 ·exact qc4 gl p hkk h11
 by_cases h12:p.kind=12
 ·exact qc2 gl p hkk h12
 by_cases h13:p.kind=13
 ·exact qc3 gl p hkk h13
 by_cases h14:p.kind=14
 ·exact qc5 gl p hkk h14
 by_cases h15:p.kind=15
 ·exact qc6 gl p hkk h15
 by_cases h16:p.kind=16
 ·exact qc7 gl p hkk h16
 by_cases h17:p.kind=17
 ·exact qc8 gl p hkk h17
 by_cases h18:p.kind=18
 ·exact qc9 gl p hkk h18
 exact qq6 gl p hkk ⟨h1,h2,h3,h4,h5,h6,h7,h8,h9,h10,h11,h12,h13,h14,h15,h16,h17,h18⟩
end
section
def Hu:List Nat:=[0,1,2,3,4,8,9,10,11,31,38,54,58,70,81,106]
def jj0:Plan:=lin [0,8,20,24,28,32,36,5,12,17,41,44,48,54,56]
attribute [local irreducible] TR TC
theorem qd0 (p:Pr)(depth left:Int)(pl:Bool)(h0:0<=left)(h1:left<=2048)(hd0:0<=depth)(hd1:depth<=34)(hkp:Lx.kPr p)
 (ih:∀ x:Pr,SizeOf.sizeOf x<SizeOf.sizeOf p->Lx.kPr x->∀ (d l:Int) (q:Bool),0<=l->l<=2048->0<=d->d<=34->FnD prog gl 38 [.d (dPr x),.d (.int .i64 d),.d (.int .i64 l),.d (.bool q)] (λv=>v=.d (.int .i64 (Kr d l q x)))):
 FnD prog gl 38 [.d (dPr p),.d (.int .i64 depth),.d (.int .i64 left),.d (.bool pl)] (λv=>v=.d (.int .i64 (Kr depth left pl p))):=by
 have hka:=Lx.kPr_at hkp;have q1:=qq7 gl p λg hg=>(Ti hka.1 g hg).1;have heq:=Xp depth left pl p;have hpg:=Oz p;have hsp:=Yc p;generalize Kr depth left pl p=res at heq ⊢;rw[v7]at q1 ⊢;simp only[v7]at ih
 (refine j4 func38 ntmps38 results38 λw M=>?_)
 refine x4 0 24 rfl rfl λhnl=>?_;refine x4 0 23 rfl rfl λhng=>?_;simp only[Ab]at hnl hng;refine Cb λK0 k0=>?_
 (refine y6 (id:=0) ?_;(repeat' first|apply Ca 4;(refine Ck 4 ?_)|refine yyp ?_;try refine Ce ?_ ?_<;>intro hb|apply ah;refine Cc Hu ?_))
 refine k0 _ ?_;refine jo2 (t:=4) (env':=[(8,.d (.int .i64 0)),(1,.d (.int .i64 depth)),(2,.d (.int .i64 left)),(3,.d (.bool pl))]) (H':=[]) rfl rfl (by repeat (first|exact .nil|apply Frz.cons (.d _))) rfl (by(repeat (first|exact Sub.nil|apply Sub.cons rfl));fail_if_success intros) (by(repeat (first|exact Sub.nil|apply Sub.cons rfl));fail_if_success intros) rfl rfl ?_;refine z7 (ι:=Unit) (λ_=>⟨[(4,.d (.ref (kd1 p) 0)),(8,.d (.int .i64 0)),(1,.d (.int .i64 depth)),(2,.d (.int .i64 left)),(3,.d (.bool pl))],[],gl⟩)
  (λ_=>¬(32<depth\/left=0\/Lx.ownB p=false\/(p.kind=11/\pl=false))) ?_ ?_
 ·(repeat' first|refine zas [14,18,23] ?_;(first|refine yyp ?_;try refine Ce ?_ ?_<;>intro hb|refine yy2 ?_ ?_<;>intro hcmp);all_goals try (first|refine Dj true 14 31 Hu ?_|refine Dj true 18 31 Hu ?_|refine Dj true 23 31 Hu ?_)|apply Ca 27;refine yyp ?_;try refine Ce ?_ ?_<;>intro hb|apply Ca 31;refine yyp ?_;try refine Ce ?_ ?_<;>intro hb|refine yyp ?_|refine yy ?_|refine yy2 ?_ ?_<;>intro hcmp|apply Cf 67;refine Ci (hc:=q1) ?_|apply ah;refine Cc Hu ?_|refine Cb λK hK=>?_|apply Cg 16;refine j0 [] jj0 ?_|apply_assumption -exfalso -symm)
  all_goals clear ih q1
  all_goals first
   |(refine j1 ?_
     dsimp only[Exit.Oc];rw[Ad (by clear heq hpg hsp;(repeat (rename (∀ S,TC _ _ _ S->_)=>hX;clear hX));simp_all)]at heq;subst heq;refine j7 ?_;rfl)
   |(refine⟨(),?_,v6⟩
     (repeat (rename (∀ S,TC _ _ _ S->_)=>hX;clear hX))
     clear heq hpg hsp;simp_all
     try omega)
 rintro _ hok;rw[Af hok]at heq;have hown:Lx.ownB p=true:=by cases h:Lx.ownB p with|true=>rfl|false=>exact absurd (.inr (.inr (.inl h))) hok
 have hpg:=hpg hown;have hsp:=hsp hown;have hl0:0<=left - 1:=by omega
 have hd2:depth<=32:=by omega
 clear q1 hok;rw[mf0];obtain⟨d1,hdd⟩:∃ z,z=if p.kind=18 then depth else depth+1:=⟨_,rfl⟩;obtain⟨below,hbelow⟩:∃ z,z=if p.kind=11 then depth+2 else if p.kind=18 then depth else depth+1:=⟨_,rfl⟩;obtain⟨b,hb'⟩:∃ z,z=if p.kind=18/\p.spec.kind=5 then Iw (depth+1) (left - 1) p.spec.body else left - 1:=⟨_,rfl⟩;rw[<-hbelow,<-hb']at heq;refine Cb λK3 k3=>?_
 (refine y6 (id:=3) ?_;(repeat' first|refine yyp ?_;try refine Ce ?_ ?_<;>intro hb|apply ah;refine Cc Hu ?_))
 refine k3 _ ?_;refine Cb λK4 k4=>?_
 (refine y6 (id:=4) ?_;(repeat' first|refine yyp ?_;try refine Ce ?_ ?_<;>intro hb|apply ah;refine Cc Hu ?_))
 refine k4 _ ?_;refine z7 (ι:=Unit) (λ_=>⟨[(9,.d (.int .i64 d1)),(2,.d (.int .i64 b)),(4,.d (.ref (jm9 p) 0)),(8,.d (.int .i64 0)),(1,.d (.int .i64 depth)),(3,.d (.bool pl))],[],gl⟩)
  (λ_=>¬(p.kind=18/\p.spec.kind=4/\p.spec.aN.cases=true/\32<depth+2)) ?_ ?_
 ·by_cases h18:p.kind=18
  ·rw[Ad h18]at hdd
   replace hdd:=hdd.symm
   subst hdd;by_cases h5:p.spec.kind=5
   ·have hpos:0<p.spec.body.length:=by have:=hsp h18 h5;omega
    have hih:=ih p.spec.body[0] (ru6 (Ao _)) (Rj hka.2.2 _ (Ao _)) (depth+1) (left - 1) false (by omega) (by omega) (by omega) (by omega);rw[Ad ⟨h18,h5⟩,Qw _ _ _ hpos]at hb';subst hb'
    (repeat' first|apply Ca 44;(first|refine yyp ?_;try refine Ce ?_ ?_<;>intro hb|refine yy2 ?_ ?_<;>intro hcmp);all_goals try refine Dj false 44 54 Hu ?_|refine yyp ?_|refine yy ?_|apply Cf 38;refine Ci (hc:=hih) ?_|apply ah;refine Cc Hu ?_|refine Cb λK hK=>?_|apply Cg 16;refine j0 [] jj0 ?_|apply_assumption -exfalso -symm)
    all_goals try clear ih
    all_goals try clear hih
    all_goals first
     |(exfalso
       (repeat (rename (∀ S,TC _ _ _ S->_)=>hX;clear hX))
       clear heq hpg hsp;omega)
     |(refine⟨(),?_,v6⟩
       (repeat (rename (∀ S,TC _ _ _ S->_)=>hX;clear hX))
       clear heq hpg hsp;simp_all
       try omega)
     |(refine j1 ?_
       dsimp only[Exit.Oc];rw[Ad (by clear heq hpg hsp;(repeat (rename (∀ S,TC _ _ _ S->_)=>hX;clear hX));simp_all)]at heq;subst heq;refine j7 ?_;rfl)
   ·rw[Af (λh=>h5 h.2)]at hb';subst hb'
    (repeat' first|refine zas [44,50] ?_;(first|refine yyp ?_;try refine Ce ?_ ?_<;>intro hb|refine yy2 ?_ ?_<;>intro hcmp);all_goals try (first|refine Dj false 44 54 Hu ?_|refine Dj false 50 54 Hu ?_)|apply Ca 54;refine yyp ?_;try refine Ce ?_ ?_<;>intro hb|refine yyp ?_|refine yy ?_|refine yy2 ?_ ?_<;>intro hcmp|apply ah;refine Cc Hu ?_|refine Cb λK hK=>?_|apply Cg 16;refine j0 [] jj0 ?_|apply_assumption -exfalso -symm)
    all_goals try clear ih
    all_goals first
     |(exfalso
       (repeat (rename (∀ S,TC _ _ _ S->_)=>hX;clear hX))
       clear heq hpg hsp;omega)
     |(refine⟨(),?_,v6⟩
       (repeat (rename (∀ S,TC _ _ _ S->_)=>hX;clear hX))
       clear heq hpg hsp;simp_all
       try omega)
     |(refine j1 ?_
       dsimp only[Exit.Oc];rw[Ad (by clear heq hpg hsp;(repeat (rename (∀ S,TC _ _ _ S->_)=>hX;clear hX));simp_all)]at heq;subst heq;refine j7 ?_;rfl)
  ·rw[Af h18]at hdd;rw[Af (λh=>h18 h.1)]at hb';subst hdd;subst hb'
   (repeat' first|refine yyp ?_|refine yy ?_|apply ah;refine Cc Hu ?_|refine Cb λK hK=>?_|apply Cg 16;refine j0 [] jj0 ?_|apply_assumption -exfalso -symm)
   all_goals try clear ih
   all_goals first
    |(exfalso
      (repeat (rename (∀ S,TC _ _ _ S->_)=>hX;clear hX))
      clear heq hpg hsp;omega)
    |(refine⟨(),?_,v6⟩
      (repeat (rename (∀ S,TC _ _ _ S->_)=>hX;clear hX))
      clear heq hpg hsp;simp_all
      done)
 rintro _ hn1;rw[Af hn1]at heq;have hbl:b<=2048:=by
  rw[hb'];split
  ·rename_i h18;have hpos:0<p.spec.body.length:=by have:=hsp h18.1 h18.2;omega
   rw[Qw _ _ _ hpos];have:=Qm p.spec.body[0] (depth+1) (left - 1) false hl0 (by omega);omega
  ·omega
 refine z7 (ι:=Unit) (λ_=>⟨[(9,.d (.int .i64 below)),(2,.d (.int .i64 b)),(4,.d (.ref (jm9 p) 0)),(8,.d (.int .i64 0)),(1,.d (.int .i64 depth)),(3,.d (.bool pl))],[],gl⟩)
  (λ_=>True) ?_ ?_
 ·by_cases h11:p.kind=11
  ·rw[Ad h11]at hbelow;clear hdd;subst hbelow
   (repeat' first|refine yyp ?_|refine yy ?_|apply ah;refine Cc Hu ?_|refine Cb λK hK=>?_|apply Cg 16;refine j0 [] jj0 ?_|apply_assumption -exfalso -symm)
   all_goals first
    |(exfalso
      (repeat (rename (∀ S,TC _ _ _ S->_)=>hX;clear hX))
      omega)
    |(exact⟨(),trivial,v6⟩)
  ·rw[Af h11,<-hdd]at hbelow;clear hdd;subst hbelow
   (repeat' first|refine yyp ?_|refine yy ?_|apply ah;refine Cc Hu ?_|refine Cb λK hK=>?_|apply Cg 16;refine j0 [] jj0 ?_|apply_assumption -exfalso -symm)
   all_goals first
    |(exfalso
      (repeat (rename (∀ S,TC _ _ _ S->_)=>hX;clear hX))
      omega)
    |(exact⟨(),trivial,v6⟩)
 rintro _ _;have hbelow2:0<=below/\below<=34:=by
  rw[hbelow];split
  ·omega
  ·split<;>omega
 clear hbelow hb' hn1 hdd;obtain⟨m,hm⟩:∃ z,z=Jh below b (pl && decide (p.kind=18)) p.l:=⟨_,rfl⟩;rw[<-hm]at heq;have hml:m<=2048:=by
  rw[hm];clear hm heq;generalize p.l=l;generalize (pl && decide (p.kind=18))=q
  induction l generalizing b with
  |nil=>rw[Jh];exact hbl
  |cons x l ihl=>
   rw[Tk];split
   ·omega
   ·exact ihl _ (Int.le_trans (Qm x below b q (by omega) hbl) hbl)
 refine z7 (ι:=Unit) (λ_=>⟨[(2,.d (.int .i64 m)),(4,.d (.ref (jm9 p) 0)),(8,.d (.int .i64 0)),(1,.d (.int .i64 depth))],[],gl⟩)
  (λ_=>True) ?_ ?_
 ·obtain⟨q,hq⟩:∃ q,q=(pl && decide (p.kind=18)):=⟨_,rfl⟩;rw[<-hq]at hm;cases pl<;>by_cases h18:p.kind=18
  all_goals simp only[h18,decide_true,decide_false,Bu,Be,Bf,As]at hq
  all_goals subst hq
  all_goals
   (repeat' first|refine yyp ?_|refine yy ?_|apply ah;refine Cc Hu ?_|refine Cb λK hK=>?_|apply Cg 16;refine j0 [] jj0 ?_|apply_assumption -exfalso -symm)
   refine k9 [2,10,73,74,75,76,77,78,79,80,81,82,83,84,85,86,87,88,89,90,91,92,93,94,95,96,97] [] (λx:Nat × Int=>[(10,.d (.int .i64 x.1)),(2,.d (.int .i64 x.2))]) (λ_=>[]) (λx=>x.1<=p.l.length/\x.2<=2048/\m=Jh below x.2 _ (p.l.drop x.1)) (λx=>p.l.length - x.1) (0,b) ⟨by omega,hbl,hm⟩ λ⟨k,z⟩ ⟨hk,hz1,hmk⟩=>?_;dsimp only[Ac,Ae]at hk hz1 hmk ⊢;by_cases hk2:k<p.l.length
   ·by_cases hz0:0<=z
    ·rw[Bk hk2,Tk,Af (by omega)]at hmk;have hone:=λq=>ih p.l[k] (ru4 (Ao _)) (Rj hka.2.1 _ (Ao _)) below z q hz0 hz1 hbelow2.1 hbelow2.2;have hlf:=λq=>Qm p.l[k] below z q hz0 hz1
     (repeat' first|apply Ca 78;(first|refine yyp ?_;try refine Ce ?_ ?_<;>intro hb|refine yy2 ?_ ?_<;>intro hcmp);all_goals try refine Dj false 78 81 Hu ?_|apply Ca 81;refine yyp ?_;try refine Ce ?_ ?_<;>intro hb|apply Ca 92;refine yyp ?_;try refine Ce ?_ ?_<;>intro hb|refine yyp ?_|refine yy ?_|apply Cf 38;refine Ci (hc:=hone _) ?_|apply ah;refine Cc Hu ?_|refine Cb λK hK=>?_|apply Cg 16;refine j0 [] jj0 ?_|apply_assumption -exfalso -symm)
     all_goals first
      |(exfalso
        (repeat (rename (∀ S,TC _ _ _ S->_)=>hX;clear hX))
        omega)
      |(exact⟨(k+1,_),⟨hk2,Int.le_trans (hlf _) hz1,hmk⟩,by dsimp only;omega,v6⟩)
    ·rw[Qf _ _ _ (by omega)]at hmk;subst hmk
     (repeat' first|apply Ca 78;(first|refine yyp ?_;try refine Ce ?_ ?_<;>intro hb|refine yy2 ?_ ?_<;>intro hcmp);all_goals try refine Dj false 78 81 Hu ?_|apply Ca 81;refine yyp ?_;try refine Ce ?_ ?_<;>intro hb|refine yyp ?_|refine yy ?_|apply ah;refine Cc Hu ?_|refine Cb λK hK=>?_|apply Cg 16;refine j0 [] jj0 ?_|apply_assumption -exfalso -symm)
     all_goals first
      |(exfalso
        (repeat (rename (∀ S,TC _ _ _ S->_)=>hX;clear hX))
        omega)
      |(exact⟨(),trivial,v6⟩)
   ·rw[Bq (by omega),Jh]at hmk;subst hmk
    (repeat' first|apply Ca 78;(first|refine yyp ?_;try refine Ce ?_ ?_<;>intro hb|refine yy2 ?_ ?_<;>intro hcmp);all_goals try refine Dj false 78 81 Hu ?_|refine yyp ?_|refine yy ?_|refine Cb λK hK=>?_|apply Cg 16;refine j0 [] jj0 ?_|apply_assumption -exfalso -symm)
    all_goals first
     |(exfalso
       (repeat (rename (∀ S,TC _ _ _ S->_)=>hX;clear hX))
       omega)
     |(exact⟨(),trivial,v6⟩)
 rintro _ _;clear hm hbelow2 hbl;refine z7 (ι:=Unit) (λ_=>⟨[(2,.d (.int .i64 res)),(4,.d (.ref (jm9 p) 0)),(8,.d (.int .i64 0))],[],gl⟩)
  (λ_=>True) ?_ ?_
 ·(repeat' first|refine yyp ?_|refine yy ?_|apply ah;refine Cc Hu ?_|refine Cb λK hK=>?_|apply Cg 16;refine j0 [] jj0 ?_|apply_assumption -exfalso -symm)
  refine k9 [2,11,98,99,100,101,102,103,104,105,106,107,108,109,110,111,112,113,114,115,116,117,118,119,120] [] (λx:Nat × Int=>[(11,.d (.int .i64 x.1)),(2,.d (.int .i64 x.2))]) (λ_=>[]) (λx=>x.1<=p.ak.length/\x.2<=2048/\res=Kl (depth+2) x.2 (p.ak.drop x.1)) (λx=>p.ak.length - x.1) (0,m) ⟨by omega,hml,heq⟩ λ⟨k,z⟩ ⟨hk,hz1,hmk⟩=>?_;dsimp only[Ac,Ae]at hk hz1 hmk ⊢;by_cases hk2:k<p.ak.length
  ·by_cases hz0:0<=z
   ·have hlen:=hpg p.ak[k] (Ao _);have hpos:0<p.ak[k].body.length:=by omega
    rw[Bk hk2,Wh,Af (by omega),Qw _ _ _ hpos]at hmk;have hone:=ih p.ak[k].body[0] (ru5 (Ao _) (Ao _)) (Rj (Ti hka.1 _ (Ao _)).2 _ (Ao _)) (depth+2) z false hz0 hz1 (by omega) (by omega);have hlf:=Qm p.ak[k].body[0] (depth+2) z false hz0 hz1
    (repeat' first|apply Ca 103;(first|refine yyp ?_;try refine Ce ?_ ?_<;>intro hb|refine yy2 ?_ ?_<;>intro hcmp);all_goals try refine Dj false 103 106 Hu ?_|apply Ca 106;refine yyp ?_;try refine Ce ?_ ?_<;>intro hb|refine yyp ?_|refine yy ?_|apply Cf 38;refine Ci (hc:=hone) ?_|apply ah;refine Cc Hu ?_|refine Cb λK hK=>?_|apply Cg 16;refine j0 [] jj0 ?_|apply_assumption -exfalso -symm)
    all_goals first
     |(exfalso
       (repeat (rename (∀ S,TC _ _ _ S->_)=>hX;clear hX))
       omega)
     |(exact⟨(k+1,_),⟨hk2,Int.le_trans hlf hz1,hmk⟩,by dsimp only;omega,v6⟩)
   ·rw[Nz _ _ (by omega)]at hmk;subst hmk
    (repeat' first|apply Ca 103;(first|refine yyp ?_;try refine Ce ?_ ?_<;>intro hb|refine yy2 ?_ ?_<;>intro hcmp);all_goals try refine Dj false 103 106 Hu ?_|apply Ca 106;refine yyp ?_;try refine Ce ?_ ?_<;>intro hb|refine yyp ?_|refine yy ?_|apply ah;refine Cc Hu ?_|refine Cb λK hK=>?_|apply Cg 16;refine j0 [] jj0 ?_|apply_assumption -exfalso -symm)
    all_goals first
     |(exfalso
       (repeat (rename (∀ S,TC _ _ _ S->_)=>hX;clear hX))
       omega)
     |(exact⟨(),trivial,v6⟩)
  ·rw[Bq (by omega),Kl]at hmk;subst hmk
   (repeat' first|apply Ca 103;(first|refine yyp ?_;try refine Ce ?_ ?_<;>intro hb|refine yy2 ?_ ?_<;>intro hcmp);all_goals try refine Dj false 103 106 Hu ?_|refine yyp ?_|refine yy ?_|refine Cb λK hK=>?_|apply Cg 16;refine j0 [] jj0 ?_|apply_assumption -exfalso -symm)
   all_goals first
    |(exfalso
      (repeat (rename (∀ S,TC _ _ _ S->_)=>hX;clear hX))
      omega)
    |(exact⟨(),trivial,v6⟩)
 rintro _ _
 (repeat' first|refine yyp ?_|refine yy ?_|apply ah;refine Cc Hu ?_|refine Cb λK hK=>?_|apply Cg 16;refine j0 [] jj0 ?_|apply_assumption -exfalso -symm)
 (refine j1 (j7 ?_))
 rfl
theorem rh6:∀ (n:Nat) (p:Pr),SizeOf.sizeOf p<=n->Lx.kPr p->∀ (depth left:Int) (pl:Bool),0<=left->left<=2048->0<=depth->depth<=34->FnD prog gl 38 [.d (dPr p),.d (.int .i64 depth),.d (.int .i64 left),.d (.bool pl)] (λv=>v=.d (.int .i64 (Kr depth left pl p))):=by
 intro n
 induction n with
 |zero=>intro p h;cases p;simp only[Pr.mk.sizeOf_spec]at h;omega
 |succ n ih=>
  intro p hp hk depth left pl h0 h1 h2 h3;exact qd0 gl p depth left pl h0 h1 h2 h3 hk λx hx hkx d l q a1 a2 a3 a4=>ih x (by omega) hkx d l q a1 a2 a3 a4
theorem kt1 (p:Pr)(hk:Lx.kPr p):FnD prog gl 15 [.d (dPr p)] (λv=>v=.d (.bool (Gq p))):=by
 have h:=rh6 gl _ p (Ap _) hk 0 2048 true (by omega) (by omega) (by omega) (by omega);have ha:=Ky p 0 2048 true (by omega) (by omega);unfold Lx.agree at ha;rw[v7]at h ⊢
 (refine j4 func15 ntmps15 results15 λw M=>?_)
 (repeat' first|apply Ca 1;(refine Ck 1 ?_)|refine yyp ?_;try refine Ce ?_ ?_<;>intro hb|refine yy ?_|refine yy2 ?_ ?_<;>intro hcmp|apply Cf 38;refine Ci (hc:=h) ?_|apply ah;refine Cc [0,1,2,3,4,5] ?_|refine Cb λK hK=>?_|apply_assumption -exfalso -symm)
 all_goals
  (refine j1 (j7 ?_))
  simp only[aF,At,Am,Gq]
  (repeat (rename (∀ S,TC _ _ _ S->_)=>hX;clear hX))
  clear h
 ·rw[eq_comm,ha.1];omega
 ·rw[eq_comm,Bool.eq_false_iff];intro e;have:=ha.1.1 e;omega
end
end Go.Proofs.YtklklgfpkpglgaaGreatDoor
