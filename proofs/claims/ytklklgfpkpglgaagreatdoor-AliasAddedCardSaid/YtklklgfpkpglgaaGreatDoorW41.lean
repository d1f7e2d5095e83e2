/- Parts. -/
import Derived.Test.YtklklgfpkpglgaaGreatDoorW40
import Derived.Test.YtklklgfpkpglgaaGreatDoorW21
set_option linter.all false
set_option maxRecDepth 100000
set_option maxHeartbeats 0
namespace Go.Proofs.YtklklgfpkpglgaaGreatDoor
open Go.RowKit Go.Proofs.Tryz Lx
variable (gl:List (Nat × List D))
section
def Mv:List Nat:=[0,1,2,3,4,5,6,7,8,9,10,21,31,32,37,53,70,87,104,118,129,137,160,191,199,206,219,233,249]
attribute [local irreducible] Co Gd Dt Ic Cy Gc Ii Lx.ownB
attribute [local irreducible] TR TC
theorem mx9 (p:Pr)(hkk:∀ g∈p.ak,0<=g.kind)(k:p.kind=11):FnD prog gl 67 [.d (dPr p)] (λv=>v=.d (.bool (Lx.ownB p))):=by
 have t1:=v8 gl p.aj;have t2:=y6 gl p.au;have t3:=x3 gl p.av;have t4:=λa b lo hi=>y4 gl p.ak a b lo hi hkk;have t6:=x9 gl p.name;have t7:=y8 gl p.spec;clear hkk;simp only[k9]at t3;refine jb0 gl p λw M r l0 g0 least most hr hl0 hg0 hlm=>?_;have hown:=jf2 p r l0 g0 least most hr hl0 hg0 hlm;simp only[ko8,ko9,kp0,ko7,k,Int.reduceEq,or_self,or_true,true_or,or_false,false_or,if_true,if_false]at hown;refine z7 (ι:=Bool × Bool × Bool) (λx=>oS gl p .p [(4,.d (.bool x.1)),(8,.d (.bool x.2.1)),(9,.d (.bool x.2.2))]) (λx=>x=(!r && decide (p.ay.length=p.l.length) && (decide (8<p.ay.length) || p.ay.all Lr),Lx.hasB 1 8 p.l.length,g0)) ?_ ?_<;>dsimp only[oS,ozc,prC,exC,jv3,spC,kd9,Ac,Ad]
 ·((repeat' first|apply Cf 46;refine halt ?_|refine yyp ?_|refine yy ?_|apply ah;refine Cc Mv ?_|refine Cb λK hK=>?_|apply_assumption -exfalso -symm);all_goals try refine unhalt ?_)
  (refine x8 (id:=46) ?_;(repeat' first|refine yyp ?_;try refine Ce ?_ ?_<;>intro hb|apply ah;refine Cc Mv ?_))
  apply_assumption -exfalso -symm
  refine yy ?_;refine z7 (ι:=Bool) (λf=>oS gl p .o [(4,.d (.bool f)),(9,.d (.bool g0)),(8,.d (.bool l0)),(5,.d (.bool r))]) (λf=>f=(!r && decide (p.ay.length=p.l.length))) ?_ ?_<;>dsimp only[oS,ozc,prC,exC,jv3,spC,kd9,Ac,Ad]
  ·(repeat' first|apply Ca 141;(first|refine yyp ?_;try refine Ce ?_ ?_<;>intro hb|refine yy2 ?_ ?_<;>intro hcmp);all_goals try refine Dl false 141 4 Mv ?_|refine yyp ?_|refine yy ?_|refine yy2 ?_ ?_<;>intro hcmp|apply ah;refine Cc Mv ?_|refine Cb λK hK=>?_|apply_assumption -exfalso -symm)
   all_goals
    refine⟨_,?_,r9⟩
    (repeat (rename (∀ S,TC _ _ _ S->_)=>hX;clear hX))
    clear t1 t2 t3 t4 t6 t7 hown;clear hl0 hg0 hlm;simp_all
    all_goals (try omega)
  rintro f hf
  (repeat' first|refine yyp ?_|refine yy ?_|apply ah;refine Cc Mv ?_|refine Cb λK hK=>?_|apply_assumption -exfalso -symm)
  refine j9 [4,10,150,151,152,153,154,155,156,157,158,159,160,161,162,163,164,165,166,167,168,169,170,171,172,173,174,175,176,177,178,179] [] (λi:Nat=>[(10,.d (.int .i64 i)),(4,.d (.bool ((p.ay.take i).all Lr && f)))]) (λ_=>[]) (λi=>i<=p.ay.length/\(8<p.ay.length->i=0)) (λi=>p.ay.length - i) 0 ⟨Ai _,λ_=>rfl⟩ λi ⟨hi,hi8⟩=>?_;dsimp only[Ac,Ad];rcases Ah i p.ay.length with hi2|hi2
  ·have hnx:(p.ay.take (i+1)).all Lr=((p.ay.take i).all Lr && Lr p.ay[i]):=by rw[<-jp6 _ _ hi2,List.all_append];simp
   (repeat' first|refine zas [155,164,172,184] ?_;(first|refine yyp ?_;try refine Ce ?_ ?_<;>intro hb|refine yy2 ?_ ?_<;>intro hcmp);all_goals try (first|refine Dl false 155 160 Mv ?_|refine Dl false 164 4 Mv ?_|refine Dl false 172 4 Mv ?_|refine Dl false 184 8 Mv ?_)|apply Ca 160;refine yyp ?_;try refine Ce ?_ ?_<;>intro hb|refine yyp ?_|refine yy ?_|refine yy2 ?_ ?_<;>intro hcmp|apply ah;refine Cc Mv ?_|refine Cb λK hK=>?_|apply_assumption -exfalso -symm)
   all_goals first
    |(refine⟨i+1,⟨by omega,λh=>by omega⟩,by omega,?_⟩
      first
       |(have e:((p.ay.take (i+1)).all Lr && f)=true:=by
          rw[hnx];have hq:Lr p.ay[i]=true:=by unfold Lr;rw[Bm (by omega),Bm (by omega)];rfl
          rw[hq,Bt];assumption
         rw[e];exact r9)
       |(have e:((p.ay.take (i+1)).all Lr && f)=false:=by
          rw[hnx]
          first
           |(have hq:Lr p.ay[i]=false:=by
              unfold Lr
              first
               |(rw[Bn (by omega)];rfl)
               |(rw[Bn (p:=p.ay[i]<8) (by omega),Bc])
             rw[hq,Bc,Ay])
           |(rw[Bool.and_right_comm,hb,Ay])
         rw[e];exact r9))
    |(refine⟨(_,_,_),?_,r9⟩
      (repeat (rename (∀ S,TC _ _ _ S->_)=>hX;clear hX))
      clear t1 t2 t3 t4 t6 t7 hown;clear hl0 hg0 hlm hr;have h8:8<p.ay.length:=by omega
      obtain rfl:i=0:=hi8 h8;simp only[Bj,Lx.hasB,hf,h8,decide_true,Eg,Bt,Fh,List.all_nil,Bf,and_true,true_and]
      first
       |done
       |omega
       |(rw[Bm (by omega),Bm (by omega)];rfl)
       |(rw[Bm (by omega),Bn (by omega)];rfl)
       |(rw[Bn (by omega)];rfl)
       |grind)
  ·obtain rfl:i=p.ay.length:=by omega
   rw[Bk];have h8:¬8<p.ay.length:=λh=>by have:=hi8 h;omega
   (repeat' first|refine zas [155,184] ?_;(first|refine yyp ?_;try refine Ce ?_ ?_<;>intro hb|refine yy2 ?_ ?_<;>intro hcmp);all_goals try (first|refine Dl false 155 160 Mv ?_|refine Dl false 184 8 Mv ?_)|refine yyp ?_|refine yy ?_|refine yy2 ?_ ?_<;>intro hcmp|apply ah;refine Cc Mv ?_|refine Cb λK hK=>?_|apply_assumption -exfalso -symm)
   all_goals first
    |(refine⟨(_,_,_),?_,r9⟩
      (repeat (rename (∀ S,TC _ _ _ S->_)=>hX;clear hX))
      clear t1 t2 t3 t4 t6 t7 hown;clear hl0 hg0 hlm hr;have ea:(p.ay.all Lr && f)=(!r && decide (p.ay.length=p.l.length) && (decide (8<p.ay.length) || p.ay.all Lr)):=by
       rw[hf,Bn h8,Ef,Bool.and_comm]
      simp only[Bj,Lx.hasB,ea,and_true,true_and]
      first
       |done
       |omega
       |(rw[Bm (by omega),Bm (by omega)];rfl)
       |(rw[Bm (by omega),Bn (by omega)];rfl)
       |(rw[Bn (by omega)];rfl)
       |grind)
 rintro⟨fine,parts,choices⟩ hx;simp only[Bj]at hx;obtain⟨rfl,rfl,rfl⟩:=hx;exact jb1 gl p w M .p _ _ _ hown
end
section
def Tv:List Nat:=[0,1,2,3,4,5,6,7,8,9,10,21,31,32,37,53,70,87,104,118,129,137,160,191,199,206,219,233,249]
attribute [local irreducible] Co Gd Dt Ic Cy Gc Ii Lx.ownB
attribute [local irreducible] TR TC
theorem my0 (p:Pr)(hkk:∀ g∈p.ak,0<=g.kind)(k:p.kind=14):FnD prog gl 67 [.d (dPr p)] (λv=>v=.d (.bool (Lx.ownB p))):=by
 have t1:=v8 gl p.aj;have t2:=y6 gl p.au;have t3:=x3 gl p.av;have t4:=λa b lo hi=>y4 gl p.ak a b lo hi hkk;have t6:=x9 gl p.name;have t7:=y8 gl p.spec;clear hkk;simp only[k9]at t3;refine jb0 gl p λw M r l0 g0 least most hr hl0 hg0 hlm=>?_;have hown:=jf2 p r l0 g0 least most hr hl0 hg0 hlm;simp only[ko8,ko9,kp0,ko7,k,Int.reduceEq,or_self,or_true,true_or,or_false,false_or,if_true,if_false]at hown;refine z7 (ι:=Bool × Bool × Bool) (λx=>oS gl p .o [(4,.d (.bool x.1)),(8,.d (.bool x.2.1)),(9,.d (.bool x.2.2))]) (λx=>x=(true,l0,Dt p.ak least most 1 1)) ?_ ?_<;>dsimp only[oS,ozc,prC,exC,jv3,spC,kd9,Ac,Ad]
 ·(repeat' first|refine yyp ?_|refine yy ?_|apply Cg 111;refine Ci (hc:=(t4 _ _ _ _)) ?_|apply ah;refine Cc Tv ?_|refine Cb λK hK=>?_|apply_assumption -exfalso -symm)
  all_goals
   refine⟨(_,_,_),?_,r9⟩
   (repeat (rename (∀ S,TC _ _ _ S->_)=>hX;clear hX))
   clear t1 t2 t3 t4 t6 t7 hown;clear hr hlm hl0 hg0;simp only[Bj,Lx.hasB]at *
   all_goals (try simp_all)
   all_goals (try omega)
   all_goals (try (cases r<;>first|rfl|(simp;omega)|omega))
 rintro⟨fine,parts,choices⟩ hx;simp only[Bj]at hx;obtain⟨rfl,rfl,rfl⟩:=hx;exact jb1 gl p w M .o _ _ _ hown
theorem my1 (p:Pr)(hkk:∀ g∈p.ak,0<=g.kind)(k:p.kind=15):FnD prog gl 67 [.d (dPr p)] (λv=>v=.d (.bool (Lx.ownB p))):=by
 have t1:=v8 gl p.aj;have t2:=y6 gl p.au;have t3:=x3 gl p.av;have t4:=λa b lo hi=>y4 gl p.ak a b lo hi hkk;have t6:=x9 gl p.name;have t7:=y8 gl p.spec;clear hkk;simp only[k9]at t3;refine jb0 gl p λw M r l0 g0 least most hr hl0 hg0 hlm=>?_;have hown:=jf2 p r l0 g0 least most hr hl0 hg0 hlm;simp only[ko8,ko9,kp0,ko7,k,Int.reduceEq,or_self,or_true,true_or,or_false,false_or,if_true,if_false]at hown;refine z7 (ι:=Bool × Bool × Bool) (λx=>oS gl p .e [(4,.d (.bool x.1)),(8,.d (.bool x.2.1)),(9,.d (.bool x.2.2))]) (λx=>x=(!r && Co p.au 1 1 Gc,l0,Dt p.ak 0 16 5 6)) ?_ ?_<;>dsimp only[oS,ozc,prC,exC,jv3,spC,kd9,Ac,Ad]
 ·(repeat' first|apply Ca 210;(first|refine yyp ?_;try refine Ce ?_ ?_<;>intro hb|refine yy2 ?_ ?_<;>intro hcmp);all_goals try refine Dl false 210 4 Tv ?_|refine yyp ?_|refine yy ?_|apply Cg 109;refine Ci (hc:=(t2 _ _)) ?_|apply Cg 111;refine Ci (hc:=(t4 _ _ _ _)) ?_|apply ah;refine Cc Tv ?_|refine Cb λK hK=>?_|apply_assumption -exfalso -symm)
  all_goals
   refine⟨(_,_,_),?_,r9⟩
   (repeat (rename (∀ S,TC _ _ _ S->_)=>hX;clear hX))
   clear t1 t2 t3 t4 t6 t7 hown;clear hr hlm hl0 hg0;simp only[Bj,Lx.hasB]at *
   all_goals (try simp_all)
   all_goals (try omega)
   all_goals (try (cases r<;>first|rfl|(simp;omega)|omega))
 rintro⟨fine,parts,choices⟩ hx;simp only[Bj]at hx;obtain⟨rfl,rfl,rfl⟩:=hx;exact jb1 gl p w M .e _ _ _ hown
theorem my2 (p:Pr)(hkk:∀ g∈p.ak,0<=g.kind)(k:p.kind=16):FnD prog gl 67 [.d (dPr p)] (λv=>v=.d (.bool (Lx.ownB p))):=by
 have t1:=v8 gl p.aj;have t2:=y6 gl p.au;have t3:=x3 gl p.av;have t4:=λa b lo hi=>y4 gl p.ak a b lo hi hkk;have t6:=x9 gl p.name;have t7:=y8 gl p.spec;clear hkk;simp only[k9]at t3;refine jb0 gl p λw M r l0 g0 least most hr hl0 hg0 hlm=>?_;have hown:=jf2 p r l0 g0 least most hr hl0 hg0 hlm;simp only[ko8,ko9,kp0,ko7,k,Int.reduceEq,or_self,or_true,true_or,or_false,false_or,if_true,if_false]at hown;refine z7 (ι:=Bool × Bool × Bool) (λx=>oS gl p .e [(4,.d (.bool x.1)),(8,.d (.bool x.2.1)),(9,.d (.bool x.2.2))]) (λx=>x=(!r && Co p.au 1 1 Gc,decide (p.l.length=1),g0)) ?_ ?_<;>dsimp only[oS,ozc,prC,exC,jv3,spC,kd9,Ac,Ad]
 ·(repeat' first|apply Ca 223;(first|refine yyp ?_;try refine Ce ?_ ?_<;>intro hb|refine yy2 ?_ ?_<;>intro hcmp);all_goals try refine Dl false 223 4 Tv ?_|refine yyp ?_|refine yy ?_|refine yy2 ?_ ?_<;>intro hcmp|apply Cg 109;refine Ci (hc:=(t2 _ _)) ?_|apply ah;refine Cc Tv ?_|refine Cb λK hK=>?_|apply_assumption -exfalso -symm)
  all_goals
   refine⟨(_,_,_),?_,r9⟩
   (repeat (rename (∀ S,TC _ _ _ S->_)=>hX;clear hX))
   clear t1 t2 t3 t4 t6 t7 hown;clear hr hlm hl0 hg0;simp only[Bj,Lx.hasB]at *
   all_goals (try simp_all)
   all_goals (try omega)
   all_goals (try (cases r<;>first|rfl|(simp;omega)|omega))
 rintro⟨fine,parts,choices⟩ hx;simp only[Bj]at hx;obtain⟨rfl,rfl,rfl⟩:=hx;exact jb1 gl p w M .e _ _ _ hown
end
section
def Sv:List Nat:=[0,1,2,3,4,5,6,7,8,9,10,21,31,32,37,53,70,87,104,118,129,137,160,191,199,206,219,233,249]
attribute [local irreducible] Co Gd Dt Ic Cy Gc Ii Lx.ownB
attribute [local irreducible] TR TC
theorem my3 (p:Pr)(hkk:∀ g∈p.ak,0<=g.kind)(k:p.kind=17):FnD prog gl 67 [.d (dPr p)] (λv=>v=.d (.bool (Lx.ownB p))):=by
 have t1:=v8 gl p.aj;have t2:=y6 gl p.au;have t3:=x3 gl p.av;have t4:=λa b lo hi=>y4 gl p.ak a b lo hi hkk;have t6:=x9 gl p.name;have t7:=y8 gl p.spec;clear hkk;simp only[k9]at t3;refine jb0 gl p λw M r l0 g0 least most hr hl0 hg0 hlm=>?_;have hown:=jf2 p r l0 g0 least most hr hl0 hg0 hlm;simp only[ko8,ko9,kp0,ko7,k,Int.reduceEq,or_self,or_true,true_or,or_false,false_or,if_true,if_false]at hown;refine z7 (ι:=Bool × Bool × Bool) (λx=>oS gl p .ne [(4,.d (.bool x.1)),(8,.d (.bool x.2.1)),(9,.d (.bool x.2.2))]) (λx=>x=(!r && Cy p.name && Co p.au 0 8 Gc,l0,g0)) ?_ ?_<;>dsimp only[oS,ozc,prC,exC,jv3,spC,kd9,Ac,Ad]
 ·(repeat' first|refine zas [237,242] ?_;(first|refine yyp ?_;try refine Ce ?_ ?_<;>intro hb|refine yy2 ?_ ?_<;>intro hcmp);all_goals try (first|refine Dl false 237 4 Sv ?_|refine Dl false 242 4 Sv ?_)|refine yyp ?_|refine yy ?_|apply Cg 112;refine Ci (hc:=t6) ?_|apply Cg 109;refine Ci (hc:=(t2 _ _)) ?_|apply ah;refine Cc Sv ?_|refine Cb λK hK=>?_|apply_assumption -exfalso -symm)
  all_goals
   refine⟨(_,_,_),?_,r9⟩
   (repeat (rename (∀ S,TC _ _ _ S->_)=>hX;clear hX))
   clear t1 t2 t3 t4 t6 t7 hown;clear hr hlm hl0 hg0;simp only[Bj,Lx.hasB]at *
   all_goals (try simp_all)
   all_goals (try omega)
   all_goals (try (cases r<;>first|rfl|(simp;omega)|omega))
 rintro⟨fine,parts,choices⟩ hx;simp only[Bj]at hx;obtain⟨rfl,rfl,rfl⟩:=hx;exact jb1 gl p w M .ne _ _ _ hown
theorem my4 (p:Pr)(hkk:∀ g∈p.ak,0<=g.kind)(k:p.kind=18):FnD prog gl 67 [.d (dPr p)] (λv=>v=.d (.bool (Lx.ownB p))):=by
 have t1:=v8 gl p.aj;have t2:=y6 gl p.au;have t3:=x3 gl p.av;have t4:=λa b lo hi=>y4 gl p.ak a b lo hi hkk;have t6:=x9 gl p.name;have t7:=y8 gl p.spec;clear hkk;simp only[k9]at t3;refine jb0 gl p λw M r l0 g0 least most hr hl0 hg0 hlm=>?_;have hown:=jf2 p r l0 g0 least most hr hl0 hg0 hlm;simp only[ko8,ko9,kp0,ko7,k,Int.reduceEq,or_self,or_true,true_or,or_false,false_or,if_true,if_false]at hown;refine z7 (ι:=Bool × Bool × Bool) (λx=>oS gl p .s [(4,.d (.bool x.1)),(8,.d (.bool x.2.1)),(9,.d (.bool x.2.2))]) (λx=>x=(!r && Ic p.spec,decide (p.l.length=1),g0)) ?_ ?_<;>dsimp only[oS,ozc,prC,exC,jv3,spC,kd9,Ac,Ad]
 ·(repeat' first|apply Ca 253;(first|refine yyp ?_;try refine Ce ?_ ?_<;>intro hb|refine yy2 ?_ ?_<;>intro hcmp);all_goals try refine Dl false 253 4 Sv ?_|apply Ca 262;refine z_p Cq ?_|refine yyp ?_|refine yy ?_|refine yy2 ?_ ?_<;>intro hcmp|apply Cg 113;refine Ci (hc:=t7) ?_|apply ah;refine Cc Sv ?_|refine Cb λK hK=>?_|apply_assumption -exfalso -symm)
  all_goals
   refine⟨(_,_,_),?_,r9⟩
   (repeat (rename (∀ S,TC _ _ _ S->_)=>hX;clear hX))
   clear t1 t2 t3 t4 t6 t7 hown;clear hr hlm hl0 hg0;simp only[Bj,Lx.hasB]at *
   all_goals (try simp_all)
   all_goals (try omega)
   all_goals (try (cases r<;>first|rfl|(simp;omega)|omega))
 rintro⟨fine,parts,choices⟩ hx;simp only[Bj]at hx;obtain⟨rfl,rfl,rfl⟩:=hx;exact jb1 gl p w M .s _ _ _ hown
theorem ql4 (p:Pr)(hkk:∀ g∈p.ak,0<=g.kind)(k:p.kind≠1/\p.kind≠2/\p.kind≠3/\p.kind≠4/\p.kind≠5/\p.kind≠6/\p.kind≠7/\p.kind≠8/\p.kind≠9/\p.kind≠10/\p.kind≠11/\p.kind≠12/\p.kind≠13/\p.kind≠14/\p.kind≠15/\p.kind≠16/\p.kind≠17/\p.kind≠18):FnD prog gl 67 [.d (dPr p)] (λv=>v=.d (.bool (Lx.ownB p))):=by
 have t1:=v8 gl p.aj;have t2:=y6 gl p.au;have t3:=x3 gl p.av;have t4:=λa b lo hi=>y4 gl p.ak a b lo hi hkk;have t6:=x9 gl p.name;have t7:=y8 gl p.spec;clear hkk;simp only[k9]at t3;refine jb0 gl p λw M r l0 g0 least most hr hl0 hg0 hlm=>?_;have hown:=jf2 p r l0 g0 least most hr hl0 hg0 hlm;simp only[ko8,ko9,kp0,ko7,k,Int.reduceEq,or_self,or_true,true_or,or_false,false_or,if_true,if_false]at hown;refine z7 (ι:=Bool × Bool × Bool) (λx=>oS gl p .o [(4,.d (.bool x.1)),(8,.d (.bool x.2.1)),(9,.d (.bool x.2.2))]) (λx=>x=(false,l0,g0)) ?_ ?_<;>dsimp only[oS,ozc,prC,exC,jv3,spC,kd9,Ac,Ad]
 ·(repeat' first|refine yyp ?_|refine yy ?_|apply ah;refine Cc Sv ?_|refine Cb λK hK=>?_|apply_assumption -exfalso -symm)
  all_goals
   refine⟨(_,_,_),?_,r9⟩
   (repeat (rename (∀ S,TC _ _ _ S->_)=>hX;clear hX))
   clear t1 t2 t3 t4 t6 t7 hown;clear hr hlm hl0 hg0;simp only[Bj,Lx.hasB]at *
   all_goals (try simp_all)
   all_goals (try omega)
   all_goals (try (cases r<;>first|rfl|(simp;omega)|omega))
 rintro⟨fine,parts,choices⟩ hx;simp only[Bj]at hx;obtain⟨rfl,rfl,rfl⟩:=hx;exact jb1 gl p w M .o _ _ _ hown
end
section
theorem ql5 (p:Pr)(hkk:∀ g∈p.ak,0<=g.kind):FnD prog gl 67 [.d (dPr p)] (λv=>v=.d (.bool (Lx.ownB p))):=by
 by_cases h1:p.kind=1
 ·exact qk5 gl p hkk h1
 by_cases h2:p.kind=2
 ·exact qk6 gl p hkk h2
 by_cases h3:p.kind=3
 ·exact qk7 gl p hkk h3
 by_cases h4:p.kind=4
 ·exact qk8 gl p hkk h4
 by_cases h5:p.kind=5
 ·exact qk9 gl p hkk h5
 by_cases h6:p.kind=6
 ·exact ql0 gl p hkk h6
 by_cases h7:p.kind=7
 ·exact ql1 gl p hkk h7
 by_cases h8:p.kind=8
 ·exact ql2 gl p hkk h8
 by_cases h9:p.kind=9
 ·exact ql3 gl p hkk h9
 by_cases h10:p.kind=10
 ·exact mx6 gl p hkk h10
 by_cases h11:p.kind=11
 ·exact mx9 gl p hkk h11
 by_cases h12:p.kind=12
 ·exact mx7 gl p hkk h12
 by_cases h13:p.kind=13
 ·exact mx8 gl p hkk h13
 by_cases h14:p.kind=14
 ·exact my0 gl p hkk h14
 by_cases h15:p.kind=15
 ·exact my1 gl p hkk h15
 by_cases h16:p.kind=16
 ·exact my2 gl p hkk h16
 by_cases h17:p.kind=17
 ·exact my3 gl p hkk h17
 by_cases h18:p.kind=18
 ·exact my4 gl p hkk h18
 exact ql4 gl p hkk ⟨h1,h2,h3,h4,h5,h6,h7,h8,h9,h10,h11,h12,h13,h14,h15,h16,h17,h18⟩
end
section
def Ih:List Nat:=[0,1,2,3,4,8,9,10,11,31,38,54,58,70,81,106]
def jj9:Plan:=lin [0,8,20,24,28,32,36,5,12,17,41,44,48,54,56]
attribute [local irreducible] TR TC
theorem my5 (p:Pr)(depth left:Int)(pl:Bool)(h0:0<=left)(h1:left<=2048)(hd0:0<=depth)(hd1:depth<=34)(hkp:Lx.kPr p)
 (ih:∀ x:Pr,SizeOf.sizeOf x<SizeOf.sizeOf p->Lx.kPr x->∀ (d l:Int) (q:Bool),0<=l->l<=2048->0<=d->d<=34->FnD prog gl 38 [.d (dPr x),.d (.int .i64 d),.d (.int .i64 l),.d (.bool q)] (λv=>v=.d (.int .i64 (Kv d l q x)))):
 FnD prog gl 38 [.d (dPr p),.d (.int .i64 depth),.d (.int .i64 left),.d (.bool pl)] (λv=>v=.d (.int .i64 (Kv depth left pl p))):=by
 have hka:=Lx.kPr_at hkp;have q1:=ql5 gl p λg hg=>(Tk hka.1 g hg).1;have heq:=Xm depth left pl p;have hpg:=Po p;have hsp:=Xy p;generalize Kv depth left pl p=res at heq ⊢;rw[v6]at q1 ⊢;simp only[v6]at ih
 (refine j5 func38 ntmps38 results38 λw M=>?_)
 refine x4 0 24 rfl rfl λhnl=>?_;refine x4 0 23 rfl rfl λhng=>?_;simp only[Aa]at hnl hng;refine Cb λK0 k0=>?_
 (refine x8 (id:=0) ?_;(repeat' first|apply Ca 4;(refine Cm 4 ?_)|refine yyp ?_;try refine Ce ?_ ?_<;>intro hb|apply ah;refine Cc Ih ?_))
 refine k0 _ ?_;refine jp3 (t:=4) (env':=[(8,.d (.int .i64 0)),(1,.d (.int .i64 depth)),(2,.d (.int .i64 left)),(3,.d (.bool pl))]) (H':=[]) rfl rfl (by repeat (first|exact .nil|apply Frz.cons (.d _))) rfl (by(repeat (first|exact Sub.nil|apply Sub.cons rfl));fail_if_success intros) (by(repeat (first|exact Sub.nil|apply Sub.cons rfl));fail_if_success intros) rfl rfl ?_;refine z7 (ι:=Unit) (λ_=>⟨[(4,.d (.ref (kd1 p) 0)),(8,.d (.int .i64 0)),(1,.d (.int .i64 depth)),(2,.d (.int .i64 left)),(3,.d (.bool pl))],[],gl⟩)
  (λ_=>¬(32<depth\/left=0\/Lx.ownB p=false\/(p.kind=11/\pl=false))) ?_ ?_
 ·(repeat' first|refine zas [14,18,23] ?_;(first|refine yyp ?_;try refine Ce ?_ ?_<;>intro hb|refine yy2 ?_ ?_<;>intro hcmp);all_goals try (first|refine Dl true 14 31 Ih ?_|refine Dl true 18 31 Ih ?_|refine Dl true 23 31 Ih ?_)|apply Ca 27;refine yyp ?_;try refine Ce ?_ ?_<;>intro hb|apply Ca 31;refine yyp ?_;try refine Ce ?_ ?_<;>intro hb|refine yyp ?_|refine yy ?_|refine yy2 ?_ ?_<;>intro hcmp|apply Cg 67;refine Ci (hc:=q1) ?_|apply ah;refine Cc Ih ?_|refine Cb λK hK=>?_|apply Cf 16;refine j0 [] jj9 ?_|apply_assumption -exfalso -symm)
  all_goals clear ih q1
  all_goals first
   |(refine j1 ?_
     dsimp only[Exit.Mk];rw[Ae (by clear heq hpg hsp;(repeat (rename (∀ S,TC _ _ _ S->_)=>hX;clear hX));simp_all)]at heq;subst heq;refine j8 ?_;rfl)
   |(refine⟨(),?_,r9⟩
     (repeat (rename (∀ S,TC _ _ _ S->_)=>hX;clear hX))
     clear heq hpg hsp;simp_all
     try omega)
 rintro _ hok;rw[Af hok]at heq;have hown:Lx.ownB p=true:=by cases h:Lx.ownB p with|true=>rfl|false=>exact absurd (.inr (.inr (.inl h))) hok
 have hpg:=hpg hown;have hsp:=hsp hown;have hl0:0<=left - 1:=by omega
 have hd2:depth<=32:=by omega
 clear q1 hok;rw[mc6];obtain⟨d1,hdd⟩:∃ z,z=if p.kind=18 then depth else depth+1:=⟨_,rfl⟩;obtain⟨below,hbelow⟩:∃ z,z=if p.kind=11 then depth+2 else if p.kind=18 then depth else depth+1:=⟨_,rfl⟩;obtain⟨b,hb'⟩:∃ z,z=if p.kind=18/\p.spec.kind=5 then Jb (depth+1) (left - 1) p.spec.body else left - 1:=⟨_,rfl⟩;rw[<-hbelow,<-hb']at heq;refine Cb λK3 k3=>?_
 (refine x8 (id:=3) ?_;(repeat' first|refine yyp ?_;try refine Ce ?_ ?_<;>intro hb|apply ah;refine Cc Ih ?_))
 refine k3 _ ?_;refine Cb λK4 k4=>?_
 (refine x8 (id:=4) ?_;(repeat' first|refine yyp ?_;try refine Ce ?_ ?_<;>intro hb|apply ah;refine Cc Ih ?_))
 refine k4 _ ?_;refine z7 (ι:=Unit) (λ_=>⟨[(9,.d (.int .i64 d1)),(2,.d (.int .i64 b)),(4,.d (.ref (jo0 p) 0)),(8,.d (.int .i64 0)),(1,.d (.int .i64 depth)),(3,.d (.bool pl))],[],gl⟩)
  (λ_=>¬(p.kind=18/\p.spec.kind=4/\p.spec.aN.cases=true/\32<depth+2)) ?_ ?_
 ·by_cases h18:p.kind=18
  ·rw[Ae h18]at hdd
   replace hdd:=hdd.symm
   subst hdd;by_cases h5:p.spec.kind=5
   ·have hpos:0<p.spec.body.length:=by have:=hsp h18 h5;omega
    have hih:=ih p.spec.body[0] (rk9 (At _)) (Rs hka.2.2 _ (At _)) (depth+1) (left - 1) false (by omega) (by omega) (by omega) (by omega);rw[Ae ⟨h18,h5⟩,Rj _ _ _ hpos]at hb';subst hb'
    (repeat' first|apply Ca 44;(first|refine yyp ?_;try refine Ce ?_ ?_<;>intro hb|refine yy2 ?_ ?_<;>intro hcmp);all_goals try refine Dl false 44 54 Ih ?_|refine yyp ?_|refine yy ?_|apply Cg 38;refine Ci (hc:=hih) ?_|apply ah;refine Cc Ih ?_|refine Cb λK hK=>?_|apply Cf 16;refine j0 [] jj9 ?_|apply_assumption -exfalso -symm)
    all_goals try clear ih
    all_goals try clear hih
    all_goals first
     |(exfalso
       (repeat (rename (∀ S,TC _ _ _ S->_)=>hX;clear hX))
       clear heq hpg hsp;omega)
     |(refine⟨(),?_,r9⟩
       (repeat (rename (∀ S,TC _ _ _ S->_)=>hX;clear hX))
       clear heq hpg hsp;simp_all
       try omega)
     |(refine j1 ?_
       dsimp only[Exit.Mk];rw[Ae (by clear heq hpg hsp;(repeat (rename (∀ S,TC _ _ _ S->_)=>hX;clear hX));simp_all)]at heq;subst heq;refine j8 ?_;rfl)
   ·rw[Af (λh=>h5 h.2)]at hb';subst hb'
    (repeat' first|refine zas [44,50] ?_;(first|refine yyp ?_;try refine Ce ?_ ?_<;>intro hb|refine yy2 ?_ ?_<;>intro hcmp);all_goals try (first|refine Dl false 44 54 Ih ?_|refine Dl false 50 54 Ih ?_)|apply Ca 54;refine yyp ?_;try refine Ce ?_ ?_<;>intro hb|refine yyp ?_|refine yy ?_|refine yy2 ?_ ?_<;>intro hcmp|apply ah;refine Cc Ih ?_|refine Cb λK hK=>?_|apply Cf 16;refine j0 [] jj9 ?_|apply_assumption -exfalso -symm)
    all_goals try clear ih
    all_goals first
     |(exfalso
       (repeat (rename (∀ S,TC _ _ _ S->_)=>hX;clear hX))
       clear heq hpg hsp;omega)
     |(refine⟨(),?_,r9⟩
       (repeat (rename (∀ S,TC _ _ _ S->_)=>hX;clear hX))
       clear heq hpg hsp;simp_all
       try omega)
     |(refine j1 ?_
       dsimp only[Exit.Mk];rw[Ae (by clear heq hpg hsp;(repeat (rename (∀ S,TC _ _ _ S->_)=>hX;clear hX));simp_all)]at heq;subst heq;refine j8 ?_;rfl)
  ·rw[Af h18]at hdd;rw[Af (λh=>h18 h.1)]at hb';subst hdd;subst hb'
   (repeat' first|refine yyp ?_|refine yy ?_|apply ah;refine Cc Ih ?_|refine Cb λK hK=>?_|apply Cf 16;refine j0 [] jj9 ?_|apply_assumption -exfalso -symm)
   all_goals try clear ih
   all_goals first
    |(exfalso
      (repeat (rename (∀ S,TC _ _ _ S->_)=>hX;clear hX))
      clear heq hpg hsp;omega)
    |(refine⟨(),?_,r9⟩
      (repeat (rename (∀ S,TC _ _ _ S->_)=>hX;clear hX))
      clear heq hpg hsp;simp_all
      done)
 rintro _ hn1;rw[Af hn1]at heq;have hbl:b<=2048:=by
  rw[hb'];split
  ·rename_i h18;have hpos:0<p.spec.body.length:=by have:=hsp h18.1 h18.2;omega
   rw[Rj _ _ _ hpos];have:=Qz p.spec.body[0] (depth+1) (left - 1) false hl0 (by omega);omega
  ·omega
 refine z7 (ι:=Unit) (λ_=>⟨[(9,.d (.int .i64 below)),(2,.d (.int .i64 b)),(4,.d (.ref (jo0 p) 0)),(8,.d (.int .i64 0)),(1,.d (.int .i64 depth)),(3,.d (.bool pl))],[],gl⟩)
  (λ_=>True) ?_ ?_
 ·by_cases h11:p.kind=11
  ·rw[Ae h11]at hbelow;clear hdd;subst hbelow
   (repeat' first|refine yyp ?_|refine yy ?_|apply ah;refine Cc Ih ?_|refine Cb λK hK=>?_|apply Cf 16;refine j0 [] jj9 ?_|apply_assumption -exfalso -symm)
   all_goals first
    |(exfalso
      (repeat (rename (∀ S,TC _ _ _ S->_)=>hX;clear hX))
      omega)
    |(exact⟨(),trivial,r9⟩)
  ·rw[Af h11,<-hdd]at hbelow;clear hdd;subst hbelow
   (repeat' first|refine yyp ?_|refine yy ?_|apply ah;refine Cc Ih ?_|refine Cb λK hK=>?_|apply Cf 16;refine j0 [] jj9 ?_|apply_assumption -exfalso -symm)
   all_goals first
    |(exfalso
      (repeat (rename (∀ S,TC _ _ _ S->_)=>hX;clear hX))
      omega)
    |(exact⟨(),trivial,r9⟩)
 rintro _ _;have hbelow2:0<=below/\below<=34:=by
  rw[hbelow];split
  ·omega
  ·split<;>omega
 clear hbelow hb' hn1 hdd;obtain⟨m,hm⟩:∃ z,z=Ji below b (pl && decide (p.kind=18)) p.l:=⟨_,rfl⟩;rw[<-hm]at heq;have hml:m<=2048:=by
  rw[hm];clear hm heq;generalize p.l=l;generalize (pl && decide (p.kind=18))=q
  induction l generalizing b with
  |nil=>rw[Ji];exact hbl
  |cons x l ihl=>
   rw[Tm];split
   ·omega
   ·exact ihl _ (Int.le_trans (Qz x below b q (by omega) hbl) hbl)
 refine z7 (ι:=Unit) (λ_=>⟨[(2,.d (.int .i64 m)),(4,.d (.ref (jo0 p) 0)),(8,.d (.int .i64 0)),(1,.d (.int .i64 depth))],[],gl⟩)
  (λ_=>True) ?_ ?_
 ·obtain⟨q,hq⟩:∃ q,q=(pl && decide (p.kind=18)):=⟨_,rfl⟩;rw[<-hq]at hm;cases pl<;>by_cases h18:p.kind=18
  all_goals simp only[h18,decide_true,decide_false,Bt,Bc,Bf,Ay]at hq
  all_goals subst hq
  all_goals
   (repeat' first|refine yyp ?_|refine yy ?_|apply ah;refine Cc Ih ?_|refine Cb λK hK=>?_|apply Cf 16;refine j0 [] jj9 ?_|apply_assumption -exfalso -symm)
   refine j9 [2,10,73,74,75,76,77,78,79,80,81,82,83,84,85,86,87,88,89,90,91,92,93,94,95,96,97] [] (λx:Nat × Int=>[(10,.d (.int .i64 x.1)),(2,.d (.int .i64 x.2))]) (λ_=>[]) (λx=>x.1<=p.l.length/\x.2<=2048/\m=Ji below x.2 _ (p.l.drop x.1)) (λx=>p.l.length - x.1) (0,b) ⟨by omega,hbl,hm⟩ λ⟨k,z⟩ ⟨hk,hz1,hmk⟩=>?_;dsimp only[Ac,Ad]at hk hz1 hmk ⊢;by_cases hk2:k<p.l.length
   ·by_cases hz0:0<=z
    ·rw[Bo hk2,Tm,Af (by omega)]at hmk;have hone:=λq=>ih p.l[k] (rk7 (At _)) (Rs hka.2.1 _ (At _)) below z q hz0 hz1 hbelow2.1 hbelow2.2;have hlf:=λq=>Qz p.l[k] below z q hz0 hz1
     (repeat' first|apply Ca 78;(first|refine yyp ?_;try refine Ce ?_ ?_<;>intro hb|refine yy2 ?_ ?_<;>intro hcmp);all_goals try refine Dl false 78 81 Ih ?_|apply Ca 81;refine yyp ?_;try refine Ce ?_ ?_<;>intro hb|apply Ca 92;refine yyp ?_;try refine Ce ?_ ?_<;>intro hb|refine yyp ?_|refine yy ?_|apply Cg 38;refine Ci (hc:=hone _) ?_|apply ah;refine Cc Ih ?_|refine Cb λK hK=>?_|apply Cf 16;refine j0 [] jj9 ?_|apply_assumption -exfalso -symm)
     all_goals first
      |(exfalso
        (repeat (rename (∀ S,TC _ _ _ S->_)=>hX;clear hX))
        omega)
      |(exact⟨(k+1,_),⟨hk2,Int.le_trans (hlf _) hz1,hmk⟩,by dsimp only;omega,r9⟩)
    ·rw[Qq _ _ _ (by omega)]at hmk;subst hmk
     (repeat' first|apply Ca 78;(first|refine yyp ?_;try refine Ce ?_ ?_<;>intro hb|refine yy2 ?_ ?_<;>intro hcmp);all_goals try refine Dl false 78 81 Ih ?_|apply Ca 81;refine yyp ?_;try refine Ce ?_ ?_<;>intro hb|refine yyp ?_|refine yy ?_|apply ah;refine Cc Ih ?_|refine Cb λK hK=>?_|apply Cf 16;refine j0 [] jj9 ?_|apply_assumption -exfalso -symm)
     all_goals first
      |(exfalso
        (repeat (rename (∀ S,TC _ _ _ S->_)=>hX;clear hX))
        omega)
      |(exact⟨(),trivial,r9⟩)
   ·rw[Br (by omega),Ji]at hmk;subst hmk
    (repeat' first|apply Ca 78;(first|refine yyp ?_;try refine Ce ?_ ?_<;>intro hb|refine yy2 ?_ ?_<;>intro hcmp);all_goals try refine Dl false 78 81 Ih ?_|refine yyp ?_|refine yy ?_|refine Cb λK hK=>?_|apply Cf 16;refine j0 [] jj9 ?_|apply_assumption -exfalso -symm)
    all_goals first
     |(exfalso
       (repeat (rename (∀ S,TC _ _ _ S->_)=>hX;clear hX))
       omega)
     |(exact⟨(),trivial,r9⟩)
 rintro _ _;clear hm hbelow2 hbl;refine z7 (ι:=Unit) (λ_=>⟨[(2,.d (.int .i64 res)),(4,.d (.ref (jo0 p) 0)),(8,.d (.int .i64 0))],[],gl⟩)
  (λ_=>True) ?_ ?_
 ·(repeat' first|refine yyp ?_|refine yy ?_|apply ah;refine Cc Ih ?_|refine Cb λK hK=>?_|apply Cf 16;refine j0 [] jj9 ?_|apply_assumption -exfalso -symm)
  refine j9 [2,11,98,99,100,101,102,103,104,105,106,107,108,109,110,111,112,113,114,115,116,117,118,119,120] [] (λx:Nat × Int=>[(11,.d (.int .i64 x.1)),(2,.d (.int .i64 x.2))]) (λ_=>[]) (λx=>x.1<=p.ak.length/\x.2<=2048/\res=Ko (depth+2) x.2 (p.ak.drop x.1)) (λx=>p.ak.length - x.1) (0,m) ⟨by omega,hml,heq⟩ λ⟨k,z⟩ ⟨hk,hz1,hmk⟩=>?_;dsimp only[Ac,Ad]at hk hz1 hmk ⊢;by_cases hk2:k<p.ak.length
  ·by_cases hz0:0<=z
   ·have hlen:=hpg p.ak[k] (At _);have hpos:0<p.ak[k].body.length:=by omega
    rw[Bo hk2,Vz,Af (by omega),Rj _ _ _ hpos]at hmk;have hone:=ih p.ak[k].body[0] (rk8 (At _) (At _)) (Rs (Tk hka.1 _ (At _)).2 _ (At _)) (depth+2) z false hz0 hz1 (by omega) (by omega);have hlf:=Qz p.ak[k].body[0] (depth+2) z false hz0 hz1
    (repeat' first|apply Ca 103;(first|refine yyp ?_;try refine Ce ?_ ?_<;>intro hb|refine yy2 ?_ ?_<;>intro hcmp);all_goals try refine Dl false 103 106 Ih ?_|apply Ca 106;refine yyp ?_;try refine Ce ?_ ?_<;>intro hb|refine yyp ?_|refine yy ?_|apply Cg 38;refine Ci (hc:=hone) ?_|apply ah;refine Cc Ih ?_|refine Cb λK hK=>?_|apply Cf 16;refine j0 [] jj9 ?_|apply_assumption -exfalso -symm)
    all_goals first
     |(exfalso
       (repeat (rename (∀ S,TC _ _ _ S->_)=>hX;clear hX))
       omega)
     |(exact⟨(k+1,_),⟨hk2,Int.le_trans hlf hz1,hmk⟩,by dsimp only;omega,r9⟩)
   ·rw[Oi _ _ (by omega)]at hmk;subst hmk
    (repeat' first|apply Ca 103;(first|refine yyp ?_;try refine Ce ?_ ?_<;>intro hb|refine yy2 ?_ ?_<;>intro hcmp);all_goals try refine Dl false 103 106 Ih ?_|apply Ca 106;refine yyp ?_;try refine Ce ?_ ?_<;>intro hb|refine yyp ?_|refine yy ?_|apply ah;refine Cc Ih ?_|refine Cb λK hK=>?_|apply Cf 16;refine j0 [] jj9 ?_|apply_assumption -exfalso -symm)
    all_goals first
     |(exfalso
       (repeat (rename (∀ S,TC _ _ _ S->_)=>hX;clear hX))
       omega)
     |(exact⟨(),trivial,r9⟩)
  ·rw[Br (by omega),Ko]at hmk;subst hmk
   (repeat' first|apply Ca 103;(first|refine yyp ?_;try refine Ce ?_ ?_<;>intro hb|refine yy2 ?_ ?_<;>intro hcmp);all_goals try refine Dl false 103 106 Ih ?_|refine yyp ?_|refine yy ?_|refine Cb λK hK=>?_|apply Cf 16;refine j0 [] jj9 ?_|apply_assumption -exfalso -symm)
   all_goals first
    |(exfalso
      (repeat (rename (∀ S,TC _ _ _ S->_)=>hX;clear hX))
      omega)
    |(exact⟨(),trivial,r9⟩)
 rintro _ _
 (repeat' first|refine yyp ?_|refine yy ?_|apply ah;refine Cc Ih ?_|refine Cb λK hK=>?_|apply Cf 16;refine j0 [] jj9 ?_|apply_assumption -exfalso -symm)
 (refine j1 (j8 ?_))
 rfl
theorem ra3:∀ (n:Nat) (p:Pr),SizeOf.sizeOf p<=n->Lx.kPr p->∀ (depth left:Int) (pl:Bool),0<=left->left<=2048->0<=depth->depth<=34->FnD prog gl 38 [.d (dPr p),.d (.int .i64 depth),.d (.int .i64 left),.d (.bool pl)] (λv=>v=.d (.int .i64 (Kv depth left pl p))):=by
 intro n
 induction n with
 |zero=>intro p h;cases p;simp only[Pr.mk.sizeOf_spec]at h;omega
 |succ n ih=>
  intro p hp hk depth left pl h0 h1 h2 h3;exact my5 gl p depth left pl h0 h1 h2 h3 hk λx hx hkx d l q a1 a2 a3 a4=>ih x (by omega) hkx d l q a1 a2 a3 a4
theorem kr8 (p:Pr)(hk:Lx.kPr p):FnD prog gl 15 [.d (dPr p)] (λv=>v=.d (.bool (Gr p))):=by
 have h:=ra3 gl _ p (Au _) hk 0 2048 true (by omega) (by omega) (by omega) (by omega);have ha:=Lb p 0 2048 true (by omega) (by omega);unfold Lx.agree at ha;rw[v6]at h ⊢
 (refine j5 func15 ntmps15 results15 λw M=>?_)
 (repeat' first|apply Ca 1;(refine Cm 1 ?_)|refine yyp ?_;try refine Ce ?_ ?_<;>intro hb|refine yy ?_|refine yy2 ?_ ?_<;>intro hcmp|apply Cg 38;refine Ci (hc:=h) ?_|apply ah;refine Cc [0,1,2,3,4,5] ?_|refine Cb λK hK=>?_|apply_assumption -exfalso -symm)
 all_goals
  (refine j1 (j8 ?_))
  simp only[aF,Aw,Aq,Gr]
  (repeat (rename (∀ S,TC _ _ _ S->_)=>hX;clear hX))
  clear h
 ·rw[eq_comm,ha.1];omega
 ·rw[eq_comm,Bool.eq_false_iff];intro e;have:=ha.1.1 e;omega
end
end Go.Proofs.YtklklgfpkpglgaaGreatDoor
