/- Parts. -/
import Derived.Test.YtklklgfpkpglgaaGreatDoorW26
set_option linter.all false
set_option maxRecDepth 100000
set_option maxHeartbeats 0
namespace Go.Proofs.YtklklgfpkpglgaaGreatDoor
open Go.RowKit Go.Proofs.Tryz Sc
variable (gl:List (Nat × List D))
section
def Hy:List Nat:=[0,1,2,6,7,8,9,10,11,12,13,14,22,34,35,36]
def kq5:List Nat:=[7,8,13,14,15,16,17,18,19,20,21,22,23,24,25,26,27,28,29]
def kq6:List Nat:=[10,35,36,37,38,39,40,41,42,43,44]
variable {mm:Int}
noncomputable def evN (ev:List (ByteArray × Bool))(l:List ByteArray):Nat->List (ByteArray × Bool)
 |0=>ev
 |j+1=>if (l.take j).any (Sc.isB (l.getD j ByteArray.empty)) then evN ev l j++[(l.getD j ByteArray.empty,true)] else evN ev l j
theorem qg2 (ev:List (ByteArray × Bool))(l:List ByteArray):∀ j,evN ev l j=ev++(((List.range j).filter λi=>(l.take i).any (Sc.isB (l.getD i ByteArray.empty))).map λi=>(l.getD i ByteArray.empty,true))
 |0=>by simp[evN]
 |j+1=>by
  rw[evN,qg2 ev l j,List.range_succ,List.filter_append,Ar];split
  ·rename_i h;rw[List.filter_cons_of_pos (p:=λi=>(l.take i).any (Sc.isB (l.getD i ByteArray.empty))) h,List.filter_nil,Ap,Ba,Ea]
  ·rename_i h;rw[List.filter_cons_of_neg (p:=λi=>(l.take i).any (Sc.isB (l.getD i ByteArray.empty))) h,List.filter_nil,Ba,Ej]
theorem jv0 (ev:List (ByteArray × Bool))(l:List ByteArray):∀ j,(evN ev l j).length<=ev.length+j
 |0=>Au _
 |j+1=>by
  have:=jv0 ev l j;rw[evN];split
  ·simp;omega
  ·omega
theorem rm1 (l:List ByteArray)(j:Nat)(hj:j<l.length):l.getD j ByteArray.empty=l[j]:=by rw[List.getD_eq_getElem?_getD,Ax hj];rfl
theorem js3 (ev:List (ByteArray × Bool))(l:List ByteArray)(j:Nat)(hj:j<l.length):evN ev l (j+1)=if (l.take j).any (Sc.isB l[j]) then evN ev l j++[(l[j],true)] else evN ev l j:=by
 rw[evN,rm1 l j hj]
theorem jj4:∀ (l:List (Bool × List ByteArray)) (σ:W) (j:Nat) (hj:j<l.length),
 Cr σ (l.take (j+1))=((Cr σ (l.take j)).1++[⟨(Cx (Cr σ (l.take j)).2).1,l[j].1,l[j].2⟩],(Cx (Cr σ (l.take j)).2).2)
 |[],_,_,h=>by simp at h
 |x::l,σ,0,_=>by simp[Cr]
 |x::l,σ,j+1,h=>by
  have:=jj4 l (Cx σ).2 j (by simpa using h);simp only[Fb,Cr,this,Fd,Ac]
theorem Sc.Ll:∀ (l:List (Bool × List ByteArray)) (σ:W),(Cr σ l).1.length=l.length
 |[],σ=>rfl
 |x::l,σ=>by simp only[Cr,An,Ll l]
def kf1:Sc.Ent:=⟨ByteArray.empty,false,[]⟩
attribute [local irreducible] TR TC
theorem mk9 (k:Sc.Kind)(σ:W)(nn:List ByteArray)(ds:List (Bool × List ByteArray))(s:Sp)(hle1:nn.length<=ds.length)(hle2:ds.length<=nn.length)(hn9:nn.length<=1000000000)(hr:σ.room nn.length)
 (hof:∀ (j:Nat) (hj:j<ds.length),FnE prog gl 81 [.d (.int .i64 j),.ptr 1002 0,.ptr 1003 0] ((1002,.box [.ptr 900 0])::(1003,.box (sv s))::HW k (Cr (Cv σ nn) (ds.take j)).2)
   (λv H1=>v=.d (Fv ⟨(Cx (Cr (Cv σ nn) (ds.take j)).2).1,ds[j].1,ds[j].2⟩)/\H1=(1002,.box [.ptr 900 0])::(1003,.box (sv s))::HW k (Cx (Cr (Cv σ nn) (ds.take j)).2).2)):
 FnE prog gl 80 [.ptr 900 0,.d (.list 1 (nn.map .str)),.clo (.func 81) [] [.ptr 1002 0,.ptr 1003 0]] ((1002,.box [.ptr 900 0])::(1003,.box (sv s))::HW k σ)
  (λv H1=>v=.d (.list 3 ((Cr (Cv σ nn) ds).1.map Fv))/\H1=(1002,.box [.ptr 900 0])::(1003,.box (sv s))::HW k (Cr (Cv σ nn) ds).2):=by
 have htw:Cv σ nn={σ with ev:=evN σ.ev nn nn.length}:=by rw[qg2];rfl
 rw[htw]at hof ⊢;unfold W.room at hr;obtain⟨env,tk,c,ev⟩:=σ;dsimp only at hof hr ⊢;clear htw;cases k
 all_goals dsimp only[HW,ja9,n7]at hof ⊢
 case free=>
  (refine j2 func80 ntmps80 results80 λw M E b0=>?_)
  simp only[Ap,Ba]
  (repeat' first|refine yyp ?_;try refine Ce ?_ ?_<;>intro hb|refine yy ?_|apply ah;refine Cc Hy ?_|refine Cb λK hK=>?_|apply_assumption -exfalso -symm)
  refine j9 kq5 [903] (λj:Nat=>[(13,.d (.int .i64 j))]) (λj=>n7 .free ⟨env,tk,c,evN ev nn j⟩) (λj=>j<=nn.length) (λj=>nn.length - j) 0 (Ai _) λj hj=>?_;dsimp only[Ac,Ad,n7];rcases Ah j nn.length with hj2|hj2
  ·have hlen:=jv0 ev nn j;have hm:=kt8 gl ⟨env,tk,c,evN ev nn j⟩ nn[j] true (by dsimp only;omega);have hc:=n0 gl (nn.take j) nn[j];have hst:=js3 ev nn j hj2
   try dsimp only[n7,Sc.step]at hm
   generalize (nn.take j).any (Sc.isB nn[j])=b at hc hst;rw[Ek]at hc
   (repeat' first|apply Ca 28;refine Ch (hc:=hm) ?_|refine yyp ?_;try refine Ce ?_ ?_<;>intro hb|refine yy ?_|apply Cg 62;refine Ci (hc:=hc) ?_;try refine Ce ?_ ?_<;>intro hb|apply ah;refine Cc Hy ?_|refine Cb λK hK=>?_|apply_assumption -exfalso -symm)
   all_goals
    refine⟨j+1,by omega,by omega,?_⟩
    try simp only[hst,hb,if_true,if_false,Az]
    exact r9
  obtain rfl:j=nn.length:=by omega
  (repeat' first|apply Ca 32;(refine kp2 32 ?_)|refine yyp ?_;try refine Ce ?_ ?_<;>intro hb|refine yy ?_|apply ah;refine Cc Hy ?_|refine Cb λK hK=>?_|apply_assumption -exfalso -symm)
  refine j9 kq6 [32,900,901,902,903,904,905] (λj:Nat=>[(35,.d (.int .i64 j))]) (λj=>(32,.row 112 3 false ((Cr ⟨env,tk,c,evN ev nn nn.length⟩ (ds.take j)).1.map Fv++List.replicate (nn.length - j) (Fv kf1)) 0)::HW .free (Cr ⟨env,tk,c,evN ev nn nn.length⟩ (ds.take j)).2) (λj=>j<=nn.length) (λj=>nn.length - j) 0 (Ai _) λj hj=>?_;dsimp only[Ac,Ad,HW,ja9,n7];have hlen:=Ll (ds.take j) ⟨env,tk,c,evN ev nn nn.length⟩;rw[Ak]at hlen;rcases Ah j nn.length with hj2|hj2
  ·have hone:=hof j (by omega);have hset:∀ x,((Cr ⟨env,tk,c,evN ev nn nn.length⟩ (ds.take j)).1.map Fv++List.replicate (nn.length - j) (Fv kf1)).set j x=(Cr ⟨env,tk,c,evN ev nn nn.length⟩ (ds.take j)).1.map Fv++[x]++List.replicate (nn.length - (j+1)) (Fv kf1):=λx=>by
    rw[List.set_append_right _ _ (by rw[Aa];omega),show j - ((Cr ⟨env,tk,c,evN ev nn nn.length⟩ (ds.take j)).1.map Fv).length=0 by rw[Aa];omega,show nn.length - j=nn.length - (j+1)+1 by omega,List.replicate_succ,List.set_cons_zero,Ea];rfl
   have hin:j<((Cr ⟨env,tk,c,evN ev nn nn.length⟩ (ds.take j)).1.map Fv++List.replicate (nn.length - j) (Fv kf1)).length:=by rw[Ag,Aa,El];omega
   have htk:=jj4 ds ⟨env,tk,c,evN ev nn nn.length⟩ j (by omega)
   (repeat' first|apply Ca 42;refine Ch (hc:=hone) ?_|refine yyp ?_;try refine Ce ?_ ?_<;>intro hb|refine yy ?_|apply ah;refine Cc Hy ?_|refine Cb λK hK=>?_|apply_assumption -exfalso -symm)
   refine⟨j+1,by omega,by omega,?_⟩;rw[htk];dsimp only;rw[Ar,Ap,Ba,<-hset];exact r9
  obtain rfl:j=nn.length:=by omega
  rw[Nat.sub_self,List.replicate_zero,Ej,Am hle2]
  (repeat' first|refine yyp ?_;try refine Ce ?_ ?_<;>intro hb|refine yy ?_|apply ah;refine Cc Hy ?_|refine Cb λK hK=>?_|apply_assumption -exfalso -symm)
  refine jr8 32 rfl ?_
  (refine j1 (j6 ⟨?_,rfl⟩))
  rfl
 case check ns=>
  (refine j2 func80 ntmps80 results80 λw M E b0=>?_)
  simp only[Ap,Ba]
  (repeat' first|refine yyp ?_;try refine Ce ?_ ?_<;>intro hb|refine yy ?_|apply ah;refine Cc Hy ?_|refine Cb λK hK=>?_|apply_assumption -exfalso -symm)
  refine j9 kq5 [903,904,905] (λj:Nat=>[(13,.d (.int .i64 j))]) (λj=>n7 (.check ns) ⟨env,tk,c,evN ev nn j⟩) (λj=>j<=nn.length) (λj=>nn.length - j) 0 (Ai _) λj hj=>?_;dsimp only[Ac,Ad,n7];rcases Ah j nn.length with hj2|hj2
  ·have hlen:=jv0 ev nn j;have hm:=ki3 gl ns ⟨env,tk,c,evN ev nn j⟩ nn[j] true;have hc:=n0 gl (nn.take j) nn[j];have hst:=js3 ev nn j hj2
   try dsimp only[n7,Sc.step]at hm
   generalize (nn.take j).any (Sc.isB nn[j])=b at hc hst;rw[Ek]at hc
   (repeat' first|apply Ca 28;refine Ch (hc:=hm) ?_|refine yyp ?_;try refine Ce ?_ ?_<;>intro hb|refine yy ?_|apply Cg 62;refine Ci (hc:=hc) ?_;try refine Ce ?_ ?_<;>intro hb|apply ah;refine Cc Hy ?_|refine Cb λK hK=>?_|apply_assumption -exfalso -symm)
   all_goals
    refine⟨j+1,by omega,by omega,?_⟩
    try simp only[hst,hb,if_true,if_false,Az]
    exact r9
  obtain rfl:j=nn.length:=by omega
  (repeat' first|apply Ca 32;(refine kp2 32 ?_)|refine yyp ?_;try refine Ce ?_ ?_<;>intro hb|refine yy ?_|apply ah;refine Cc Hy ?_|refine Cb λK hK=>?_|apply_assumption -exfalso -symm)
  refine j9 kq6 [32,900,901,902,903,904,905] (λj:Nat=>[(35,.d (.int .i64 j))]) (λj=>(32,.row 112 3 false ((Cr ⟨env,tk,c,evN ev nn nn.length⟩ (ds.take j)).1.map Fv++List.replicate (nn.length - j) (Fv kf1)) 0)::HW (.check ns) (Cr ⟨env,tk,c,evN ev nn nn.length⟩ (ds.take j)).2) (λj=>j<=nn.length) (λj=>nn.length - j) 0 (Ai _) λj hj=>?_;dsimp only[Ac,Ad,HW,ja9,n7];have hlen:=Ll (ds.take j) ⟨env,tk,c,evN ev nn nn.length⟩;rw[Ak]at hlen;rcases Ah j nn.length with hj2|hj2
  ·have hone:=hof j (by omega);have hset:∀ x,((Cr ⟨env,tk,c,evN ev nn nn.length⟩ (ds.take j)).1.map Fv++List.replicate (nn.length - j) (Fv kf1)).set j x=(Cr ⟨env,tk,c,evN ev nn nn.length⟩ (ds.take j)).1.map Fv++[x]++List.replicate (nn.length - (j+1)) (Fv kf1):=λx=>by
    rw[List.set_append_right _ _ (by rw[Aa];omega),show j - ((Cr ⟨env,tk,c,evN ev nn nn.length⟩ (ds.take j)).1.map Fv).length=0 by rw[Aa];omega,show nn.length - j=nn.length - (j+1)+1 by omega,List.replicate_succ,List.set_cons_zero,Ea];rfl
   have hin:j<((Cr ⟨env,tk,c,evN ev nn nn.length⟩ (ds.take j)).1.map Fv++List.replicate (nn.length - j) (Fv kf1)).length:=by rw[Ag,Aa,El];omega
   have htk:=jj4 ds ⟨env,tk,c,evN ev nn nn.length⟩ j (by omega)
   (repeat' first|apply Ca 42;refine Ch (hc:=hone) ?_|refine yyp ?_;try refine Ce ?_ ?_<;>intro hb|refine yy ?_|apply ah;refine Cc Hy ?_|refine Cb λK hK=>?_|apply_assumption -exfalso -symm)
   refine⟨j+1,by omega,by omega,?_⟩;rw[htk];dsimp only;rw[Ar,Ap,Ba,<-hset];exact r9
  obtain rfl:j=nn.length:=by omega
  rw[Nat.sub_self,List.replicate_zero,Ej,Am hle2]
  (repeat' first|refine yyp ?_;try refine Ce ?_ ?_<;>intro hb|refine yy ?_|apply ah;refine Cc Hy ?_|refine Cb λK hK=>?_|apply_assumption -exfalso -symm)
  refine jr8 32 rfl ?_
  (refine j1 (j6 ⟨?_,rfl⟩))
  rfl
 case none=>
  (refine j2 func80 ntmps80 results80 λw M E b0=>?_)
  simp only[Ap,Ba]
  (repeat' first|refine yyp ?_;try refine Ce ?_ ?_<;>intro hb|refine yy ?_|apply ah;refine Cc Hy ?_|refine Cb λK hK=>?_|apply_assumption -exfalso -symm)
  refine j9 kq5 ([]:List Nat) (λj:Nat=>[(13,.d (.int .i64 j))]) (λj=>n7 .none ⟨env,tk,c,evN ev nn j⟩) (λj=>j<=nn.length) (λj=>nn.length - j) 0 (Ai _) λj hj=>?_;dsimp only[Ac,Ad,n7];rcases Ah j nn.length with hj2|hj2
  ·have hlen:=jv0 ev nn j;have hm:=ka5 gl nn[j] true;have hc:=n0 gl (nn.take j) nn[j];have hst:=js3 ev nn j hj2
   try dsimp only[n7,Sc.step]at hm
   generalize (nn.take j).any (Sc.isB nn[j])=b at hc hst;rw[Ek]at hc
   (repeat' first|apply Ca 28;refine Ch (hc:=hm) ?_|refine yyp ?_;try refine Ce ?_ ?_<;>intro hb|refine yy ?_|apply Cg 62;refine Ci (hc:=hc) ?_;try refine Ce ?_ ?_<;>intro hb|apply ah;refine Cc Hy ?_|refine Cb λK hK=>?_|apply_assumption -exfalso -symm)
   all_goals
    refine⟨j+1,by omega,by omega,?_⟩
    try simp only[hst,hb,if_true,if_false,Az]
    exact r9
  obtain rfl:j=nn.length:=by omega
  (repeat' first|apply Ca 32;(refine kp2 32 ?_)|refine yyp ?_;try refine Ce ?_ ?_<;>intro hb|refine yy ?_|apply ah;refine Cc Hy ?_|refine Cb λK hK=>?_|apply_assumption -exfalso -symm)
  refine j9 kq6 [32,900,901,902,903,904,905] (λj:Nat=>[(35,.d (.int .i64 j))]) (λj=>(32,.row 112 3 false ((Cr ⟨env,tk,c,evN ev nn nn.length⟩ (ds.take j)).1.map Fv++List.replicate (nn.length - j) (Fv kf1)) 0)::HW .none (Cr ⟨env,tk,c,evN ev nn nn.length⟩ (ds.take j)).2) (λj=>j<=nn.length) (λj=>nn.length - j) 0 (Ai _) λj hj=>?_;dsimp only[Ac,Ad,HW,ja9,n7];have hlen:=Ll (ds.take j) ⟨env,tk,c,evN ev nn nn.length⟩;rw[Ak]at hlen;rcases Ah j nn.length with hj2|hj2
  ·have hone:=hof j (by omega);have hset:∀ x,((Cr ⟨env,tk,c,evN ev nn nn.length⟩ (ds.take j)).1.map Fv++List.replicate (nn.length - j) (Fv kf1)).set j x=(Cr ⟨env,tk,c,evN ev nn nn.length⟩ (ds.take j)).1.map Fv++[x]++List.replicate (nn.length - (j+1)) (Fv kf1):=λx=>by
    rw[List.set_append_right _ _ (by rw[Aa];omega),show j - ((Cr ⟨env,tk,c,evN ev nn nn.length⟩ (ds.take j)).1.map Fv).length=0 by rw[Aa];omega,show nn.length - j=nn.length - (j+1)+1 by omega,List.replicate_succ,List.set_cons_zero,Ea];rfl
   have hin:j<((Cr ⟨env,tk,c,evN ev nn nn.length⟩ (ds.take j)).1.map Fv++List.replicate (nn.length - j) (Fv kf1)).length:=by rw[Ag,Aa,El];omega
   have htk:=jj4 ds ⟨env,tk,c,evN ev nn nn.length⟩ j (by omega)
   (repeat' first|apply Ca 42;refine Ch (hc:=hone) ?_|refine yyp ?_;try refine Ce ?_ ?_<;>intro hb|refine yy ?_|apply ah;refine Cc Hy ?_|refine Cb λK hK=>?_|apply_assumption -exfalso -symm)
   refine⟨j+1,by omega,by omega,?_⟩;rw[htk];dsimp only;rw[Ar,Ap,Ba,<-hset];exact r9
  obtain rfl:j=nn.length:=by omega
  rw[Nat.sub_self,List.replicate_zero,Ej,Am hle2]
  (repeat' first|refine yyp ?_;try refine Ce ?_ ?_<;>intro hb|refine yy ?_|apply ah;refine Cc Hy ?_|refine Cb λK hK=>?_|apply_assumption -exfalso -symm)
  refine jr8 32 rfl ?_
  (refine j1 (j6 ⟨?_,rfl⟩))
  rfl
theorem ml0 (k:Sc.Kind)(σ:W)(nn:List ByteArray)(ds:List (Bool × List ByteArray))(s:Sp)(hle1:nn.length<=ds.length)(hle2:ds.length<=nn.length)(hn9:nn.length<=1000000000)(hr:σ.room nn.length)
 (hof:∀ (j:Nat) (hj:j<ds.length),FnE prog gl 83 [.d (.int .i64 j),.ptr 1002 0,.ptr 1003 0] ((1002,.box [.ptr 900 0])::(1003,.box (sv s))::HW k (Cr (Cv σ nn) (ds.take j)).2)
   (λv H1=>v=.d (Fv ⟨(Cx (Cr (Cv σ nn) (ds.take j)).2).1,ds[j].1,ds[j].2⟩)/\H1=(1002,.box [.ptr 900 0])::(1003,.box (sv s))::HW k (Cx (Cr (Cv σ nn) (ds.take j)).2).2)):
 FnE prog gl 80 [.ptr 900 0,.d (.list 1 (nn.map .str)),.clo (.func 83) [] [.ptr 1002 0,.ptr 1003 0]] ((1002,.box [.ptr 900 0])::(1003,.box (sv s))::HW k σ)
  (λv H1=>v=.d (.list 3 ((Cr (Cv σ nn) ds).1.map Fv))/\H1=(1002,.box [.ptr 900 0])::(1003,.box (sv s))::HW k (Cr (Cv σ nn) ds).2):=by
 have htw:Cv σ nn={σ with ev:=evN σ.ev nn nn.length}:=by rw[qg2];rfl
 rw[htw]at hof ⊢;unfold W.room at hr;obtain⟨env,tk,c,ev⟩:=σ;dsimp only at hof hr ⊢;clear htw;cases k
 all_goals dsimp only[HW,ja9,n7]at hof ⊢
 case free=>
  (refine j2 func80 ntmps80 results80 λw M E b0=>?_)
  simp only[Ap,Ba]
  (repeat' first|refine yyp ?_;try refine Ce ?_ ?_<;>intro hb|refine yy ?_|apply ah;refine Cc Hy ?_|refine Cb λK hK=>?_|apply_assumption -exfalso -symm)
  refine j9 kq5 [903] (λj:Nat=>[(13,.d (.int .i64 j))]) (λj=>n7 .free ⟨env,tk,c,evN ev nn j⟩) (λj=>j<=nn.length) (λj=>nn.length - j) 0 (Ai _) λj hj=>?_;dsimp only[Ac,Ad,n7];rcases Ah j nn.length with hj2|hj2
  ·have hlen:=jv0 ev nn j;have hm:=kt8 gl ⟨env,tk,c,evN ev nn j⟩ nn[j] true (by dsimp only;omega);have hc:=n0 gl (nn.take j) nn[j];have hst:=js3 ev nn j hj2
   try dsimp only[n7,Sc.step]at hm
   generalize (nn.take j).any (Sc.isB nn[j])=b at hc hst;rw[Ek]at hc
   (repeat' first|apply Ca 28;refine Ch (hc:=hm) ?_|refine yyp ?_;try refine Ce ?_ ?_<;>intro hb|refine yy ?_|apply Cg 62;refine Ci (hc:=hc) ?_;try refine Ce ?_ ?_<;>intro hb|apply ah;refine Cc Hy ?_|refine Cb λK hK=>?_|apply_assumption -exfalso -symm)
   all_goals
    refine⟨j+1,by omega,by omega,?_⟩
    try simp only[hst,hb,if_true,if_false,Az]
    exact r9
  obtain rfl:j=nn.length:=by omega
  (repeat' first|apply Ca 32;(refine kp2 32 ?_)|refine yyp ?_;try refine Ce ?_ ?_<;>intro hb|refine yy ?_|apply ah;refine Cc Hy ?_|refine Cb λK hK=>?_|apply_assumption -exfalso -symm)
  refine j9 kq6 [32,900,901,902,903,904,905] (λj:Nat=>[(35,.d (.int .i64 j))]) (λj=>(32,.row 112 3 false ((Cr ⟨env,tk,c,evN ev nn nn.length⟩ (ds.take j)).1.map Fv++List.replicate (nn.length - j) (Fv kf1)) 0)::HW .free (Cr ⟨env,tk,c,evN ev nn nn.length⟩ (ds.take j)).2) (λj=>j<=nn.length) (λj=>nn.length - j) 0 (Ai _) λj hj=>?_;dsimp only[Ac,Ad,HW,ja9,n7];have hlen:=Ll (ds.take j) ⟨env,tk,c,evN ev nn nn.length⟩;rw[Ak]at hlen;rcases Ah j nn.length with hj2|hj2
  ·have hone:=hof j (by omega);have hset:∀ x,((Cr ⟨env,tk,c,evN ev nn nn.length⟩ (ds.take j)).1.map Fv++List.replicate (nn.length - j) (Fv kf1)).set j x=(Cr ⟨env,tk,c,evN ev nn nn.length⟩ (ds.take j)).1.map Fv++[x]++List.replicate (nn.length - (j+1)) (Fv kf1):=λx=>by
    rw[List.set_append_right _ _ (by rw[Aa];omega),show j - ((Cr ⟨env,tk,c,evN ev nn nn.length⟩ (ds.take j)).1.map Fv).length=0 by rw[Aa];omega,show nn.length - j=nn.length - (j+1)+1 by omega,List.replicate_succ,List.set_cons_zero,Ea];rfl
   have hin:j<((Cr ⟨env,tk,c,evN ev nn nn.length⟩ (ds.take j)).1.map Fv++List.replicate (nn.length - j) (Fv kf1)).length:=by rw[Ag,Aa,El];omega
   have htk:=jj4 ds ⟨env,tk,c,evN ev nn nn.length⟩ j (by omega)
   (repeat' first|apply Ca 42;refine Ch (hc:=hone) ?_|refine yyp ?_;try refine Ce ?_ ?_<;>intro hb|refine yy ?_|apply ah;refine Cc Hy ?_|refine Cb λK hK=>?_|apply_assumption -exfalso -symm)
   refine⟨j+1,by omega,by omega,?_⟩;rw[htk];dsimp only;rw[Ar,Ap,Ba,<-hset];exact r9
  obtain rfl:j=nn.length:=by omega
  rw[Nat.sub_self,List.replicate_zero,Ej,Am hle2]
  (repeat' first|refine yyp ?_;try refine Ce ?_ ?_<;>intro hb|refine yy ?_|apply ah;refine Cc Hy ?_|refine Cb λK hK=>?_|apply_assumption -exfalso -symm)
  refine jr8 32 rfl ?_
  (refine j1 (j6 ⟨?_,rfl⟩))
  rfl
 case check ns=>
  (refine j2 func80 ntmps80 results80 λw M E b0=>?_)
  simp only[Ap,Ba]
  (repeat' first|refine yyp ?_;try refine Ce ?_ ?_<;>intro hb|refine yy ?_|apply ah;refine Cc Hy ?_|refine Cb λK hK=>?_|apply_assumption -exfalso -symm)
  refine j9 kq5 [903,904,905] (λj:Nat=>[(13,.d (.int .i64 j))]) (λj=>n7 (.check ns) ⟨env,tk,c,evN ev nn j⟩) (λj=>j<=nn.length) (λj=>nn.length - j) 0 (Ai _) λj hj=>?_;dsimp only[Ac,Ad,n7];rcases Ah j nn.length with hj2|hj2
  ·have hlen:=jv0 ev nn j;have hm:=ki3 gl ns ⟨env,tk,c,evN ev nn j⟩ nn[j] true;have hc:=n0 gl (nn.take j) nn[j];have hst:=js3 ev nn j hj2
   try dsimp only[n7,Sc.step]at hm
   generalize (nn.take j).any (Sc.isB nn[j])=b at hc hst;rw[Ek]at hc
   (repeat' first|apply Ca 28;refine Ch (hc:=hm) ?_|refine yyp ?_;try refine Ce ?_ ?_<;>intro hb|refine yy ?_|apply Cg 62;refine Ci (hc:=hc) ?_;try refine Ce ?_ ?_<;>intro hb|apply ah;refine Cc Hy ?_|refine Cb λK hK=>?_|apply_assumption -exfalso -symm)
   all_goals
    refine⟨j+1,by omega,by omega,?_⟩
    try simp only[hst,hb,if_true,if_false,Az]
    exact r9
  obtain rfl:j=nn.length:=by omega
  (repeat' first|apply Ca 32;(refine kp2 32 ?_)|refine yyp ?_;try refine Ce ?_ ?_<;>intro hb|refine yy ?_|apply ah;refine Cc Hy ?_|refine Cb λK hK=>?_|apply_assumption -exfalso -symm)
  refine j9 kq6 [32,900,901,902,903,904,905] (λj:Nat=>[(35,.d (.int .i64 j))]) (λj=>(32,.row 112 3 false ((Cr ⟨env,tk,c,evN ev nn nn.length⟩ (ds.take j)).1.map Fv++List.replicate (nn.length - j) (Fv kf1)) 0)::HW (.check ns) (Cr ⟨env,tk,c,evN ev nn nn.length⟩ (ds.take j)).2) (λj=>j<=nn.length) (λj=>nn.length - j) 0 (Ai _) λj hj=>?_;dsimp only[Ac,Ad,HW,ja9,n7];have hlen:=Ll (ds.take j) ⟨env,tk,c,evN ev nn nn.length⟩;rw[Ak]at hlen;rcases Ah j nn.length with hj2|hj2
  ·have hone:=hof j (by omega);have hset:∀ x,((Cr ⟨env,tk,c,evN ev nn nn.length⟩ (ds.take j)).1.map Fv++List.replicate (nn.length - j) (Fv kf1)).set j x=(Cr ⟨env,tk,c,evN ev nn nn.length⟩ (ds.take j)).1.map Fv++[x]++List.replicate (nn.length - (j+1)) (Fv kf1):=λx=>by
    rw[List.set_append_right _ _ (by rw[Aa];omega),show j - ((Cr ⟨env,tk,c,evN ev nn nn.length⟩ (ds.take j)).1.map Fv).length=0 by rw[Aa];omega,show nn.length - j=nn.length - (j+1)+1 by omega,List.replicate_succ,List.set_cons_zero,Ea];rfl
   have hin:j<((Cr ⟨env,tk,c,evN ev nn nn.length⟩ (ds.take j)).1.map Fv++List.replicate (nn.length - j) (Fv kf1)).length:=by rw[Ag,Aa,El];omega
   have htk:=jj4 ds ⟨env,tk,c,evN ev nn nn.length⟩ j (by omega)
   (repeat' first|apply Ca 42;refine Ch (hc:=hone) ?_|refine yyp ?_;try refine Ce ?_ ?_<;>intro hb|refine yy ?_|apply ah;refine Cc Hy ?_|refine Cb λK hK=>?_|apply_assumption -exfalso -symm)
   refine⟨j+1,by omega,by omega,?_⟩;rw[htk];dsimp only;rw[Ar,Ap,Ba,<-hset];exact r9
  obtain rfl:j=nn.length:=by omega
  rw[Nat.sub_self,List.replicate_zero,Ej,Am hle2]
  (repeat' first|refine yyp ?_;try refine Ce ?_ ?_<;>intro hb|refine yy ?_|apply ah;refine Cc Hy ?_|refine Cb λK hK=>?_|apply_assumption -exfalso -symm)
  refine jr8 32 rfl ?_
  (refine j1 (j6 ⟨?_,rfl⟩))
  rfl
 case none=>
  (refine j2 func80 ntmps80 results80 λw M E b0=>?_)
  simp only[Ap,Ba]
  (repeat' first|refine yyp ?_;try refine Ce ?_ ?_<;>intro hb|refine yy ?_|apply ah;refine Cc Hy ?_|refine Cb λK hK=>?_|apply_assumption -exfalso -symm)
  refine j9 kq5 ([]:List Nat) (λj:Nat=>[(13,.d (.int .i64 j))]) (λj=>n7 .none ⟨env,tk,c,evN ev nn j⟩) (λj=>j<=nn.length) (λj=>nn.length - j) 0 (Ai _) λj hj=>?_;dsimp only[Ac,Ad,n7];rcases Ah j nn.length with hj2|hj2
  ·have hlen:=jv0 ev nn j;have hm:=ka5 gl nn[j] true;have hc:=n0 gl (nn.take j) nn[j];have hst:=js3 ev nn j hj2
   try dsimp only[n7,Sc.step]at hm
   generalize (nn.take j).any (Sc.isB nn[j])=b at hc hst;rw[Ek]at hc
   (repeat' first|apply Ca 28;refine Ch (hc:=hm) ?_|refine yyp ?_;try refine Ce ?_ ?_<;>intro hb|refine yy ?_|apply Cg 62;refine Ci (hc:=hc) ?_;try refine Ce ?_ ?_<;>intro hb|apply ah;refine Cc Hy ?_|refine Cb λK hK=>?_|apply_assumption -exfalso -symm)
   all_goals
    refine⟨j+1,by omega,by omega,?_⟩
    try simp only[hst,hb,if_true,if_false,Az]
    exact r9
  obtain rfl:j=nn.length:=by omega
  (repeat' first|apply Ca 32;(refine kp2 32 ?_)|refine yyp ?_;try refine Ce ?_ ?_<;>intro hb|refine yy ?_|apply ah;refine Cc Hy ?_|refine Cb λK hK=>?_|apply_assumption -exfalso -symm)
  refine j9 kq6 [32,900,901,902,903,904,905] (λj:Nat=>[(35,.d (.int .i64 j))]) (λj=>(32,.row 112 3 false ((Cr ⟨env,tk,c,evN ev nn nn.length⟩ (ds.take j)).1.map Fv++List.replicate (nn.length - j) (Fv kf1)) 0)::HW .none (Cr ⟨env,tk,c,evN ev nn nn.length⟩ (ds.take j)).2) (λj=>j<=nn.length) (λj=>nn.length - j) 0 (Ai _) λj hj=>?_;dsimp only[Ac,Ad,HW,ja9,n7];have hlen:=Ll (ds.take j) ⟨env,tk,c,evN ev nn nn.length⟩;rw[Ak]at hlen;rcases Ah j nn.length with hj2|hj2
  ·have hone:=hof j (by omega);have hset:∀ x,((Cr ⟨env,tk,c,evN ev nn nn.length⟩ (ds.take j)).1.map Fv++List.replicate (nn.length - j) (Fv kf1)).set j x=(Cr ⟨env,tk,c,evN ev nn nn.length⟩ (ds.take j)).1.map Fv++[x]++List.replicate (nn.length - (j+1)) (Fv kf1):=λx=>by
    rw[List.set_append_right _ _ (by rw[Aa];omega),show j - ((Cr ⟨env,tk,c,evN ev nn nn.length⟩ (ds.take j)).1.map Fv).length=0 by rw[Aa];omega,show nn.length - j=nn.length - (j+1)+1 by omega,List.replicate_succ,List.set_cons_zero,Ea];rfl
   have hin:j<((Cr ⟨env,tk,c,evN ev nn nn.length⟩ (ds.take j)).1.map Fv++List.replicate (nn.length - j) (Fv kf1)).length:=by rw[Ag,Aa,El];omega
   have htk:=jj4 ds ⟨env,tk,c,evN ev nn nn.length⟩ j (by omega)
   (repeat' first|apply Ca 42;refine Ch (hc:=hone) ?_|refine yyp ?_;try refine Ce ?_ ?_<;>intro hb|refine yy ?_|apply ah;refine Cc Hy ?_|refine Cb λK hK=>?_|apply_assumption -exfalso -symm)
   refine⟨j+1,by omega,by omega,?_⟩;rw[htk];dsimp only;rw[Ar,Ap,Ba,<-hset];exact r9
  obtain rfl:j=nn.length:=by omega
  rw[Nat.sub_self,List.replicate_zero,Ej,Am hle2]
  (repeat' first|refine yyp ?_;try refine Ce ?_ ?_<;>intro hb|refine yy ?_|apply ah;refine Cc Hy ?_|refine Cb λK hK=>?_|apply_assumption -exfalso -symm)
  refine jr8 32 rfl ?_
  (refine j1 (j6 ⟨?_,rfl⟩))
  rfl
end
section
def Ww:List Nat:=[0,1,4,5,7,10,14,15,16,17]
variable {mm:Int}
theorem Tryz.elI:ru6 prog 33 3 1 8:=qb2 (z:=.int .i64 0) (by kernel_rfl) Tryz.underlying33 rfl (by decide)
theorem Tryz.elK:ru6 prog 122 25 1 1:=qb2 (z:=.int .u8 0) (by kernel_rfl) Tryz.underlying122 rfl (by decide)
theorem Reads.rd {w:World}{M:Nat->Nat->Prop}{a:Option Addr}{ys:List Value}(h:Reads w M a ys):Rd w w.heap.size a ys:=λj x hj=>by
 obtain⟨b,o,e,_,hc⟩:=h j x hj;exact⟨b,o,e,World.block_lt_of_cell? w ⟨b,o+j,none⟩ hc,hc⟩
theorem qg3 {w:World}{M:Nat->Nat->Prop}{sz:Nat}{xs:List D}{v:Value}(h:Gm w M (.list sz xs) v):∃ (a:Option Addr) (c:Nat) (ys:List Value),v=.slice a xs.length c/\Gg w M sz xs ys/\Sl w w.heap.size a xs.length c sz ys:=by
 obtain⟨a,c,ys,h1,h2,h3,h4,h5,h6⟩:=h;exact⟨a,c,ys,h1,h5,h5.length,h6.rd,h2,h3,h4⟩
theorem mq5 {w w':World}{M:Nat->Nat->Prop}{e sz:TypeId}{xs:List D}{ys:List Value}{a:Option Addr}{c n:Nat}(hM:∀ b o,M b o->b<w.heap.size)(hn:n=xs.length)(h:w'.ownsRow w.heap.size e sz (.slice a n c) n ys)(hr:Gg w' M sz xs ys):Gm w' M (.list sz xs) (.slice a n c):=by
 subst hn;have hs:=Sl.Ru h;refine⟨a,c,ys,rfl,hs.cap,hs.max,hs.nil,hr,λj y hj=>?_⟩;obtain⟨b,o,e',_,hc⟩:=hs.rd j y hj;rcases h.2 with ⟨q1,q2⟩|⟨g,cap,cur,q,q0,q1,q2,q3,q4,q5⟩
 ·have h1:=h.1;simp only[Value.slice.injEq]at q1;obtain⟨_,q1,_⟩:=q1;have:ys.length=0:=by rw[h1,q1];simp
  have:=(Bb.1 hj).1;omega
 ·simp only[Value.slice.injEq]at q;obtain⟨rfl,_,rfl⟩:=q;cases e';exact⟨_,_,rfl,λhm=>by have:=hM _ _ hm;omega,hc⟩
attribute [local irreducible] TR TC
theorem jh1 (l:List Int)(hl:l.length<=10000000):FnD prog gl 51 [.d (.list 1 (l.map (.int .i64)))] (λv=>v=.d (.list 1 (l.map (.int .i64)))):=by
 intro w M us hM hus _;simp only[Ct]at hus;obtain⟨v,r,rfl,hv,rfl⟩:=hus;obtain⟨a,c,ys,rfl,h1,hs⟩:=qg3 hv;have hn:(l.map (D.int .i64)).length=l.length:=Aa _;rw[hn]at hs ⊢;generalize hnl:l.length=n at *;have hk:=λw=>Lib.run_eql_slice_nil (P:=prog) w 33 3 a n c 0 0 Tryz.underlying33;have hone:=Gg.one h1;have hyl:ys.length=n * 1:=hs.len;cases a with
 |none=>
  have hc:=hs.nil rfl;subst hc;have hn0:n=0:=by have:=hs.cap;omega
  subst hn0;have hx:l=[]:=As hnl;subst hx
  go_enter func51,ntmps51
  go_wp2
  go_ret
  exact⟨_,_,rfl,.d _,rfl,Below.refl _ _,none,0,[],rfl,Au _,Ai _,λ_=>rfl,rfl,Reads.nil _ _ _⟩
 |some ad=>
  have ho:=kt2 w [] 3 0 1 w.heap.size rfl (Ai _) (Au _)
  go_enter func51,ntmps51
  go_wp2_with (at_builtin;go_must (refine qb3 rfl (.tmp 5) (.tmp 6) 33 rfl Tryz.elI rfl ho rfl (hs.below ((Below.refl _ _).alloc (Au _) _) (Au _)) hone (by omega) (by omega) (by simp) ?_))
  intro a' c' w' h1' _ h3
  go_wp2
  go_ret
  have hb:=((Below.refl _ _).alloc (Au _) _).trans h3;exact⟨_,_,rfl,.d _,rfl,hb,mq5 hM (by rw[hn]) h1' (Gg.keep (aI.below hb) _ _ _ h1)⟩
theorem qx2 (l:List Int)(hl:l.length<=10000000):FnD prog gl 91 [.d (.list 1 (l.map (.int .u8)))] (λv=>v=.d (.list 1 (l.map (.int .u8)))):=by
 intro w M us hM hus _;simp only[Ct]at hus;obtain⟨v,r,rfl,hv,rfl⟩:=hus;obtain⟨a,c,ys,rfl,h1,hs⟩:=qg3 hv;have hn:(l.map (D.int .u8)).length=l.length:=Aa _;rw[hn]at hs ⊢;generalize hnl:l.length=n at *;have hk:=λw=>Lib.run_eql_slice_nil (P:=prog) w 122 25 a n c 0 0 Tryz.underlying122;have hone:=Gg.one h1;have hyl:ys.length=n * 1:=hs.len;cases a with
 |none=>
  have hc:=hs.nil rfl;subst hc;have hn0:n=0:=by have:=hs.cap;omega
  subst hn0;have hx:l=[]:=As hnl;subst hx
  go_enter func91,ntmps91
  go_wp2
  go_ret
  exact⟨_,_,rfl,.d _,rfl,Below.refl _ _,none,0,[],rfl,Au _,Ai _,λ_=>rfl,rfl,Reads.nil _ _ _⟩
 |some ad=>
  have ho:=kt2 w [] 25 0 1 w.heap.size rfl (Ai _) (Au _)
  go_enter func91,ntmps91
  go_wp2_with (at_builtin;go_must (refine qb3 rfl (.tmp 5) (.tmp 6) 122 rfl Tryz.elK rfl ho rfl (hs.below ((Below.refl _ _).alloc (Au _) _) (Au _)) hone (by omega) (by omega) (by simp) ?_))
  intro a' c' w' h1' _ h3
  go_wp2
  go_ret
  have hb:=((Below.refl _ _).alloc (Au _) _).trans h3;exact⟨_,_,rfl,.d _,rfl,hb,mq5 hM (by rw[hn]) h1' (Gg.keep (aI.below hb) _ _ _ h1)⟩
theorem qx3 (v:Va)(hv:v.items.length<=10000000):FnD prog gl 90 [.d (dVa v)] (λr=>r=.d (dVa v)):=by
 have h:=qx2 gl v.items hv
 (refine j5 func90 ntmps90 results90 λw M=>?_)
 (repeat' first|apply Ca 1;(refine Cm 1 ?_)|apply Ca 2;(refine j3 2 ?_)|refine yyp ?_;try refine Ce ?_ ?_<;>intro hb|refine yy ?_|apply Cg 91;refine Ci (hc:=h) ?_|apply ah;refine Cc [0,1,2,3,4,5,6,124] ?_|refine Cb λK hK=>?_|apply_assumption -exfalso -symm)
 (refine j1 (j8 ?_))
 rfl
theorem mv6 (l:List Va)(hl:l.length<=1000000000)(hv:∀ v∈l,v.items.length<=10000000):FnD prog gl 89 [.d (.list 2 (l.map dVa)),.clo (.func 90) [] []] (λr=>r=.d (.list 2 (l.map dVa))):=by
 (refine j5 func89 ntmps89 results89 λw M=>?_)
 (repeat' first|apply Ca 13;(refine jc9 13 ?_)|refine yyp ?_;try refine Ce ?_ ?_<;>intro hb|refine yy ?_|refine yy2 ?_ ?_<;>intro hcmp|apply ah;refine Cc Ww ?_|refine Cb λK hK=>?_|apply_assumption -exfalso -symm)
 ·have h0:l=[]:=As (by omega);subst h0
  (refine j1 (j8 ?_))
  rfl
 refine j9 [5,7,16,17,18,19,20,21,22,23,24,25,26] [13] (λx:Nat × Nat=>[(16,.d (.int .i64 x.1)),(5,.own 13 x.2)]) (λx=>[(13,.row 124 2 true ((l.take x.1).map dVa) x.2)]) (λx=>x.1<=l.length) (λx=>l.length - x.1) (0,0) (Ai _) λ⟨j,kv⟩ hj=>?_;dsimp only[Ac,Ad]at hj ⊢;have hlen:(l.take j).length=j:=by rw[Ak];omega
 rcases Ah j l.length with hj2|hj2
 ·have hone:=qx3 gl l[j] (hv _ (At hj2))
  (repeat' first|apply Ca 7;(refine j3 7 ?_)|apply Ca 23;refine Rc (hc:=FnE.ofD hone (by(repeat (first|exact aM.nil|apply aM.cons (Pure.d _)|apply aM.cons (Pure.nils _)));fail_if_success intros)) ?_|apply Ca 24;(refine Df 24 ?_)|refine yyp ?_;try refine Ce ?_ ?_<;>intro hb|refine yy ?_|(apply Cw;first|(refine Da (λkv=>?_))|(refine ai (λsx sp kv hsx hsp hsl=>?_)))|apply ah;refine Cc Ww ?_|refine Cb λK hK=>?_|apply_assumption -exfalso -symm)
  refine⟨(j+1,kv),by dsimp only;omega,by dsimp only;omega,?_⟩;dsimp only;rw[Ao hj2];simp only[Ar,Ap,Ba];exact r9
 (repeat' first|refine yyp ?_;try refine Ce ?_ ?_<;>intro hb|refine yy ?_|apply ah;refine Cc Ww ?_|refine Cb λK hK=>?_|apply_assumption -exfalso -symm)
 rw[Am hj2]
 (refine j1 (j8 ?_))
 rfl
end
end Go.Proofs.YtklklgfpkpglgaaGreatDoor
