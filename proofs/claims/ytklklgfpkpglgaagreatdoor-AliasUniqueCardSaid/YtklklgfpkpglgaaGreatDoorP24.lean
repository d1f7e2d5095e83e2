/- Parts: S27, S28. -/
import Derived.Test.YtklklgfpkpglgaaGreatDoorP23
set_option linter.all false
set_option maxRecDepth 100000
set_option maxHeartbeats 16000000
namespace Go.Proofs.YtklklgfpkpglgaaGreatDoor
open Go.RowKit Go.Proofs.Tryz
section
def Ig:List Nat:=[0,1,2,6,7,8,9,10,11,12,13,14,22,34,35,36]
def kr0:List Nat:=[7,8,13,14,15,16,17,18,19,20,21,22,23,24,25,26,27,28,29]
def kr1:List Nat:=[10,35,36,37,38,39,40,41,42,43,44]
variable {mm:Int}
noncomputable def evN (ev:List (ByteArray × Bool))(l:List ByteArray):Nat->List (ByteArray × Bool)
 |0=>ev
 |j+1=>if (l.take j).any (Sc.isB (l.getD j ByteArray.empty)) then evN ev l j++[(l.getD j ByteArray.empty,true)] else evN ev l j
theorem qg5 (ev:List (ByteArray × Bool))(l:List ByteArray):∀ j,evN ev l j=ev++(((List.range j).filter fun i=>(l.take i).any (Sc.isB (l.getD i ByteArray.empty))).map fun i=>(l.getD i ByteArray.empty,true))
 |0=>by simp[evN]
 |j+1=>by
  rw[evN,qg5 ev l j,List.range_succ,List.filter_append,As];split
  ·rename_i h;rw[List.filter_cons_of_pos (p:=fun i=>(l.take i).any (Sc.isB (l.getD i ByteArray.empty))) h,List.filter_nil,Aq,Ax,Bv]
  ·rename_i h;rw[List.filter_cons_of_neg (p:=fun i=>(l.take i).any (Sc.isB (l.getD i ByteArray.empty))) h,List.filter_nil,Ax,Ea]
theorem jv0 (ev:List (ByteArray × Bool))(l:List ByteArray):∀ j,(evN ev l j).length<=ev.length+j
 |0=>Au _
 |j+1=>by
  have:=jv0 ev l j;rw[evN];split
  ·simp;omega
  ·omega
theorem rl2 (l:List ByteArray)(j:Nat)(hj:j<l.length):l.getD j ByteArray.empty=l[j]:=by rw[List.getD_eq_getElem?_getD,At hj];rfl
theorem js3 (ev:List (ByteArray × Bool))(l:List ByteArray)(j:Nat)(hj:j<l.length):evN ev l (j+1)=if (l.take j).any (Sc.isB l[j]) then evN ev l j++[(l[j],true)] else evN ev l j:=by
 rw[evN,rl2 l j hj]
theorem jj4:∀ (l:List (Bool × List ByteArray)) (σ:Sc.W) (j:Nat) (hj:j<l.length),
 Sc.Cs σ (l.take (j+1))=((Sc.Cs σ (l.take j)).1++[⟨(Sc.Cu (Sc.Cs σ (l.take j)).2).1,l[j].1,l[j].2⟩],(Sc.Cu (Sc.Cs σ (l.take j)).2).2)
 |[],_,_,h=>by simp at h
 |x::l,σ,0,_=>by simp[Sc.Cs]
 |x::l,σ,j+1,h=>by
  have:=jj4 l (Sc.Cu σ).2 j (by simpa using h);simp only[Fc,Sc.Cs,this,Ff,Ac]
theorem Sc.Kz:∀ (l:List (Bool × List ByteArray)) (σ:Sc.W),(Sc.Cs σ l).1.length=l.length
 |[],σ=>rfl
 |x::l,σ=>by simp only[Sc.Cs,An,Sc.Kz l]
def kg2:Sc.Ent:=⟨ByteArray.empty,false,[]⟩
attribute [local irreducible] TR TC
theorem mm2 (gl:List (Nat × List D))(k:Sc.Kind)(σ:Sc.W)(nn:List ByteArray)(ds:List (Bool × List ByteArray))(s:Sp)(hle1:nn.length<=ds.length)(hle2:ds.length<=nn.length)(hn9:nn.length<=1000000000)(hr:σ.room nn.length)
 (hof:∀ (j:Nat) (hj:j<ds.length),FnE prog gl 81 [.d (.int .i64 j),.ptr 1002 0,.ptr 1003 0] ((1002,.box [.ptr 900 0])::(1003,.box (sv s))::HW k (Sc.Cs (Sc.Cr σ nn) (ds.take j)).2)
   (fun v H1=>v=.d (Gd ⟨(Sc.Cu (Sc.Cs (Sc.Cr σ nn) (ds.take j)).2).1,ds[j].1,ds[j].2⟩)/\H1=(1002,.box [.ptr 900 0])::(1003,.box (sv s))::HW k (Sc.Cu (Sc.Cs (Sc.Cr σ nn) (ds.take j)).2).2)):
 FnE prog gl 80 [.ptr 900 0,.d (.list 1 (nn.map .str)),.clo (.func 81) [] [.ptr 1002 0,.ptr 1003 0]] ((1002,.box [.ptr 900 0])::(1003,.box (sv s))::HW k σ)
  (fun v H1=>v=.d (.list 3 ((Sc.Cs (Sc.Cr σ nn) ds).1.map Gd))/\H1=(1002,.box [.ptr 900 0])::(1003,.box (sv s))::HW k (Sc.Cs (Sc.Cr σ nn) ds).2):=by
 have htw:Sc.Cr σ nn={σ with ev:=evN σ.ev nn nn.length}:=by rw[qg5];rfl
 rw[htw]at hof ⊢;unfold Sc.W.room at hr;obtain⟨env,tk,c,ev⟩:=σ;dsimp only at hof hr ⊢;clear htw;cases k
 all_goals dsimp only[HW,ja0,z6]at hof ⊢
 case free=>
  (refine j2 func80 ntmps80 results80 fun w M E b0=>?_)
  simp only[Aq,Ax]
  (repeat' first|refine yyp ?_;try refine Ce ?_ ?_<;>intro hb|refine yy ?_|refine at_nil ?_;refine Cc Ig ?_|refine Cb fun K hK=>?_|apply_assumption -exfalso -symm)
  refine j6 kr0 [903] (fun j:Nat=>[(13,.d (.int .i64 j))]) (fun j=>z6 .free ⟨env,tk,c,evN ev nn j⟩) (fun j=>j<=nn.length) (fun j=>nn.length - j) 0 (Ai _) fun j hj=>?_;dsimp only[Ac,Af,z6];rcases Ah j nn.length with hj2|hj2
  ·have hlen:=jv0 ev nn j;have hm:=ku6 gl ⟨env,tk,c,evN ev nn j⟩ nn[j] true (by dsimp only;omega);have hc:=y7 gl (nn.take j) nn[j];have hst:=js3 ev nn j hj2
   try dsimp only[z6,Sc.step]at hm
   generalize (nn.take j).any (Sc.isB nn[j])=b at hc hst;rw[Eg]at hc
   (repeat' first|refine Ca 28 ?_;refine Cg (hc:=hm) ?_|refine yyp ?_;try refine Ce ?_ ?_<;>intro hb|refine yy ?_|refine Ch 62 ?_;refine Ck (hc:=hc) ?_;try refine Ce ?_ ?_<;>intro hb|refine at_nil ?_;refine Cc Ig ?_|refine Cb fun K hK=>?_|apply_assumption -exfalso -symm)
   all_goals
    refine⟨j+1,by omega,by omega,?_⟩
    try simp only[hst,hb,if_true,if_false,Ba]
    exact k8
  obtain rfl:j=nn.length:=by omega
  (repeat' first|refine Ca 32 ?_;(refine kq2 32 ?_)|refine yyp ?_;try refine Ce ?_ ?_<;>intro hb|refine yy ?_|refine at_nil ?_;refine Cc Ig ?_|refine Cb fun K hK=>?_|apply_assumption -exfalso -symm)
  refine j6 kr1 [32,900,901,902,903,904,905] (fun j:Nat=>[(35,.d (.int .i64 j))]) (fun j=>(32,.row 112 3 false ((Sc.Cs ⟨env,tk,c,evN ev nn nn.length⟩ (ds.take j)).1.map Gd++List.replicate (nn.length - j) (Gd kg2)) 0)::HW .free (Sc.Cs ⟨env,tk,c,evN ev nn nn.length⟩ (ds.take j)).2) (fun j=>j<=nn.length) (fun j=>nn.length - j) 0 (Ai _) fun j hj=>?_;dsimp only[Ac,Af,HW,ja0,z6];have hlen:=Sc.Kz (ds.take j) ⟨env,tk,c,evN ev nn nn.length⟩;rw[Aj]at hlen;rcases Ah j nn.length with hj2|hj2
  ·have hone:=hof j (by omega);have hset:∀ x,((Sc.Cs ⟨env,tk,c,evN ev nn nn.length⟩ (ds.take j)).1.map Gd++List.replicate (nn.length - j) (Gd kg2)).set j x=(Sc.Cs ⟨env,tk,c,evN ev nn nn.length⟩ (ds.take j)).1.map Gd++[x]++List.replicate (nn.length - (j+1)) (Gd kg2):=fun x=>by
    rw[List.set_append_right _ _ (by rw[Ab];omega),show j - ((Sc.Cs ⟨env,tk,c,evN ev nn nn.length⟩ (ds.take j)).1.map Gd).length=0 by rw[Ab];omega,show nn.length - j=nn.length - (j+1)+1 by omega,List.replicate_succ,List.set_cons_zero,Bv];rfl
   have hin:j<((Sc.Cs ⟨env,tk,c,evN ev nn nn.length⟩ (ds.take j)).1.map Gd++List.replicate (nn.length - j) (Gd kg2)).length:=by rw[Ag,Ab,Eh];omega
   have htk:=jj4 ds ⟨env,tk,c,evN ev nn nn.length⟩ j (by omega)
   (repeat' first|refine Ca 42 ?_;refine Cg (hc:=hone) ?_|refine yyp ?_;try refine Ce ?_ ?_<;>intro hb|refine yy ?_|refine at_nil ?_;refine Cc Ig ?_|refine Cb fun K hK=>?_|apply_assumption -exfalso -symm)
   refine⟨j+1,by omega,by omega,?_⟩;rw[htk];dsimp only;rw[As,Aq,Ax,<-hset];exact k8
  obtain rfl:j=nn.length:=by omega
  rw[Nat.sub_self,List.replicate_zero,Ea,Am hle2]
  (repeat' first|refine yyp ?_;try refine Ce ?_ ?_<;>intro hb|refine yy ?_|refine at_nil ?_;refine Cc Ig ?_|refine Cb fun K hK=>?_|apply_assumption -exfalso -symm)
  refine jr7 32 rfl ?_
  (refine j1 (j4 ⟨?_,rfl⟩))
  rfl
 case check ns=>
  (refine j2 func80 ntmps80 results80 fun w M E b0=>?_)
  simp only[Aq,Ax]
  (repeat' first|refine yyp ?_;try refine Ce ?_ ?_<;>intro hb|refine yy ?_|refine at_nil ?_;refine Cc Ig ?_|refine Cb fun K hK=>?_|apply_assumption -exfalso -symm)
  refine j6 kr0 [903,904,905] (fun j:Nat=>[(13,.d (.int .i64 j))]) (fun j=>z6 (.check ns) ⟨env,tk,c,evN ev nn j⟩) (fun j=>j<=nn.length) (fun j=>nn.length - j) 0 (Ai _) fun j hj=>?_;dsimp only[Ac,Af,z6];rcases Ah j nn.length with hj2|hj2
  ·have hlen:=jv0 ev nn j;have hm:=ki8 gl ns ⟨env,tk,c,evN ev nn j⟩ nn[j] true;have hc:=y7 gl (nn.take j) nn[j];have hst:=js3 ev nn j hj2
   try dsimp only[z6,Sc.step]at hm
   generalize (nn.take j).any (Sc.isB nn[j])=b at hc hst;rw[Eg]at hc
   (repeat' first|refine Ca 28 ?_;refine Cg (hc:=hm) ?_|refine yyp ?_;try refine Ce ?_ ?_<;>intro hb|refine yy ?_|refine Ch 62 ?_;refine Ck (hc:=hc) ?_;try refine Ce ?_ ?_<;>intro hb|refine at_nil ?_;refine Cc Ig ?_|refine Cb fun K hK=>?_|apply_assumption -exfalso -symm)
   all_goals
    refine⟨j+1,by omega,by omega,?_⟩
    try simp only[hst,hb,if_true,if_false,Ba]
    exact k8
  obtain rfl:j=nn.length:=by omega
  (repeat' first|refine Ca 32 ?_;(refine kq2 32 ?_)|refine yyp ?_;try refine Ce ?_ ?_<;>intro hb|refine yy ?_|refine at_nil ?_;refine Cc Ig ?_|refine Cb fun K hK=>?_|apply_assumption -exfalso -symm)
  refine j6 kr1 [32,900,901,902,903,904,905] (fun j:Nat=>[(35,.d (.int .i64 j))]) (fun j=>(32,.row 112 3 false ((Sc.Cs ⟨env,tk,c,evN ev nn nn.length⟩ (ds.take j)).1.map Gd++List.replicate (nn.length - j) (Gd kg2)) 0)::HW (.check ns) (Sc.Cs ⟨env,tk,c,evN ev nn nn.length⟩ (ds.take j)).2) (fun j=>j<=nn.length) (fun j=>nn.length - j) 0 (Ai _) fun j hj=>?_;dsimp only[Ac,Af,HW,ja0,z6];have hlen:=Sc.Kz (ds.take j) ⟨env,tk,c,evN ev nn nn.length⟩;rw[Aj]at hlen;rcases Ah j nn.length with hj2|hj2
  ·have hone:=hof j (by omega);have hset:∀ x,((Sc.Cs ⟨env,tk,c,evN ev nn nn.length⟩ (ds.take j)).1.map Gd++List.replicate (nn.length - j) (Gd kg2)).set j x=(Sc.Cs ⟨env,tk,c,evN ev nn nn.length⟩ (ds.take j)).1.map Gd++[x]++List.replicate (nn.length - (j+1)) (Gd kg2):=fun x=>by
    rw[List.set_append_right _ _ (by rw[Ab];omega),show j - ((Sc.Cs ⟨env,tk,c,evN ev nn nn.length⟩ (ds.take j)).1.map Gd).length=0 by rw[Ab];omega,show nn.length - j=nn.length - (j+1)+1 by omega,List.replicate_succ,List.set_cons_zero,Bv];rfl
   have hin:j<((Sc.Cs ⟨env,tk,c,evN ev nn nn.length⟩ (ds.take j)).1.map Gd++List.replicate (nn.length - j) (Gd kg2)).length:=by rw[Ag,Ab,Eh];omega
   have htk:=jj4 ds ⟨env,tk,c,evN ev nn nn.length⟩ j (by omega)
   (repeat' first|refine Ca 42 ?_;refine Cg (hc:=hone) ?_|refine yyp ?_;try refine Ce ?_ ?_<;>intro hb|refine yy ?_|refine at_nil ?_;refine Cc Ig ?_|refine Cb fun K hK=>?_|apply_assumption -exfalso -symm)
   refine⟨j+1,by omega,by omega,?_⟩;rw[htk];dsimp only;rw[As,Aq,Ax,<-hset];exact k8
  obtain rfl:j=nn.length:=by omega
  rw[Nat.sub_self,List.replicate_zero,Ea,Am hle2]
  (repeat' first|refine yyp ?_;try refine Ce ?_ ?_<;>intro hb|refine yy ?_|refine at_nil ?_;refine Cc Ig ?_|refine Cb fun K hK=>?_|apply_assumption -exfalso -symm)
  refine jr7 32 rfl ?_
  (refine j1 (j4 ⟨?_,rfl⟩))
  rfl
 case none=>
  (refine j2 func80 ntmps80 results80 fun w M E b0=>?_)
  simp only[Aq,Ax]
  (repeat' first|refine yyp ?_;try refine Ce ?_ ?_<;>intro hb|refine yy ?_|refine at_nil ?_;refine Cc Ig ?_|refine Cb fun K hK=>?_|apply_assumption -exfalso -symm)
  refine j6 kr0 ([]:List Nat) (fun j:Nat=>[(13,.d (.int .i64 j))]) (fun j=>z6 .none ⟨env,tk,c,evN ev nn j⟩) (fun j=>j<=nn.length) (fun j=>nn.length - j) 0 (Ai _) fun j hj=>?_;dsimp only[Ac,Af,z6];rcases Ah j nn.length with hj2|hj2
  ·have hlen:=jv0 ev nn j;have hm:=kb3 gl nn[j] true;have hc:=y7 gl (nn.take j) nn[j];have hst:=js3 ev nn j hj2
   try dsimp only[z6,Sc.step]at hm
   generalize (nn.take j).any (Sc.isB nn[j])=b at hc hst;rw[Eg]at hc
   (repeat' first|refine Ca 28 ?_;refine Cg (hc:=hm) ?_|refine yyp ?_;try refine Ce ?_ ?_<;>intro hb|refine yy ?_|refine Ch 62 ?_;refine Ck (hc:=hc) ?_;try refine Ce ?_ ?_<;>intro hb|refine at_nil ?_;refine Cc Ig ?_|refine Cb fun K hK=>?_|apply_assumption -exfalso -symm)
   all_goals
    refine⟨j+1,by omega,by omega,?_⟩
    try simp only[hst,hb,if_true,if_false,Ba]
    exact k8
  obtain rfl:j=nn.length:=by omega
  (repeat' first|refine Ca 32 ?_;(refine kq2 32 ?_)|refine yyp ?_;try refine Ce ?_ ?_<;>intro hb|refine yy ?_|refine at_nil ?_;refine Cc Ig ?_|refine Cb fun K hK=>?_|apply_assumption -exfalso -symm)
  refine j6 kr1 [32,900,901,902,903,904,905] (fun j:Nat=>[(35,.d (.int .i64 j))]) (fun j=>(32,.row 112 3 false ((Sc.Cs ⟨env,tk,c,evN ev nn nn.length⟩ (ds.take j)).1.map Gd++List.replicate (nn.length - j) (Gd kg2)) 0)::HW .none (Sc.Cs ⟨env,tk,c,evN ev nn nn.length⟩ (ds.take j)).2) (fun j=>j<=nn.length) (fun j=>nn.length - j) 0 (Ai _) fun j hj=>?_;dsimp only[Ac,Af,HW,ja0,z6];have hlen:=Sc.Kz (ds.take j) ⟨env,tk,c,evN ev nn nn.length⟩;rw[Aj]at hlen;rcases Ah j nn.length with hj2|hj2
  ·have hone:=hof j (by omega);have hset:∀ x,((Sc.Cs ⟨env,tk,c,evN ev nn nn.length⟩ (ds.take j)).1.map Gd++List.replicate (nn.length - j) (Gd kg2)).set j x=(Sc.Cs ⟨env,tk,c,evN ev nn nn.length⟩ (ds.take j)).1.map Gd++[x]++List.replicate (nn.length - (j+1)) (Gd kg2):=fun x=>by
    rw[List.set_append_right _ _ (by rw[Ab];omega),show j - ((Sc.Cs ⟨env,tk,c,evN ev nn nn.length⟩ (ds.take j)).1.map Gd).length=0 by rw[Ab];omega,show nn.length - j=nn.length - (j+1)+1 by omega,List.replicate_succ,List.set_cons_zero,Bv];rfl
   have hin:j<((Sc.Cs ⟨env,tk,c,evN ev nn nn.length⟩ (ds.take j)).1.map Gd++List.replicate (nn.length - j) (Gd kg2)).length:=by rw[Ag,Ab,Eh];omega
   have htk:=jj4 ds ⟨env,tk,c,evN ev nn nn.length⟩ j (by omega)
   (repeat' first|refine Ca 42 ?_;refine Cg (hc:=hone) ?_|refine yyp ?_;try refine Ce ?_ ?_<;>intro hb|refine yy ?_|refine at_nil ?_;refine Cc Ig ?_|refine Cb fun K hK=>?_|apply_assumption -exfalso -symm)
   refine⟨j+1,by omega,by omega,?_⟩;rw[htk];dsimp only;rw[As,Aq,Ax,<-hset];exact k8
  obtain rfl:j=nn.length:=by omega
  rw[Nat.sub_self,List.replicate_zero,Ea,Am hle2]
  (repeat' first|refine yyp ?_;try refine Ce ?_ ?_<;>intro hb|refine yy ?_|refine at_nil ?_;refine Cc Ig ?_|refine Cb fun K hK=>?_|apply_assumption -exfalso -symm)
  refine jr7 32 rfl ?_
  (refine j1 (j4 ⟨?_,rfl⟩))
  rfl
theorem mm3 (gl:List (Nat × List D))(k:Sc.Kind)(σ:Sc.W)(nn:List ByteArray)(ds:List (Bool × List ByteArray))(s:Sp)(hle1:nn.length<=ds.length)(hle2:ds.length<=nn.length)(hn9:nn.length<=1000000000)(hr:σ.room nn.length)
 (hof:∀ (j:Nat) (hj:j<ds.length),FnE prog gl 83 [.d (.int .i64 j),.ptr 1002 0,.ptr 1003 0] ((1002,.box [.ptr 900 0])::(1003,.box (sv s))::HW k (Sc.Cs (Sc.Cr σ nn) (ds.take j)).2)
   (fun v H1=>v=.d (Gd ⟨(Sc.Cu (Sc.Cs (Sc.Cr σ nn) (ds.take j)).2).1,ds[j].1,ds[j].2⟩)/\H1=(1002,.box [.ptr 900 0])::(1003,.box (sv s))::HW k (Sc.Cu (Sc.Cs (Sc.Cr σ nn) (ds.take j)).2).2)):
 FnE prog gl 80 [.ptr 900 0,.d (.list 1 (nn.map .str)),.clo (.func 83) [] [.ptr 1002 0,.ptr 1003 0]] ((1002,.box [.ptr 900 0])::(1003,.box (sv s))::HW k σ)
  (fun v H1=>v=.d (.list 3 ((Sc.Cs (Sc.Cr σ nn) ds).1.map Gd))/\H1=(1002,.box [.ptr 900 0])::(1003,.box (sv s))::HW k (Sc.Cs (Sc.Cr σ nn) ds).2):=by
 have htw:Sc.Cr σ nn={σ with ev:=evN σ.ev nn nn.length}:=by rw[qg5];rfl
 rw[htw]at hof ⊢;unfold Sc.W.room at hr;obtain⟨env,tk,c,ev⟩:=σ;dsimp only at hof hr ⊢;clear htw;cases k
 all_goals dsimp only[HW,ja0,z6]at hof ⊢
 case free=>
  (refine j2 func80 ntmps80 results80 fun w M E b0=>?_)
  simp only[Aq,Ax]
  (repeat' first|refine yyp ?_;try refine Ce ?_ ?_<;>intro hb|refine yy ?_|refine at_nil ?_;refine Cc Ig ?_|refine Cb fun K hK=>?_|apply_assumption -exfalso -symm)
  refine j6 kr0 [903] (fun j:Nat=>[(13,.d (.int .i64 j))]) (fun j=>z6 .free ⟨env,tk,c,evN ev nn j⟩) (fun j=>j<=nn.length) (fun j=>nn.length - j) 0 (Ai _) fun j hj=>?_;dsimp only[Ac,Af,z6];rcases Ah j nn.length with hj2|hj2
  ·have hlen:=jv0 ev nn j;have hm:=ku6 gl ⟨env,tk,c,evN ev nn j⟩ nn[j] true (by dsimp only;omega);have hc:=y7 gl (nn.take j) nn[j];have hst:=js3 ev nn j hj2
   try dsimp only[z6,Sc.step]at hm
   generalize (nn.take j).any (Sc.isB nn[j])=b at hc hst;rw[Eg]at hc
   (repeat' first|refine Ca 28 ?_;refine Cg (hc:=hm) ?_|refine yyp ?_;try refine Ce ?_ ?_<;>intro hb|refine yy ?_|refine Ch 62 ?_;refine Ck (hc:=hc) ?_;try refine Ce ?_ ?_<;>intro hb|refine at_nil ?_;refine Cc Ig ?_|refine Cb fun K hK=>?_|apply_assumption -exfalso -symm)
   all_goals
    refine⟨j+1,by omega,by omega,?_⟩
    try simp only[hst,hb,if_true,if_false,Ba]
    exact k8
  obtain rfl:j=nn.length:=by omega
  (repeat' first|refine Ca 32 ?_;(refine kq2 32 ?_)|refine yyp ?_;try refine Ce ?_ ?_<;>intro hb|refine yy ?_|refine at_nil ?_;refine Cc Ig ?_|refine Cb fun K hK=>?_|apply_assumption -exfalso -symm)
  refine j6 kr1 [32,900,901,902,903,904,905] (fun j:Nat=>[(35,.d (.int .i64 j))]) (fun j=>(32,.row 112 3 false ((Sc.Cs ⟨env,tk,c,evN ev nn nn.length⟩ (ds.take j)).1.map Gd++List.replicate (nn.length - j) (Gd kg2)) 0)::HW .free (Sc.Cs ⟨env,tk,c,evN ev nn nn.length⟩ (ds.take j)).2) (fun j=>j<=nn.length) (fun j=>nn.length - j) 0 (Ai _) fun j hj=>?_;dsimp only[Ac,Af,HW,ja0,z6];have hlen:=Sc.Kz (ds.take j) ⟨env,tk,c,evN ev nn nn.length⟩;rw[Aj]at hlen;rcases Ah j nn.length with hj2|hj2
  ·have hone:=hof j (by omega);have hset:∀ x,((Sc.Cs ⟨env,tk,c,evN ev nn nn.length⟩ (ds.take j)).1.map Gd++List.replicate (nn.length - j) (Gd kg2)).set j x=(Sc.Cs ⟨env,tk,c,evN ev nn nn.length⟩ (ds.take j)).1.map Gd++[x]++List.replicate (nn.length - (j+1)) (Gd kg2):=fun x=>by
    rw[List.set_append_right _ _ (by rw[Ab];omega),show j - ((Sc.Cs ⟨env,tk,c,evN ev nn nn.length⟩ (ds.take j)).1.map Gd).length=0 by rw[Ab];omega,show nn.length - j=nn.length - (j+1)+1 by omega,List.replicate_succ,List.set_cons_zero,Bv];rfl
   have hin:j<((Sc.Cs ⟨env,tk,c,evN ev nn nn.length⟩ (ds.take j)).1.map Gd++List.replicate (nn.length - j) (Gd kg2)).length:=by rw[Ag,Ab,Eh];omega
   have htk:=jj4 ds ⟨env,tk,c,evN ev nn nn.length⟩ j (by omega)
   (repeat' first|refine Ca 42 ?_;refine Cg (hc:=hone) ?_|refine yyp ?_;try refine Ce ?_ ?_<;>intro hb|refine yy ?_|refine at_nil ?_;refine Cc Ig ?_|refine Cb fun K hK=>?_|apply_assumption -exfalso -symm)
   refine⟨j+1,by omega,by omega,?_⟩;rw[htk];dsimp only;rw[As,Aq,Ax,<-hset];exact k8
  obtain rfl:j=nn.length:=by omega
  rw[Nat.sub_self,List.replicate_zero,Ea,Am hle2]
  (repeat' first|refine yyp ?_;try refine Ce ?_ ?_<;>intro hb|refine yy ?_|refine at_nil ?_;refine Cc Ig ?_|refine Cb fun K hK=>?_|apply_assumption -exfalso -symm)
  refine jr7 32 rfl ?_
  (refine j1 (j4 ⟨?_,rfl⟩))
  rfl
 case check ns=>
  (refine j2 func80 ntmps80 results80 fun w M E b0=>?_)
  simp only[Aq,Ax]
  (repeat' first|refine yyp ?_;try refine Ce ?_ ?_<;>intro hb|refine yy ?_|refine at_nil ?_;refine Cc Ig ?_|refine Cb fun K hK=>?_|apply_assumption -exfalso -symm)
  refine j6 kr0 [903,904,905] (fun j:Nat=>[(13,.d (.int .i64 j))]) (fun j=>z6 (.check ns) ⟨env,tk,c,evN ev nn j⟩) (fun j=>j<=nn.length) (fun j=>nn.length - j) 0 (Ai _) fun j hj=>?_;dsimp only[Ac,Af,z6];rcases Ah j nn.length with hj2|hj2
  ·have hlen:=jv0 ev nn j;have hm:=ki8 gl ns ⟨env,tk,c,evN ev nn j⟩ nn[j] true;have hc:=y7 gl (nn.take j) nn[j];have hst:=js3 ev nn j hj2
   try dsimp only[z6,Sc.step]at hm
   generalize (nn.take j).any (Sc.isB nn[j])=b at hc hst;rw[Eg]at hc
   (repeat' first|refine Ca 28 ?_;refine Cg (hc:=hm) ?_|refine yyp ?_;try refine Ce ?_ ?_<;>intro hb|refine yy ?_|refine Ch 62 ?_;refine Ck (hc:=hc) ?_;try refine Ce ?_ ?_<;>intro hb|refine at_nil ?_;refine Cc Ig ?_|refine Cb fun K hK=>?_|apply_assumption -exfalso -symm)
   all_goals
    refine⟨j+1,by omega,by omega,?_⟩
    try simp only[hst,hb,if_true,if_false,Ba]
    exact k8
  obtain rfl:j=nn.length:=by omega
  (repeat' first|refine Ca 32 ?_;(refine kq2 32 ?_)|refine yyp ?_;try refine Ce ?_ ?_<;>intro hb|refine yy ?_|refine at_nil ?_;refine Cc Ig ?_|refine Cb fun K hK=>?_|apply_assumption -exfalso -symm)
  refine j6 kr1 [32,900,901,902,903,904,905] (fun j:Nat=>[(35,.d (.int .i64 j))]) (fun j=>(32,.row 112 3 false ((Sc.Cs ⟨env,tk,c,evN ev nn nn.length⟩ (ds.take j)).1.map Gd++List.replicate (nn.length - j) (Gd kg2)) 0)::HW (.check ns) (Sc.Cs ⟨env,tk,c,evN ev nn nn.length⟩ (ds.take j)).2) (fun j=>j<=nn.length) (fun j=>nn.length - j) 0 (Ai _) fun j hj=>?_;dsimp only[Ac,Af,HW,ja0,z6];have hlen:=Sc.Kz (ds.take j) ⟨env,tk,c,evN ev nn nn.length⟩;rw[Aj]at hlen;rcases Ah j nn.length with hj2|hj2
  ·have hone:=hof j (by omega);have hset:∀ x,((Sc.Cs ⟨env,tk,c,evN ev nn nn.length⟩ (ds.take j)).1.map Gd++List.replicate (nn.length - j) (Gd kg2)).set j x=(Sc.Cs ⟨env,tk,c,evN ev nn nn.length⟩ (ds.take j)).1.map Gd++[x]++List.replicate (nn.length - (j+1)) (Gd kg2):=fun x=>by
    rw[List.set_append_right _ _ (by rw[Ab];omega),show j - ((Sc.Cs ⟨env,tk,c,evN ev nn nn.length⟩ (ds.take j)).1.map Gd).length=0 by rw[Ab];omega,show nn.length - j=nn.length - (j+1)+1 by omega,List.replicate_succ,List.set_cons_zero,Bv];rfl
   have hin:j<((Sc.Cs ⟨env,tk,c,evN ev nn nn.length⟩ (ds.take j)).1.map Gd++List.replicate (nn.length - j) (Gd kg2)).length:=by rw[Ag,Ab,Eh];omega
   have htk:=jj4 ds ⟨env,tk,c,evN ev nn nn.length⟩ j (by omega)
   (repeat' first|refine Ca 42 ?_;refine Cg (hc:=hone) ?_|refine yyp ?_;try refine Ce ?_ ?_<;>intro hb|refine yy ?_|refine at_nil ?_;refine Cc Ig ?_|refine Cb fun K hK=>?_|apply_assumption -exfalso -symm)
   refine⟨j+1,by omega,by omega,?_⟩;rw[htk];dsimp only;rw[As,Aq,Ax,<-hset];exact k8
  obtain rfl:j=nn.length:=by omega
  rw[Nat.sub_self,List.replicate_zero,Ea,Am hle2]
  (repeat' first|refine yyp ?_;try refine Ce ?_ ?_<;>intro hb|refine yy ?_|refine at_nil ?_;refine Cc Ig ?_|refine Cb fun K hK=>?_|apply_assumption -exfalso -symm)
  refine jr7 32 rfl ?_
  (refine j1 (j4 ⟨?_,rfl⟩))
  rfl
 case none=>
  (refine j2 func80 ntmps80 results80 fun w M E b0=>?_)
  simp only[Aq,Ax]
  (repeat' first|refine yyp ?_;try refine Ce ?_ ?_<;>intro hb|refine yy ?_|refine at_nil ?_;refine Cc Ig ?_|refine Cb fun K hK=>?_|apply_assumption -exfalso -symm)
  refine j6 kr0 ([]:List Nat) (fun j:Nat=>[(13,.d (.int .i64 j))]) (fun j=>z6 .none ⟨env,tk,c,evN ev nn j⟩) (fun j=>j<=nn.length) (fun j=>nn.length - j) 0 (Ai _) fun j hj=>?_;dsimp only[Ac,Af,z6];rcases Ah j nn.length with hj2|hj2
  ·have hlen:=jv0 ev nn j;have hm:=kb3 gl nn[j] true;have hc:=y7 gl (nn.take j) nn[j];have hst:=js3 ev nn j hj2
   try dsimp only[z6,Sc.step]at hm
   generalize (nn.take j).any (Sc.isB nn[j])=b at hc hst;rw[Eg]at hc
   (repeat' first|refine Ca 28 ?_;refine Cg (hc:=hm) ?_|refine yyp ?_;try refine Ce ?_ ?_<;>intro hb|refine yy ?_|refine Ch 62 ?_;refine Ck (hc:=hc) ?_;try refine Ce ?_ ?_<;>intro hb|refine at_nil ?_;refine Cc Ig ?_|refine Cb fun K hK=>?_|apply_assumption -exfalso -symm)
   all_goals
    refine⟨j+1,by omega,by omega,?_⟩
    try simp only[hst,hb,if_true,if_false,Ba]
    exact k8
  obtain rfl:j=nn.length:=by omega
  (repeat' first|refine Ca 32 ?_;(refine kq2 32 ?_)|refine yyp ?_;try refine Ce ?_ ?_<;>intro hb|refine yy ?_|refine at_nil ?_;refine Cc Ig ?_|refine Cb fun K hK=>?_|apply_assumption -exfalso -symm)
  refine j6 kr1 [32,900,901,902,903,904,905] (fun j:Nat=>[(35,.d (.int .i64 j))]) (fun j=>(32,.row 112 3 false ((Sc.Cs ⟨env,tk,c,evN ev nn nn.length⟩ (ds.take j)).1.map Gd++List.replicate (nn.length - j) (Gd kg2)) 0)::HW .none (Sc.Cs ⟨env,tk,c,evN ev nn nn.length⟩ (ds.take j)).2) (fun j=>j<=nn.length) (fun j=>nn.length - j) 0 (Ai _) fun j hj=>?_;dsimp only[Ac,Af,HW,ja0,z6];have hlen:=Sc.Kz (ds.take j) ⟨env,tk,c,evN ev nn nn.length⟩;rw[Aj]at hlen;rcases Ah j nn.length with hj2|hj2
  ·have hone:=hof j (by omega);have hset:∀ x,((Sc.Cs ⟨env,tk,c,evN ev nn nn.length⟩ (ds.take j)).1.map Gd++List.replicate (nn.length - j) (Gd kg2)).set j x=(Sc.Cs ⟨env,tk,c,evN ev nn nn.length⟩ (ds.take j)).1.map Gd++[x]++List.replicate (nn.length - (j+1)) (Gd kg2):=fun x=>by
    rw[List.set_append_right _ _ (by rw[Ab];omega),show j - ((Sc.Cs ⟨env,tk,c,evN ev nn nn.length⟩ (ds.take j)).1.map Gd).length=0 by rw[Ab];omega,show nn.length - j=nn.length - (j+1)+1 by omega,List.replicate_succ,List.set_cons_zero,Bv];rfl
   have hin:j<((Sc.Cs ⟨env,tk,c,evN ev nn nn.length⟩ (ds.take j)).1.map Gd++List.replicate (nn.length - j) (Gd kg2)).length:=by rw[Ag,Ab,Eh];omega
   have htk:=jj4 ds ⟨env,tk,c,evN ev nn nn.length⟩ j (by omega)
   (repeat' first|refine Ca 42 ?_;refine Cg (hc:=hone) ?_|refine yyp ?_;try refine Ce ?_ ?_<;>intro hb|refine yy ?_|refine at_nil ?_;refine Cc Ig ?_|refine Cb fun K hK=>?_|apply_assumption -exfalso -symm)
   refine⟨j+1,by omega,by omega,?_⟩;rw[htk];dsimp only;rw[As,Aq,Ax,<-hset];exact k8
  obtain rfl:j=nn.length:=by omega
  rw[Nat.sub_self,List.replicate_zero,Ea,Am hle2]
  (repeat' first|refine yyp ?_;try refine Ce ?_ ?_<;>intro hb|refine yy ?_|refine at_nil ?_;refine Cc Ig ?_|refine Cb fun K hK=>?_|apply_assumption -exfalso -symm)
  refine jr7 32 rfl ?_
  (refine j1 (j4 ⟨?_,rfl⟩))
  rfl
end
section
def Ve:List Nat:=[0,1,4,5,7,10,14,15,16,17]
variable {mm:Int}
theorem Tryz.elI:rt3 prog 33 3 1 8:=qc2 (z:=.int .i64 0) (by kernel_rfl) Tryz.underlying33 rfl (by decide)
theorem Tryz.elK:rt3 prog 122 25 1 1:=qc2 (z:=.int .u8 0) (by kernel_rfl) Tryz.underlying122 rfl (by decide)
theorem Reads.rd {w:World}{M:Nat->Nat->Prop}{a:Option Addr}{ys:List Value}(h:Reads w M a ys):Rd w w.heap.size a ys:=fun j x hj=>by
 obtain⟨b,o,e,_,hc⟩:=h j x hj;exact⟨b,o,e,World.block_lt_of_cell? w ⟨b,o+j,none⟩ hc,hc⟩
theorem qg6 {w:World}{M:Nat->Nat->Prop}{sz:Nat}{xs:List D}{v:Value}(h:Gw w M (.list sz xs) v):∃ (a:Option Addr) (c:Nat) (ys:List Value),v=.slice a xs.length c/\Gn w M sz xs ys/\Sl w w.heap.size a xs.length c sz ys:=by
 obtain⟨a,c,ys,h1,h2,h3,h4,h5,h6⟩:=h;exact⟨a,c,ys,h1,h5,h5.length,h6.rd,h2,h3,h4⟩
theorem mr8 {w w':World}{M:Nat->Nat->Prop}{e sz:TypeId}{xs:List D}{ys:List Value}{a:Option Addr}{c n:Nat}(hM:∀ b o,M b o->b<w.heap.size)(hn:n=xs.length)(h:w'.ownsRow w.heap.size e sz (.slice a n c) n ys)(hr:Gn w' M sz xs ys):Gw w' M (.list sz xs) (.slice a n c):=by
 subst hn;have hs:=Sl.Rb h;refine⟨a,c,ys,rfl,hs.cap,hs.max,hs.nil,hr,fun j y hj=>?_⟩;obtain⟨b,o,e',_,hc⟩:=hs.rd j y hj;rcases h.2 with ⟨q1,q2⟩|⟨g,cap,cur,q,q0,q1,q2,q3,q4,q5⟩
 ·have h1:=h.1;simp only[Value.slice.injEq]at q1;obtain⟨_,q1,_⟩:=q1;have:ys.length=0:=by rw[h1,q1];simp
  have:=(Ay.1 hj).1;omega
 ·simp only[Value.slice.injEq]at q;obtain⟨rfl,_,rfl⟩:=q;cases e';exact⟨_,_,rfl,fun hm=>by have:=hM _ _ hm;omega,hc⟩
attribute [local irreducible] TR TC
theorem jh2 (gl:List (Nat × List D))(l:List Int)(hl:l.length<=10000000):FnD prog gl 51 [.d (.list 1 (l.map (.int .i64)))] (fun v=>v=.d (.list 1 (l.map (.int .i64)))):=by
 intro w M us hM hus _;simp only[Cv]at hus;obtain⟨v,r,rfl,hv,rfl⟩:=hus;obtain⟨a,c,ys,rfl,h1,hs⟩:=qg6 hv;have hn:(l.map (D.int .i64)).length=l.length:=Ab _;rw[hn]at hs ⊢;generalize hnl:l.length=n at *;have hk:=fun w=>Lib.run_eql_slice_nil (P:=prog) w 33 3 a n c 0 0 Tryz.underlying33;have hone:=Gn.one h1;have hyl:ys.length=n * 1:=hs.len;cases a with
 |none=>
  have hc:=hs.nil rfl;subst hc;have hn0:n=0:=by have:=hs.cap;omega
  subst hn0;have hx:l=[]:=Ar hnl;subst hx
  go_enter func51,ntmps51
  go_wp2
  go_ret
  exact⟨_,_,rfl,.d _,rfl,Below.refl _ _,none,0,[],rfl,Au _,Ai _,fun _=>rfl,rfl,Reads.nil _ _ _⟩
 |some ad=>
  have ho:=ku0 w [] 3 0 1 w.heap.size rfl (Ai _) (Au _)
  go_enter func51,ntmps51
  go_wp2_with (at_builtin;go_must (refine qc3 rfl (.tmp 5) (.tmp 6) 33 rfl Tryz.elI rfl ho rfl (hs.below ((Below.refl _ _).alloc (Au _) _) (Au _)) hone (by omega) (by omega) (by simp) ?_))
  intro a' c' w' h1' _ h3
  go_wp2
  go_ret
  have hb:=((Below.refl _ _).alloc (Au _) _).trans h3;exact⟨_,_,rfl,.d _,rfl,hb,mr8 hM (by rw[hn]) h1' (Gn.keep (Keeps.below hb) _ _ _ h1)⟩
theorem qw8 (gl:List (Nat × List D))(l:List Int)(hl:l.length<=10000000):FnD prog gl 91 [.d (.list 1 (l.map (.int .u8)))] (fun v=>v=.d (.list 1 (l.map (.int .u8)))):=by
 intro w M us hM hus _;simp only[Cv]at hus;obtain⟨v,r,rfl,hv,rfl⟩:=hus;obtain⟨a,c,ys,rfl,h1,hs⟩:=qg6 hv;have hn:(l.map (D.int .u8)).length=l.length:=Ab _;rw[hn]at hs ⊢;generalize hnl:l.length=n at *;have hk:=fun w=>Lib.run_eql_slice_nil (P:=prog) w 122 25 a n c 0 0 Tryz.underlying122;have hone:=Gn.one h1;have hyl:ys.length=n * 1:=hs.len;cases a with
 |none=>
  have hc:=hs.nil rfl;subst hc;have hn0:n=0:=by have:=hs.cap;omega
  subst hn0;have hx:l=[]:=Ar hnl;subst hx
  go_enter func91,ntmps91
  go_wp2
  go_ret
  exact⟨_,_,rfl,.d _,rfl,Below.refl _ _,none,0,[],rfl,Au _,Ai _,fun _=>rfl,rfl,Reads.nil _ _ _⟩
 |some ad=>
  have ho:=ku0 w [] 25 0 1 w.heap.size rfl (Ai _) (Au _)
  go_enter func91,ntmps91
  go_wp2_with (at_builtin;go_must (refine qc3 rfl (.tmp 5) (.tmp 6) 122 rfl Tryz.elK rfl ho rfl (hs.below ((Below.refl _ _).alloc (Au _) _) (Au _)) hone (by omega) (by omega) (by simp) ?_))
  intro a' c' w' h1' _ h3
  go_wp2
  go_ret
  have hb:=((Below.refl _ _).alloc (Au _) _).trans h3;exact⟨_,_,rfl,.d _,rfl,hb,mr8 hM (by rw[hn]) h1' (Gn.keep (Keeps.below hb) _ _ _ h1)⟩
theorem qw9 (gl:List (Nat × List D))(v:Va)(hv:v.items.length<=10000000):FnD prog gl 90 [.d (dVa v)] (fun r=>r=.d (dVa v)):=by
 have h:=qw8 gl v.items hv
 (refine j7 func90 ntmps90 results90 fun w M=>?_)
 (repeat' first|refine Ca 1 ?_;(refine Cq 1 ?_)|refine Ca 2 ?_;(refine j3 2 ?_)|refine yyp ?_;try refine Ce ?_ ?_<;>intro hb|refine yy ?_|refine Ch 91 ?_;refine Ck (hc:=h) ?_|refine at_nil ?_;refine Cc [0,1,2,3,4,5,6,124] ?_|refine Cb fun K hK=>?_|apply_assumption -exfalso -symm)
 (refine j1 (k7 ?_))
 rfl
theorem mx9 (gl:List (Nat × List D))(l:List Va)(hl:l.length<=1000000000)(hv:∀ v∈l,v.items.length<=10000000):FnD prog gl 89 [.d (.list 2 (l.map dVa)),.clo (.func 90) [] []] (fun r=>r=.d (.list 2 (l.map dVa))):=by
 (refine j7 func89 ntmps89 results89 fun w M=>?_)
 (repeat' first|refine Ca 13 ?_;(refine jc1 13 ?_)|refine yyp ?_;try refine Ce ?_ ?_<;>intro hb|refine yy ?_|refine yy2 ?_ ?_<;>intro hcmp|refine at_nil ?_;refine Cc Ve ?_|refine Cb fun K hK=>?_|apply_assumption -exfalso -symm)
 ·have h0:l=[]:=Ar (by omega);subst h0
  (refine j1 (k7 ?_))
  rfl
 refine j6 [5,7,16,17,18,19,20,21,22,23,24,25,26] [13] (fun x:Nat × Nat=>[(16,.d (.int .i64 x.1)),(5,.own 13 x.2)]) (fun x=>[(13,.row 124 2 true ((l.take x.1).map dVa) x.2)]) (fun x=>x.1<=l.length) (fun x=>l.length - x.1) (0,0) (Ai _) fun⟨j,kv⟩ hj=>?_;dsimp only[Ac,Af]at hj ⊢;have hlen:(l.take j).length=j:=by rw[Aj];omega
 rcases Ah j l.length with hj2|hj2
 ·have hone:=qw9 gl l[j] (hv _ (Aw hj2))
  (repeat' first|refine Ca 7 ?_;(refine j3 7 ?_)|refine Ca 23 ?_;refine Qj (hc:=FnE.ofD hone (by(repeat (first|exact Pures.nil|apply Pures.cons (Pure.d _)|apply Pures.cons (Pure.nils _)));fail_if_success intros)) ?_|refine Ca 24 ?_;(refine Dn 24 ?_)|refine yyp ?_;try refine Ce ?_ ?_<;>intro hb|refine yy ?_|(refine Da ?_;first|(refine Df (fun kv=>?_))|(refine z_append_suf (fun sx sp kv hsx hsp hsl=>?_)))|refine at_nil ?_;refine Cc Ve ?_|refine Cb fun K hK=>?_|apply_assumption -exfalso -symm)
  refine⟨(j+1,kv),by dsimp only;omega,by dsimp only;omega,?_⟩;dsimp only;rw[Ao hj2];simp only[As,Aq,Ax];exact k8
 (repeat' first|refine yyp ?_;try refine Ce ?_ ?_<;>intro hb|refine yy ?_|refine at_nil ?_;refine Cc Ve ?_|refine Cb fun K hK=>?_|apply_assumption -exfalso -symm)
 rw[Am hj2]
 (refine j1 (k7 ?_))
 rfl
end
end Go.Proofs.YtklklgfpkpglgaaGreatDoor
