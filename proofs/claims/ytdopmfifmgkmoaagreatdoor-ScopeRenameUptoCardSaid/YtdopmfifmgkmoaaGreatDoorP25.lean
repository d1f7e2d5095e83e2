/- Parts: S27, S28. -/
import Derived.Test.YtdopmfifmgkmoaaGreatDoorP24
set_option linter.all false
set_option maxRecDepth 100000
set_option maxHeartbeats 16000000
namespace Go.Proofs.YtdopmfifmgkmoaaGreatDoor
open Go.RowKit Go.Proofs.Tryz
section
def Ik:List Nat:=[0,1,2,6,7,8,9,10,11,12,13,14,22,34,35,36]
def kn8:List Nat:=[7,8,13,14,15,16,17,18,19,20,21,22,23,24,25,26,27,28,29]
def kn9:List Nat:=[10,35,36,37,38,39,40,41,42,43,44]
variable {mm:Int}
noncomputable def evN (ev:List (ByteArray × Bool))(l:List ByteArray):Nat->List (ByteArray × Bool)
 |0=>ev
 |j+1=>if (l.take j).any (Sc.isB (l.getD j ByteArray.empty)) then evN ev l j++[(l.getD j ByteArray.empty,true)] else evN ev l j
theorem mk9 (ev:List (ByteArray × Bool))(l:List ByteArray):∀ j,evN ev l j=ev++(((List.range j).filter fun i=>(l.take i).any (Sc.isB (l.getD i ByteArray.empty))).map fun i=>(l.getD i ByteArray.empty,true))
 |0=>by simp[evN]
 |j+1=>by
  rw[evN,mk9 ev l j,List.range_succ,List.filter_append,Ap];split
  ·rename_i h;rw[List.filter_cons_of_pos (p:=fun i=>(l.take i).any (Sc.isB (l.getD i ByteArray.empty))) h,List.filter_nil,Am,Aw,Bb]
  ·rename_i h;rw[List.filter_cons_of_neg (p:=fun i=>(l.take i).any (Sc.isB (l.getD i ByteArray.empty))) h,List.filter_nil,Aw,Bp]
theorem jn7 (ev:List (ByteArray × Bool))(l:List ByteArray):∀ j,(evN ev l j).length<=ev.length+j
 |0=>As _
 |j+1=>by
  have:=jn7 ev l j;rw[evN];split
  ·simp;omega
  ·omega
theorem rb6 (l:List ByteArray)(j:Nat)(hj:j<l.length):l.getD j ByteArray.empty=l[j]:=by rw[List.getD_eq_getElem?_getD,Be hj];rfl
theorem jm9 (ev:List (ByteArray × Bool))(l:List ByteArray)(j:Nat)(hj:j<l.length):evN ev l (j+1)=if (l.take j).any (Sc.isB l[j]) then evN ev l j++[(l[j],true)] else evN ev l j:=by
 rw[evN,rb6 l j hj]
theorem je3:∀ (l:List (Bool × List ByteArray)) (σ:Sc.W) (j:Nat) (hj:j<l.length),
 Sc.Co σ (l.take (j+1))=((Sc.Co σ (l.take j)).1++[⟨(Sc.Ct (Sc.Co σ (l.take j)).2).1,l[j].1,l[j].2⟩],(Sc.Ct (Sc.Co σ (l.take j)).2).2)
 |[],_,_,h=>by simp at h
 |x::l,σ,0,_=>by simp[Sc.Co]
 |x::l,σ,j+1,h=>by
  have:=je3 l (Sc.Ct σ).2 j (by simpa using h);simp only[Eg,Sc.Co,this,Bz,Ac]
theorem Sc.Ll:∀ (l:List (Bool × List ByteArray)) (σ:Sc.W),(Sc.Co σ l).1.length=l.length
 |[],σ=>rfl
 |x::l,σ=>by simp only[Sc.Co,Ai,Sc.Ll l]
def kc6:Sc.Ent:=⟨ByteArray.empty,false,[]⟩
attribute [local irreducible] TR TC
theorem mf8 (gl:List (Nat × List D))(k:Sc.Kind)(σ:Sc.W)(nn:List ByteArray)(ds:List (Bool × List ByteArray))(s:Sp)(hle1:nn.length<=ds.length)(hle2:ds.length<=nn.length)(hn9:nn.length<=1000000000)(hr:σ.room nn.length)
 (hof:∀ (j:Nat) (hj:j<ds.length),FnE prog gl 97 [.d (.int .i64 j),.ptr 1002 0,.ptr 1003 0] ((1002,.box [.ptr 900 0])::(1003,.box (sv s))::HW k (Sc.Co (Sc.Cu σ nn) (ds.take j)).2)
   (fun v H1=>v=.d (Ga ⟨(Sc.Ct (Sc.Co (Sc.Cu σ nn) (ds.take j)).2).1,ds[j].1,ds[j].2⟩)/\H1=(1002,.box [.ptr 900 0])::(1003,.box (sv s))::HW k (Sc.Ct (Sc.Co (Sc.Cu σ nn) (ds.take j)).2).2)):
 FnE prog gl 96 [.ptr 900 0,.d (.list 1 (nn.map .str)),.clo (.func 97) [] [.ptr 1002 0,.ptr 1003 0]] ((1002,.box [.ptr 900 0])::(1003,.box (sv s))::HW k σ)
  (fun v H1=>v=.d (.list 3 ((Sc.Co (Sc.Cu σ nn) ds).1.map Ga))/\H1=(1002,.box [.ptr 900 0])::(1003,.box (sv s))::HW k (Sc.Co (Sc.Cu σ nn) ds).2):=by
 have htw:Sc.Cu σ nn={σ with ev:=evN σ.ev nn nn.length}:=by rw[mk9];rfl
 rw[htw]at hof ⊢;unfold Sc.W.room at hr;obtain⟨env,tk,c,ev⟩:=σ;dsimp only at hof hr ⊢;clear htw;cases k
 all_goals dsimp only[HW,ja4,n6]at hof ⊢
 case free=>
  (refine j4 func96 ntmps96 results96 fun w M E b0=>?_)
  simp only[Am,Aw]
  (repeat' first|refine Ca 32 ?_;(refine p7 32 ?_)|refine yyp ?_;try refine Cc ?_ ?_<;>intro hb|refine yy ?_|refine yy2 ?_ ?_<;>intro hcmp|refine at_nil ?_;refine Ce Ik ?_|refine Cb fun K hK=>?_|apply_assumption -exfalso -symm)
  refine j8 kn8 [903] (fun j:Nat=>[(13,.d (.int .i64 j))]) (fun j=>n6 .free ⟨env,tk,c,evN ev nn j⟩) (fun j=>j<=nn.length) (fun j=>nn.length - j) 0 (Ak _) fun j hj=>?_;dsimp only[Ac,Ad,n6];rcases Ah j nn.length with hj2|hj2
  ·have hlen:=jn7 ev nn j;have hm:=kq7 gl ⟨env,tk,c,evN ev nn j⟩ nn[j] true (by dsimp only;omega);have hc:=l9 gl (nn.take j) nn[j];have hst:=jm9 ev nn j hj2
   try dsimp only[n6,Sc.step]at hm
   generalize (nn.take j).any (Sc.isB nn[j])=b at hc hst;rw[Ep]at hc
   (repeat' first|refine Ca 28 ?_;refine Ch (hc:=hm) ?_|refine Ca 32 ?_;(refine p7 32 ?_)|refine yyp ?_;try refine Cc ?_ ?_<;>intro hb|refine yy ?_|refine yy2 ?_ ?_<;>intro hcmp|refine Cf 39 ?_;refine Cg (hc:=hc) ?_;try refine Cc ?_ ?_<;>intro hb|refine at_nil ?_;refine Ce Ik ?_|refine Cb fun K hK=>?_|apply_assumption -exfalso -symm)
   all_goals
    refine⟨j+1,by omega,by omega,?_⟩
    try simp only[hst,hb,if_true,if_false,Ay]
    exact v6
  obtain rfl:j=nn.length:=by omega
  (repeat' first|refine Ca 32 ?_;(refine p7 32 ?_)|refine yyp ?_;try refine Cc ?_ ?_<;>intro hb|refine yy ?_|refine yy2 ?_ ?_<;>intro hcmp|refine at_nil ?_;refine Ce Ik ?_|refine Cb fun K hK=>?_|apply_assumption -exfalso -symm)
  refine j8 kn9 [32,900,901,902,903,904,905] (fun j:Nat=>[(35,.d (.int .i64 j))]) (fun j=>(32,.row 120 3 false ((Sc.Co ⟨env,tk,c,evN ev nn nn.length⟩ (ds.take j)).1.map Ga++List.replicate (nn.length - j) (Ga kc6)) 0)::HW .free (Sc.Co ⟨env,tk,c,evN ev nn nn.length⟩ (ds.take j)).2) (fun j=>j<=nn.length) (fun j=>nn.length - j) 0 (Ak _) fun j hj=>?_;dsimp only[Ac,Ad,HW,ja4,n6];have hlen:=Sc.Ll (ds.take j) ⟨env,tk,c,evN ev nn nn.length⟩;rw[Aj]at hlen;rcases Ah j nn.length with hj2|hj2
  ·have hone:=hof j (by omega);have hset:∀ x,((Sc.Co ⟨env,tk,c,evN ev nn nn.length⟩ (ds.take j)).1.map Ga++List.replicate (nn.length - j) (Ga kc6)).set j x=(Sc.Co ⟨env,tk,c,evN ev nn nn.length⟩ (ds.take j)).1.map Ga++[x]++List.replicate (nn.length - (j+1)) (Ga kc6):=fun x=>by
    rw[Fe _ _ (by rw[Aa];omega),show j - ((Sc.Co ⟨env,tk,c,evN ev nn nn.length⟩ (ds.take j)).1.map Ga).length=0 by rw[Aa];omega,show nn.length - j=nn.length - (j+1)+1 by omega,List.replicate_succ,Ff,Bb];rfl
   have hin:j<((Sc.Co ⟨env,tk,c,evN ev nn nn.length⟩ (ds.take j)).1.map Ga++List.replicate (nn.length - j) (Ga kc6)).length:=by rw[Ag,Aa,Ew];omega
   have htk:=je3 ds ⟨env,tk,c,evN ev nn nn.length⟩ j (by omega)
   (repeat' first|refine Ca 32 ?_;(refine p7 32 ?_)|refine Ca 42 ?_;refine Ch (hc:=hone) ?_|refine yyp ?_;try refine Cc ?_ ?_<;>intro hb|refine yy ?_|refine yy2 ?_ ?_<;>intro hcmp|refine at_nil ?_;refine Ce Ik ?_|refine Cb fun K hK=>?_|apply_assumption -exfalso -symm)
   refine⟨j+1,by omega,by omega,?_⟩;rw[htk];dsimp only;rw[Ap,Am,Aw,<-hset];exact v6
  obtain rfl:j=nn.length:=by omega
  rw[Nat.sub_self,List.replicate_zero,Bp,Ao hle2]
  (repeat' first|refine Ca 32 ?_;(refine p7 32 ?_)|refine yyp ?_;try refine Cc ?_ ?_<;>intro hb|refine yy ?_|refine yy2 ?_ ?_<;>intro hcmp|refine at_nil ?_;refine Ce Ik ?_|refine Cb fun K hK=>?_|apply_assumption -exfalso -symm)
  refine jk2 32 rfl ?_
  (refine j0 (j7 ⟨?_,rfl⟩))
  rfl
 case check ns=>
  (refine j4 func96 ntmps96 results96 fun w M E b0=>?_)
  simp only[Am,Aw]
  (repeat' first|refine Ca 32 ?_;(refine p7 32 ?_)|refine yyp ?_;try refine Cc ?_ ?_<;>intro hb|refine yy ?_|refine yy2 ?_ ?_<;>intro hcmp|refine at_nil ?_;refine Ce Ik ?_|refine Cb fun K hK=>?_|apply_assumption -exfalso -symm)
  refine j8 kn8 [903,904,905] (fun j:Nat=>[(13,.d (.int .i64 j))]) (fun j=>n6 (.check ns) ⟨env,tk,c,evN ev nn j⟩) (fun j=>j<=nn.length) (fun j=>nn.length - j) 0 (Ak _) fun j hj=>?_;dsimp only[Ac,Ad,n6];rcases Ah j nn.length with hj2|hj2
  ·have hlen:=jn7 ev nn j;have hm:=ke6 gl ns ⟨env,tk,c,evN ev nn j⟩ nn[j] true;have hc:=l9 gl (nn.take j) nn[j];have hst:=jm9 ev nn j hj2
   try dsimp only[n6,Sc.step]at hm
   generalize (nn.take j).any (Sc.isB nn[j])=b at hc hst;rw[Ep]at hc
   (repeat' first|refine Ca 28 ?_;refine Ch (hc:=hm) ?_|refine Ca 32 ?_;(refine p7 32 ?_)|refine yyp ?_;try refine Cc ?_ ?_<;>intro hb|refine yy ?_|refine yy2 ?_ ?_<;>intro hcmp|refine Cf 39 ?_;refine Cg (hc:=hc) ?_;try refine Cc ?_ ?_<;>intro hb|refine at_nil ?_;refine Ce Ik ?_|refine Cb fun K hK=>?_|apply_assumption -exfalso -symm)
   all_goals
    refine⟨j+1,by omega,by omega,?_⟩
    try simp only[hst,hb,if_true,if_false,Ay]
    exact v6
  obtain rfl:j=nn.length:=by omega
  (repeat' first|refine Ca 32 ?_;(refine p7 32 ?_)|refine yyp ?_;try refine Cc ?_ ?_<;>intro hb|refine yy ?_|refine yy2 ?_ ?_<;>intro hcmp|refine at_nil ?_;refine Ce Ik ?_|refine Cb fun K hK=>?_|apply_assumption -exfalso -symm)
  refine j8 kn9 [32,900,901,902,903,904,905] (fun j:Nat=>[(35,.d (.int .i64 j))]) (fun j=>(32,.row 120 3 false ((Sc.Co ⟨env,tk,c,evN ev nn nn.length⟩ (ds.take j)).1.map Ga++List.replicate (nn.length - j) (Ga kc6)) 0)::HW (.check ns) (Sc.Co ⟨env,tk,c,evN ev nn nn.length⟩ (ds.take j)).2) (fun j=>j<=nn.length) (fun j=>nn.length - j) 0 (Ak _) fun j hj=>?_;dsimp only[Ac,Ad,HW,ja4,n6];have hlen:=Sc.Ll (ds.take j) ⟨env,tk,c,evN ev nn nn.length⟩;rw[Aj]at hlen;rcases Ah j nn.length with hj2|hj2
  ·have hone:=hof j (by omega);have hset:∀ x,((Sc.Co ⟨env,tk,c,evN ev nn nn.length⟩ (ds.take j)).1.map Ga++List.replicate (nn.length - j) (Ga kc6)).set j x=(Sc.Co ⟨env,tk,c,evN ev nn nn.length⟩ (ds.take j)).1.map Ga++[x]++List.replicate (nn.length - (j+1)) (Ga kc6):=fun x=>by
    rw[Fe _ _ (by rw[Aa];omega),show j - ((Sc.Co ⟨env,tk,c,evN ev nn nn.length⟩ (ds.take j)).1.map Ga).length=0 by rw[Aa];omega,show nn.length - j=nn.length - (j+1)+1 by omega,List.replicate_succ,Ff,Bb];rfl
   have hin:j<((Sc.Co ⟨env,tk,c,evN ev nn nn.length⟩ (ds.take j)).1.map Ga++List.replicate (nn.length - j) (Ga kc6)).length:=by rw[Ag,Aa,Ew];omega
   have htk:=je3 ds ⟨env,tk,c,evN ev nn nn.length⟩ j (by omega)
   (repeat' first|refine Ca 32 ?_;(refine p7 32 ?_)|refine Ca 42 ?_;refine Ch (hc:=hone) ?_|refine yyp ?_;try refine Cc ?_ ?_<;>intro hb|refine yy ?_|refine yy2 ?_ ?_<;>intro hcmp|refine at_nil ?_;refine Ce Ik ?_|refine Cb fun K hK=>?_|apply_assumption -exfalso -symm)
   refine⟨j+1,by omega,by omega,?_⟩;rw[htk];dsimp only;rw[Ap,Am,Aw,<-hset];exact v6
  obtain rfl:j=nn.length:=by omega
  rw[Nat.sub_self,List.replicate_zero,Bp,Ao hle2]
  (repeat' first|refine Ca 32 ?_;(refine p7 32 ?_)|refine yyp ?_;try refine Cc ?_ ?_<;>intro hb|refine yy ?_|refine yy2 ?_ ?_<;>intro hcmp|refine at_nil ?_;refine Ce Ik ?_|refine Cb fun K hK=>?_|apply_assumption -exfalso -symm)
  refine jk2 32 rfl ?_
  (refine j0 (j7 ⟨?_,rfl⟩))
  rfl
 case none=>
  (refine j4 func96 ntmps96 results96 fun w M E b0=>?_)
  simp only[Am,Aw]
  (repeat' first|refine Ca 32 ?_;(refine p7 32 ?_)|refine yyp ?_;try refine Cc ?_ ?_<;>intro hb|refine yy ?_|refine yy2 ?_ ?_<;>intro hcmp|refine at_nil ?_;refine Ce Ik ?_|refine Cb fun K hK=>?_|apply_assumption -exfalso -symm)
  refine j8 kn8 ([]:List Nat) (fun j:Nat=>[(13,.d (.int .i64 j))]) (fun j=>n6 .none ⟨env,tk,c,evN ev nn j⟩) (fun j=>j<=nn.length) (fun j=>nn.length - j) 0 (Ak _) fun j hj=>?_;dsimp only[Ac,Ad,n6];rcases Ah j nn.length with hj2|hj2
  ·have hlen:=jn7 ev nn j;have hm:=jx7 gl nn[j] true;have hc:=l9 gl (nn.take j) nn[j];have hst:=jm9 ev nn j hj2
   try dsimp only[n6,Sc.step]at hm
   generalize (nn.take j).any (Sc.isB nn[j])=b at hc hst;rw[Ep]at hc
   (repeat' first|refine Ca 28 ?_;refine Ch (hc:=hm) ?_|refine Ca 32 ?_;(refine p7 32 ?_)|refine yyp ?_;try refine Cc ?_ ?_<;>intro hb|refine yy ?_|refine yy2 ?_ ?_<;>intro hcmp|refine Cf 39 ?_;refine Cg (hc:=hc) ?_;try refine Cc ?_ ?_<;>intro hb|refine at_nil ?_;refine Ce Ik ?_|refine Cb fun K hK=>?_|apply_assumption -exfalso -symm)
   all_goals
    refine⟨j+1,by omega,by omega,?_⟩
    try simp only[hst,hb,if_true,if_false,Ay]
    exact v6
  obtain rfl:j=nn.length:=by omega
  (repeat' first|refine Ca 32 ?_;(refine p7 32 ?_)|refine yyp ?_;try refine Cc ?_ ?_<;>intro hb|refine yy ?_|refine yy2 ?_ ?_<;>intro hcmp|refine at_nil ?_;refine Ce Ik ?_|refine Cb fun K hK=>?_|apply_assumption -exfalso -symm)
  refine j8 kn9 [32,900,901,902,903,904,905] (fun j:Nat=>[(35,.d (.int .i64 j))]) (fun j=>(32,.row 120 3 false ((Sc.Co ⟨env,tk,c,evN ev nn nn.length⟩ (ds.take j)).1.map Ga++List.replicate (nn.length - j) (Ga kc6)) 0)::HW .none (Sc.Co ⟨env,tk,c,evN ev nn nn.length⟩ (ds.take j)).2) (fun j=>j<=nn.length) (fun j=>nn.length - j) 0 (Ak _) fun j hj=>?_;dsimp only[Ac,Ad,HW,ja4,n6];have hlen:=Sc.Ll (ds.take j) ⟨env,tk,c,evN ev nn nn.length⟩;rw[Aj]at hlen;rcases Ah j nn.length with hj2|hj2
  ·have hone:=hof j (by omega);have hset:∀ x,((Sc.Co ⟨env,tk,c,evN ev nn nn.length⟩ (ds.take j)).1.map Ga++List.replicate (nn.length - j) (Ga kc6)).set j x=(Sc.Co ⟨env,tk,c,evN ev nn nn.length⟩ (ds.take j)).1.map Ga++[x]++List.replicate (nn.length - (j+1)) (Ga kc6):=fun x=>by
    rw[Fe _ _ (by rw[Aa];omega),show j - ((Sc.Co ⟨env,tk,c,evN ev nn nn.length⟩ (ds.take j)).1.map Ga).length=0 by rw[Aa];omega,show nn.length - j=nn.length - (j+1)+1 by omega,List.replicate_succ,Ff,Bb];rfl
   have hin:j<((Sc.Co ⟨env,tk,c,evN ev nn nn.length⟩ (ds.take j)).1.map Ga++List.replicate (nn.length - j) (Ga kc6)).length:=by rw[Ag,Aa,Ew];omega
   have htk:=je3 ds ⟨env,tk,c,evN ev nn nn.length⟩ j (by omega)
   (repeat' first|refine Ca 32 ?_;(refine p7 32 ?_)|refine Ca 42 ?_;refine Ch (hc:=hone) ?_|refine yyp ?_;try refine Cc ?_ ?_<;>intro hb|refine yy ?_|refine yy2 ?_ ?_<;>intro hcmp|refine at_nil ?_;refine Ce Ik ?_|refine Cb fun K hK=>?_|apply_assumption -exfalso -symm)
   refine⟨j+1,by omega,by omega,?_⟩;rw[htk];dsimp only;rw[Ap,Am,Aw,<-hset];exact v6
  obtain rfl:j=nn.length:=by omega
  rw[Nat.sub_self,List.replicate_zero,Bp,Ao hle2]
  (repeat' first|refine Ca 32 ?_;(refine p7 32 ?_)|refine yyp ?_;try refine Cc ?_ ?_<;>intro hb|refine yy ?_|refine yy2 ?_ ?_<;>intro hcmp|refine at_nil ?_;refine Ce Ik ?_|refine Cb fun K hK=>?_|apply_assumption -exfalso -symm)
  refine jk2 32 rfl ?_
  (refine j0 (j7 ⟨?_,rfl⟩))
  rfl
theorem mf9 (gl:List (Nat × List D))(k:Sc.Kind)(σ:Sc.W)(nn:List ByteArray)(ds:List (Bool × List ByteArray))(s:Sp)(hle1:nn.length<=ds.length)(hle2:ds.length<=nn.length)(hn9:nn.length<=1000000000)(hr:σ.room nn.length)
 (hof:∀ (j:Nat) (hj:j<ds.length),FnE prog gl 99 [.d (.int .i64 j),.ptr 1002 0,.ptr 1003 0] ((1002,.box [.ptr 900 0])::(1003,.box (sv s))::HW k (Sc.Co (Sc.Cu σ nn) (ds.take j)).2)
   (fun v H1=>v=.d (Ga ⟨(Sc.Ct (Sc.Co (Sc.Cu σ nn) (ds.take j)).2).1,ds[j].1,ds[j].2⟩)/\H1=(1002,.box [.ptr 900 0])::(1003,.box (sv s))::HW k (Sc.Ct (Sc.Co (Sc.Cu σ nn) (ds.take j)).2).2)):
 FnE prog gl 96 [.ptr 900 0,.d (.list 1 (nn.map .str)),.clo (.func 99) [] [.ptr 1002 0,.ptr 1003 0]] ((1002,.box [.ptr 900 0])::(1003,.box (sv s))::HW k σ)
  (fun v H1=>v=.d (.list 3 ((Sc.Co (Sc.Cu σ nn) ds).1.map Ga))/\H1=(1002,.box [.ptr 900 0])::(1003,.box (sv s))::HW k (Sc.Co (Sc.Cu σ nn) ds).2):=by
 have htw:Sc.Cu σ nn={σ with ev:=evN σ.ev nn nn.length}:=by rw[mk9];rfl
 rw[htw]at hof ⊢;unfold Sc.W.room at hr;obtain⟨env,tk,c,ev⟩:=σ;dsimp only at hof hr ⊢;clear htw;cases k
 all_goals dsimp only[HW,ja4,n6]at hof ⊢
 case free=>
  (refine j4 func96 ntmps96 results96 fun w M E b0=>?_)
  simp only[Am,Aw]
  (repeat' first|refine Ca 32 ?_;(refine p7 32 ?_)|refine yyp ?_;try refine Cc ?_ ?_<;>intro hb|refine yy ?_|refine yy2 ?_ ?_<;>intro hcmp|refine at_nil ?_;refine Ce Ik ?_|refine Cb fun K hK=>?_|apply_assumption -exfalso -symm)
  refine j8 kn8 [903] (fun j:Nat=>[(13,.d (.int .i64 j))]) (fun j=>n6 .free ⟨env,tk,c,evN ev nn j⟩) (fun j=>j<=nn.length) (fun j=>nn.length - j) 0 (Ak _) fun j hj=>?_;dsimp only[Ac,Ad,n6];rcases Ah j nn.length with hj2|hj2
  ·have hlen:=jn7 ev nn j;have hm:=kq7 gl ⟨env,tk,c,evN ev nn j⟩ nn[j] true (by dsimp only;omega);have hc:=l9 gl (nn.take j) nn[j];have hst:=jm9 ev nn j hj2
   try dsimp only[n6,Sc.step]at hm
   generalize (nn.take j).any (Sc.isB nn[j])=b at hc hst;rw[Ep]at hc
   (repeat' first|refine Ca 28 ?_;refine Ch (hc:=hm) ?_|refine Ca 32 ?_;(refine p7 32 ?_)|refine yyp ?_;try refine Cc ?_ ?_<;>intro hb|refine yy ?_|refine yy2 ?_ ?_<;>intro hcmp|refine Cf 39 ?_;refine Cg (hc:=hc) ?_;try refine Cc ?_ ?_<;>intro hb|refine at_nil ?_;refine Ce Ik ?_|refine Cb fun K hK=>?_|apply_assumption -exfalso -symm)
   all_goals
    refine⟨j+1,by omega,by omega,?_⟩
    try simp only[hst,hb,if_true,if_false,Ay]
    exact v6
  obtain rfl:j=nn.length:=by omega
  (repeat' first|refine Ca 32 ?_;(refine p7 32 ?_)|refine yyp ?_;try refine Cc ?_ ?_<;>intro hb|refine yy ?_|refine yy2 ?_ ?_<;>intro hcmp|refine at_nil ?_;refine Ce Ik ?_|refine Cb fun K hK=>?_|apply_assumption -exfalso -symm)
  refine j8 kn9 [32,900,901,902,903,904,905] (fun j:Nat=>[(35,.d (.int .i64 j))]) (fun j=>(32,.row 120 3 false ((Sc.Co ⟨env,tk,c,evN ev nn nn.length⟩ (ds.take j)).1.map Ga++List.replicate (nn.length - j) (Ga kc6)) 0)::HW .free (Sc.Co ⟨env,tk,c,evN ev nn nn.length⟩ (ds.take j)).2) (fun j=>j<=nn.length) (fun j=>nn.length - j) 0 (Ak _) fun j hj=>?_;dsimp only[Ac,Ad,HW,ja4,n6];have hlen:=Sc.Ll (ds.take j) ⟨env,tk,c,evN ev nn nn.length⟩;rw[Aj]at hlen;rcases Ah j nn.length with hj2|hj2
  ·have hone:=hof j (by omega);have hset:∀ x,((Sc.Co ⟨env,tk,c,evN ev nn nn.length⟩ (ds.take j)).1.map Ga++List.replicate (nn.length - j) (Ga kc6)).set j x=(Sc.Co ⟨env,tk,c,evN ev nn nn.length⟩ (ds.take j)).1.map Ga++[x]++List.replicate (nn.length - (j+1)) (Ga kc6):=fun x=>by
    rw[Fe _ _ (by rw[Aa];omega),show j - ((Sc.Co ⟨env,tk,c,evN ev nn nn.length⟩ (ds.take j)).1.map Ga).length=0 by rw[Aa];omega,show nn.length - j=nn.length - (j+1)+1 by omega,List.replicate_succ,Ff,Bb];rfl
   have hin:j<((Sc.Co ⟨env,tk,c,evN ev nn nn.length⟩ (ds.take j)).1.map Ga++List.replicate (nn.length - j) (Ga kc6)).length:=by rw[Ag,Aa,Ew];omega
   have htk:=je3 ds ⟨env,tk,c,evN ev nn nn.length⟩ j (by omega)
   (repeat' first|refine Ca 32 ?_;(refine p7 32 ?_)|refine Ca 42 ?_;refine Ch (hc:=hone) ?_|refine yyp ?_;try refine Cc ?_ ?_<;>intro hb|refine yy ?_|refine yy2 ?_ ?_<;>intro hcmp|refine at_nil ?_;refine Ce Ik ?_|refine Cb fun K hK=>?_|apply_assumption -exfalso -symm)
   refine⟨j+1,by omega,by omega,?_⟩;rw[htk];dsimp only;rw[Ap,Am,Aw,<-hset];exact v6
  obtain rfl:j=nn.length:=by omega
  rw[Nat.sub_self,List.replicate_zero,Bp,Ao hle2]
  (repeat' first|refine Ca 32 ?_;(refine p7 32 ?_)|refine yyp ?_;try refine Cc ?_ ?_<;>intro hb|refine yy ?_|refine yy2 ?_ ?_<;>intro hcmp|refine at_nil ?_;refine Ce Ik ?_|refine Cb fun K hK=>?_|apply_assumption -exfalso -symm)
  refine jk2 32 rfl ?_
  (refine j0 (j7 ⟨?_,rfl⟩))
  rfl
 case check ns=>
  (refine j4 func96 ntmps96 results96 fun w M E b0=>?_)
  simp only[Am,Aw]
  (repeat' first|refine Ca 32 ?_;(refine p7 32 ?_)|refine yyp ?_;try refine Cc ?_ ?_<;>intro hb|refine yy ?_|refine yy2 ?_ ?_<;>intro hcmp|refine at_nil ?_;refine Ce Ik ?_|refine Cb fun K hK=>?_|apply_assumption -exfalso -symm)
  refine j8 kn8 [903,904,905] (fun j:Nat=>[(13,.d (.int .i64 j))]) (fun j=>n6 (.check ns) ⟨env,tk,c,evN ev nn j⟩) (fun j=>j<=nn.length) (fun j=>nn.length - j) 0 (Ak _) fun j hj=>?_;dsimp only[Ac,Ad,n6];rcases Ah j nn.length with hj2|hj2
  ·have hlen:=jn7 ev nn j;have hm:=ke6 gl ns ⟨env,tk,c,evN ev nn j⟩ nn[j] true;have hc:=l9 gl (nn.take j) nn[j];have hst:=jm9 ev nn j hj2
   try dsimp only[n6,Sc.step]at hm
   generalize (nn.take j).any (Sc.isB nn[j])=b at hc hst;rw[Ep]at hc
   (repeat' first|refine Ca 28 ?_;refine Ch (hc:=hm) ?_|refine Ca 32 ?_;(refine p7 32 ?_)|refine yyp ?_;try refine Cc ?_ ?_<;>intro hb|refine yy ?_|refine yy2 ?_ ?_<;>intro hcmp|refine Cf 39 ?_;refine Cg (hc:=hc) ?_;try refine Cc ?_ ?_<;>intro hb|refine at_nil ?_;refine Ce Ik ?_|refine Cb fun K hK=>?_|apply_assumption -exfalso -symm)
   all_goals
    refine⟨j+1,by omega,by omega,?_⟩
    try simp only[hst,hb,if_true,if_false,Ay]
    exact v6
  obtain rfl:j=nn.length:=by omega
  (repeat' first|refine Ca 32 ?_;(refine p7 32 ?_)|refine yyp ?_;try refine Cc ?_ ?_<;>intro hb|refine yy ?_|refine yy2 ?_ ?_<;>intro hcmp|refine at_nil ?_;refine Ce Ik ?_|refine Cb fun K hK=>?_|apply_assumption -exfalso -symm)
  refine j8 kn9 [32,900,901,902,903,904,905] (fun j:Nat=>[(35,.d (.int .i64 j))]) (fun j=>(32,.row 120 3 false ((Sc.Co ⟨env,tk,c,evN ev nn nn.length⟩ (ds.take j)).1.map Ga++List.replicate (nn.length - j) (Ga kc6)) 0)::HW (.check ns) (Sc.Co ⟨env,tk,c,evN ev nn nn.length⟩ (ds.take j)).2) (fun j=>j<=nn.length) (fun j=>nn.length - j) 0 (Ak _) fun j hj=>?_;dsimp only[Ac,Ad,HW,ja4,n6];have hlen:=Sc.Ll (ds.take j) ⟨env,tk,c,evN ev nn nn.length⟩;rw[Aj]at hlen;rcases Ah j nn.length with hj2|hj2
  ·have hone:=hof j (by omega);have hset:∀ x,((Sc.Co ⟨env,tk,c,evN ev nn nn.length⟩ (ds.take j)).1.map Ga++List.replicate (nn.length - j) (Ga kc6)).set j x=(Sc.Co ⟨env,tk,c,evN ev nn nn.length⟩ (ds.take j)).1.map Ga++[x]++List.replicate (nn.length - (j+1)) (Ga kc6):=fun x=>by
    rw[Fe _ _ (by rw[Aa];omega),show j - ((Sc.Co ⟨env,tk,c,evN ev nn nn.length⟩ (ds.take j)).1.map Ga).length=0 by rw[Aa];omega,show nn.length - j=nn.length - (j+1)+1 by omega,List.replicate_succ,Ff,Bb];rfl
   have hin:j<((Sc.Co ⟨env,tk,c,evN ev nn nn.length⟩ (ds.take j)).1.map Ga++List.replicate (nn.length - j) (Ga kc6)).length:=by rw[Ag,Aa,Ew];omega
   have htk:=je3 ds ⟨env,tk,c,evN ev nn nn.length⟩ j (by omega)
   (repeat' first|refine Ca 32 ?_;(refine p7 32 ?_)|refine Ca 42 ?_;refine Ch (hc:=hone) ?_|refine yyp ?_;try refine Cc ?_ ?_<;>intro hb|refine yy ?_|refine yy2 ?_ ?_<;>intro hcmp|refine at_nil ?_;refine Ce Ik ?_|refine Cb fun K hK=>?_|apply_assumption -exfalso -symm)
   refine⟨j+1,by omega,by omega,?_⟩;rw[htk];dsimp only;rw[Ap,Am,Aw,<-hset];exact v6
  obtain rfl:j=nn.length:=by omega
  rw[Nat.sub_self,List.replicate_zero,Bp,Ao hle2]
  (repeat' first|refine Ca 32 ?_;(refine p7 32 ?_)|refine yyp ?_;try refine Cc ?_ ?_<;>intro hb|refine yy ?_|refine yy2 ?_ ?_<;>intro hcmp|refine at_nil ?_;refine Ce Ik ?_|refine Cb fun K hK=>?_|apply_assumption -exfalso -symm)
  refine jk2 32 rfl ?_
  (refine j0 (j7 ⟨?_,rfl⟩))
  rfl
 case none=>
  (refine j4 func96 ntmps96 results96 fun w M E b0=>?_)
  simp only[Am,Aw]
  (repeat' first|refine Ca 32 ?_;(refine p7 32 ?_)|refine yyp ?_;try refine Cc ?_ ?_<;>intro hb|refine yy ?_|refine yy2 ?_ ?_<;>intro hcmp|refine at_nil ?_;refine Ce Ik ?_|refine Cb fun K hK=>?_|apply_assumption -exfalso -symm)
  refine j8 kn8 ([]:List Nat) (fun j:Nat=>[(13,.d (.int .i64 j))]) (fun j=>n6 .none ⟨env,tk,c,evN ev nn j⟩) (fun j=>j<=nn.length) (fun j=>nn.length - j) 0 (Ak _) fun j hj=>?_;dsimp only[Ac,Ad,n6];rcases Ah j nn.length with hj2|hj2
  ·have hlen:=jn7 ev nn j;have hm:=jx7 gl nn[j] true;have hc:=l9 gl (nn.take j) nn[j];have hst:=jm9 ev nn j hj2
   try dsimp only[n6,Sc.step]at hm
   generalize (nn.take j).any (Sc.isB nn[j])=b at hc hst;rw[Ep]at hc
   (repeat' first|refine Ca 28 ?_;refine Ch (hc:=hm) ?_|refine Ca 32 ?_;(refine p7 32 ?_)|refine yyp ?_;try refine Cc ?_ ?_<;>intro hb|refine yy ?_|refine yy2 ?_ ?_<;>intro hcmp|refine Cf 39 ?_;refine Cg (hc:=hc) ?_;try refine Cc ?_ ?_<;>intro hb|refine at_nil ?_;refine Ce Ik ?_|refine Cb fun K hK=>?_|apply_assumption -exfalso -symm)
   all_goals
    refine⟨j+1,by omega,by omega,?_⟩
    try simp only[hst,hb,if_true,if_false,Ay]
    exact v6
  obtain rfl:j=nn.length:=by omega
  (repeat' first|refine Ca 32 ?_;(refine p7 32 ?_)|refine yyp ?_;try refine Cc ?_ ?_<;>intro hb|refine yy ?_|refine yy2 ?_ ?_<;>intro hcmp|refine at_nil ?_;refine Ce Ik ?_|refine Cb fun K hK=>?_|apply_assumption -exfalso -symm)
  refine j8 kn9 [32,900,901,902,903,904,905] (fun j:Nat=>[(35,.d (.int .i64 j))]) (fun j=>(32,.row 120 3 false ((Sc.Co ⟨env,tk,c,evN ev nn nn.length⟩ (ds.take j)).1.map Ga++List.replicate (nn.length - j) (Ga kc6)) 0)::HW .none (Sc.Co ⟨env,tk,c,evN ev nn nn.length⟩ (ds.take j)).2) (fun j=>j<=nn.length) (fun j=>nn.length - j) 0 (Ak _) fun j hj=>?_;dsimp only[Ac,Ad,HW,ja4,n6];have hlen:=Sc.Ll (ds.take j) ⟨env,tk,c,evN ev nn nn.length⟩;rw[Aj]at hlen;rcases Ah j nn.length with hj2|hj2
  ·have hone:=hof j (by omega);have hset:∀ x,((Sc.Co ⟨env,tk,c,evN ev nn nn.length⟩ (ds.take j)).1.map Ga++List.replicate (nn.length - j) (Ga kc6)).set j x=(Sc.Co ⟨env,tk,c,evN ev nn nn.length⟩ (ds.take j)).1.map Ga++[x]++List.replicate (nn.length - (j+1)) (Ga kc6):=fun x=>by
    rw[Fe _ _ (by rw[Aa];omega),show j - ((Sc.Co ⟨env,tk,c,evN ev nn nn.length⟩ (ds.take j)).1.map Ga).length=0 by rw[Aa];omega,show nn.length - j=nn.length - (j+1)+1 by omega,List.replicate_succ,Ff,Bb];rfl
   have hin:j<((Sc.Co ⟨env,tk,c,evN ev nn nn.length⟩ (ds.take j)).1.map Ga++List.replicate (nn.length - j) (Ga kc6)).length:=by rw[Ag,Aa,Ew];omega
   have htk:=je3 ds ⟨env,tk,c,evN ev nn nn.length⟩ j (by omega)
   (repeat' first|refine Ca 32 ?_;(refine p7 32 ?_)|refine Ca 42 ?_;refine Ch (hc:=hone) ?_|refine yyp ?_;try refine Cc ?_ ?_<;>intro hb|refine yy ?_|refine yy2 ?_ ?_<;>intro hcmp|refine at_nil ?_;refine Ce Ik ?_|refine Cb fun K hK=>?_|apply_assumption -exfalso -symm)
   refine⟨j+1,by omega,by omega,?_⟩;rw[htk];dsimp only;rw[Ap,Am,Aw,<-hset];exact v6
  obtain rfl:j=nn.length:=by omega
  rw[Nat.sub_self,List.replicate_zero,Bp,Ao hle2]
  (repeat' first|refine Ca 32 ?_;(refine p7 32 ?_)|refine yyp ?_;try refine Cc ?_ ?_<;>intro hb|refine yy ?_|refine yy2 ?_ ?_<;>intro hcmp|refine at_nil ?_;refine Ce Ik ?_|refine Cb fun K hK=>?_|apply_assumption -exfalso -symm)
  refine jk2 32 rfl ?_
  (refine j0 (j7 ⟨?_,rfl⟩))
  rfl
end
section
def Vu:List Nat:=[0,1,4,5,7,10,14,15,16,17]
variable {mm:Int}
theorem Tryz.elI:rh8 prog 33 3 1 8:=mw6 (z:=.int .i64 0) (by kernel_rfl) Tryz.underlying33 rfl (by decide)
theorem Tryz.elK:rh8 prog 102 25 1 1:=mw6 (z:=.int .u8 0) (by kernel_rfl) Tryz.underlying102 rfl (by decide)
theorem Reads.rd {w:World}{M:Nat->Nat->Prop}{a:Option Addr}{ys:List Value}(h:Reads w M a ys):Rd w w.heap.size a ys:=fun j x hj=>by
 obtain⟨b,o,e,_,hc⟩:=h j x hj;exact⟨b,o,e,World.block_lt_of_cell? w ⟨b,o+j,none⟩ hc,hc⟩
theorem qb7 {w:World}{M:Nat->Nat->Prop}{sz:Nat}{xs:List D}{v:Value}(h:Gd w M (.list sz xs) v):∃ (a:Option Addr) (c:Nat) (ys:List Value),v=.slice a xs.length c/\Gl w M sz xs ys/\Sl w w.heap.size a xs.length c sz ys:=by
 obtain⟨a,c,ys,h1,h2,h3,h4,h5,h6⟩:=h;exact⟨a,c,ys,h1,h5,h5.length,h6.rd,h2,h3,h4⟩
theorem ml0 {w w':World}{M:Nat->Nat->Prop}{e sz:TypeId}{xs:List D}{ys:List Value}{a:Option Addr}{c n:Nat}(hM:∀ b o,M b o->b<w.heap.size)(hn:n=xs.length)(h:w'.ownsRow w.heap.size e sz (.slice a n c) n ys)(hr:Gl w' M sz xs ys):Gd w' M (.list sz xs) (.slice a n c):=by
 subst hn;have hs:=Sl.Rx h;refine⟨a,c,ys,rfl,hs.cap,hs.max,hs.nil,hr,fun j y hj=>?_⟩;obtain⟨b,o,e',_,hc⟩:=hs.rd j y hj;rcases h.2 with ⟨q1,q2⟩|⟨g,cap,cur,q,q0,q1,q2,q3,q4,q5⟩
 ·have h1:=h.1;simp only[Value.slice.injEq]at q1;obtain⟨_,q1,_⟩:=q1;have:ys.length=0:=by rw[h1,q1];simp
  have:=(Bh.1 hj).1;omega
 ·simp only[Value.slice.injEq]at q;obtain⟨rfl,_,rfl⟩:=q;cases e';exact⟨_,_,rfl,fun hm=>by have:=hM _ _ hm;omega,hc⟩
attribute [local irreducible] TR TC
theorem jg1 (gl:List (Nat × List D))(l:List Int)(hl:l.length<=10000000):FnD prog gl 61 [.d (.list 1 (l.map (.int .i64)))] (fun v=>v=.d (.list 1 (l.map (.int .i64)))):=by
 intro w M us hM hus _;simp only[Dc]at hus;obtain⟨v,r,rfl,hv,rfl⟩:=hus;obtain⟨a,c,ys,rfl,h1,hs⟩:=qb7 hv;have hn:(l.map (D.int .i64)).length=l.length:=Aa _;rw[hn]at hs ⊢;generalize hnl:l.length=n at *;have hk:=fun w=>Lib.run_eql_slice_nil (P:=prog) w 33 3 a n c 0 0 Tryz.underlying33;have hone:=Gl.one h1;have hyl:ys.length=n * 1:=hs.len;cases a with
 |none=>
  have hc:=hs.nil rfl;subst hc;have hn0:n=0:=by have:=hs.cap;omega
  subst hn0;have hx:l=[]:=At hnl;subst hx
  go_enter func61,ntmps61
  go_wp2
  go_ret
  exact⟨_,_,rfl,.d _,rfl,Below.refl _ _,none,0,[],rfl,As _,Ak _,fun _=>rfl,rfl,Reads.nil _ _ _⟩
 |some ad=>
  have ho:=kq4 w [] 3 0 1 w.heap.size rfl (Ak _) (As _)
  go_enter func61,ntmps61
  go_wp2_with (at_builtin;go_must (refine mw8 rfl (.tmp 5) (.tmp 6) 33 rfl Tryz.elI rfl ho rfl (hs.below ((Below.refl _ _).alloc (As _) _) (As _)) hone (by omega) (by omega) (by simp) ?_))
  intro a' c' w' h1' _ h3
  go_wp2
  go_ret
  have hb:=((Below.refl _ _).alloc (As _) _).trans h3;exact⟨_,_,rfl,.d _,rfl,hb,ml0 hM (by rw[hn]) h1' (Gl.keep (Keeps.below hb) _ _ _ h1)⟩
theorem qq1 (gl:List (Nat × List D))(l:List Int)(hl:l.length<=10000000):FnD prog gl 107 [.d (.list 1 (l.map (.int .u8)))] (fun v=>v=.d (.list 1 (l.map (.int .u8)))):=by
 intro w M us hM hus _;simp only[Dc]at hus;obtain⟨v,r,rfl,hv,rfl⟩:=hus;obtain⟨a,c,ys,rfl,h1,hs⟩:=qb7 hv;have hn:(l.map (D.int .u8)).length=l.length:=Aa _;rw[hn]at hs ⊢;generalize hnl:l.length=n at *;have hk:=fun w=>Lib.run_eql_slice_nil (P:=prog) w 102 25 a n c 0 0 Tryz.underlying102;have hone:=Gl.one h1;have hyl:ys.length=n * 1:=hs.len;cases a with
 |none=>
  have hc:=hs.nil rfl;subst hc;have hn0:n=0:=by have:=hs.cap;omega
  subst hn0;have hx:l=[]:=At hnl;subst hx
  go_enter func107,ntmps107
  go_wp2
  go_ret
  exact⟨_,_,rfl,.d _,rfl,Below.refl _ _,none,0,[],rfl,As _,Ak _,fun _=>rfl,rfl,Reads.nil _ _ _⟩
 |some ad=>
  have ho:=kq4 w [] 25 0 1 w.heap.size rfl (Ak _) (As _)
  go_enter func107,ntmps107
  go_wp2_with (at_builtin;go_must (refine mw8 rfl (.tmp 5) (.tmp 6) 102 rfl Tryz.elK rfl ho rfl (hs.below ((Below.refl _ _).alloc (As _) _) (As _)) hone (by omega) (by omega) (by simp) ?_))
  intro a' c' w' h1' _ h3
  go_wp2
  go_ret
  have hb:=((Below.refl _ _).alloc (As _) _).trans h3;exact⟨_,_,rfl,.d _,rfl,hb,ml0 hM (by rw[hn]) h1' (Gl.keep (Keeps.below hb) _ _ _ h1)⟩
theorem qq2 (gl:List (Nat × List D))(v:Va)(hv:v.items.length<=10000000):FnD prog gl 106 [.d (dVa v)] (fun r=>r=.d (dVa v)):=by
 have h:=qq1 gl v.items hv
 (refine j3 func106 ntmps106 results106 fun w M=>?_)
 (repeat' first|refine Ca 1 ?_;(refine j6 1 ?_)|refine Ca 2 ?_;(refine Cj 2 ?_)|refine yyp ?_;try refine Cc ?_ ?_<;>intro hb|refine yy ?_|refine Cf 107 ?_;refine Cg (hc:=h) ?_|refine at_nil ?_;refine Ce [0,1,2,3,4,5,6,104] ?_|refine Cb fun K hK=>?_|apply_assumption -exfalso -symm)
 (refine j0 (j5 ?_))
 rfl
theorem mq5 (gl:List (Nat × List D))(l:List Va)(hl:l.length<=1000000000)(hv:∀ v∈l,v.items.length<=10000000):FnD prog gl 105 [.d (.list 2 (l.map dVa)),.clo (.func 106) [] []] (fun r=>r=.d (.list 2 (l.map dVa))):=by
 (refine j3 func105 ntmps105 results105 fun w M=>?_)
 (repeat' first|refine Ca 13 ?_;(refine jc3 13 ?_)|refine yyp ?_;try refine Cc ?_ ?_<;>intro hb|refine yy ?_|refine yy2 ?_ ?_<;>intro hcmp|refine at_nil ?_;refine Ce Vu ?_|refine Cb fun K hK=>?_|apply_assumption -exfalso -symm)
 ·have h0:l=[]:=At (by omega);subst h0
  (refine j0 (j5 ?_))
  rfl
 refine j8 [5,7,16,17,18,19,20,21,22,23,24,25,26] [13] (fun x:Nat × Nat=>[(16,.d (.int .i64 x.1)),(5,.own 13 x.2)]) (fun x=>[(13,.row 104 2 true ((l.take x.1).map dVa) x.2)]) (fun x=>x.1<=l.length) (fun x=>l.length - x.1) (0,0) (Ak _) fun⟨j,kv⟩ hj=>?_;dsimp only[Ac,Ad]at hj ⊢;have hlen:(l.take j).length=j:=by rw[Aj];omega
 rcases Ah j l.length with hj2|hj2
 ·have hone:=qq2 gl l[j] (hv _ (Ar hj2))
  (repeat' first|refine Ca 7 ?_;(refine Cj 7 ?_)|refine Ca 23 ?_;refine Qz (hc:=FnE.ofD hone (by(repeat (first|exact Pures.nil|apply Pures.cons (Pure.d _)|apply Pures.cons (Pure.nils _)));fail_if_success intros)) ?_|refine Ca 24 ?_;(refine Dh 24 ?_)|refine yyp ?_;try refine Cc ?_ ?_<;>intro hb|refine yy ?_|(refine Cq ?_;first|(refine Cs (fun kv=>?_))|(refine z_append_suf (fun sx sp kv hsx hsp hsl=>?_)))|refine at_nil ?_;refine Ce Vu ?_|refine Cb fun K hK=>?_|apply_assumption -exfalso -symm)
  refine⟨(j+1,kv),by dsimp only;omega,by dsimp only;omega,?_⟩;dsimp only;rw[Ba hj2];simp only[Ap,Am,Aw];exact v6
 (repeat' first|refine yyp ?_;try refine Cc ?_ ?_<;>intro hb|refine yy ?_|refine at_nil ?_;refine Ce Vu ?_|refine Cb fun K hK=>?_|apply_assumption -exfalso -symm)
 rw[Ao hj2]
 (refine j0 (j5 ?_))
 rfl
end
end Go.Proofs.YtdopmfifmgkmoaaGreatDoor
