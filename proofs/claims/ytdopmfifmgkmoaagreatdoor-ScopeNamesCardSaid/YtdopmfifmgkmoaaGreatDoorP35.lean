/- Parts: S27, S28. -/
import Derived.Test.YtdopmfifmgkmoaaGreatDoorP34
set_option linter.all false
set_option maxRecDepth 100000
set_option maxHeartbeats 16000000
namespace Go.Proofs.YtdopmfifmgkmoaaGreatDoor
open Go.RowKit Go.Proofs.Tryz
section
def qs27_0:List Nat:=[0,1,2,6,7,8,9,10,11,12,13,14,22,34,35,36]
def kl6:List Nat:=[7,8,13,14,15,16,17,18,19,20,21,22,23,24,25,26,27,28,29]
def kl7:List Nat:=[10,35,36,37,38,39,40,41,42,43,44]
variable {mm:Int}
noncomputable def evN (ev:List (ByteArray × Bool))(l:List ByteArray):Nat->List (ByteArray × Bool)
 |0=>ev
 |j+1=>if (l.take j).any (Sc.isB (l.getD j ByteArray.empty)) then evN ev l j++[(l.getD j ByteArray.empty,true)] else evN ev l j
theorem mv9 (ev:List (ByteArray × Bool))(l:List ByteArray):∀ j,evN ev l j=ev++(((List.range j).filter fun i=>(l.take i).any (Sc.isB (l.getD i ByteArray.empty))).map fun i=>(l.getD i ByteArray.empty,true))
 |0=>by simp[evN]
 |j+1=>by
  rw[evN,mv9 ev l j,List.range_succ,List.filter_append,List.map_append]
  split
  ·rename_i h
   rw[List.filter_cons_of_pos (p:=fun i=>(l.take i).any (Sc.isB (l.getD i ByteArray.empty))) h,List.filter_nil,List.map_cons,List.map_nil,List.append_assoc]
  ·rename_i h
   rw[List.filter_cons_of_neg (p:=fun i=>(l.take i).any (Sc.isB (l.getD i ByteArray.empty))) h,List.filter_nil,List.map_nil,List.append_nil]
theorem jr0 (ev:List (ByteArray × Bool))(l:List ByteArray):∀ j,(evN ev l j).length<=ev.length+j
 |0=>Nat.le_refl _
 |j+1=>by
  have:=jr0 ev l j
  rw[evN]
  split
  ·simp;omega
  ·omega
theorem qt4 (l:List ByteArray)(j:Nat)(hj:j<l.length):l.getD j ByteArray.empty=l[j]:=by rw[List.getD_eq_getElem?_getD,List.getElem?_eq_getElem hj];rfl
theorem jo9 (ev:List (ByteArray × Bool))(l:List ByteArray)(j:Nat)(hj:j<l.length):evN ev l (j+1)=if (l.take j).any (Sc.isB l[j]) then evN ev l j++[(l[j],true)] else evN ev l j:=by
 rw[evN,qt4 l j hj]
theorem jh4:∀ (l:List (Bool × List ByteArray)) (σ:Sc.W) (j:Nat) (hj:j<l.length),
 Sc.declOf σ (l.take (j+1))=((Sc.declOf σ (l.take j)).1++[⟨(Sc.freshOf (Sc.declOf σ (l.take j)).2).1,l[j].1,l[j].2⟩],(Sc.freshOf (Sc.declOf σ (l.take j)).2).2)
 |[],_,_,h=>by simp at h
 |x::l,σ,0,_=>by simp[Sc.declOf]
 |x::l,σ,j+1,h=>by
  have:=jh4 l (Sc.freshOf σ).2 j (by simpa using h)
  simp only[List.take_succ_cons,Sc.declOf,this,List.getElem_cons_succ,List.cons_append]
theorem Sc.declOf_len:∀ (l:List (Bool × List ByteArray)) (σ:Sc.W),(Sc.declOf σ l).1.length=l.length
 |[],σ=>rfl
 |x::l,σ=>by simp only[Sc.declOf,List.length_cons,Sc.declOf_len l]
def ka6:Sc.Ent:=⟨ByteArray.empty,false,[]⟩
attribute [local irreducible] TR TC
theorem mb9 (gl:List (Nat × List D))(k:Sc.Kind)(σ:Sc.W)(nn:List ByteArray)(ds:List (Bool × List ByteArray))(s:Sp)(hle1:nn.length<=ds.length)(hle2:ds.length<=nn.length)(hn9:nn.length<=1000000000)(hr:σ.room nn.length)
 (hof:∀ (j:Nat) (hj:j<ds.length),FnE prog gl 97 [.d (.int .i64 j),.ptr 1002 0,.ptr 1003 0] ((1002,.box [.ptr 900 0])::(1003,.box (sv s))::HW k (Sc.declOf (Sc.twiceOf σ nn) (ds.take j)).2)
   (fun v H1=>v=.d (dEnt ⟨(Sc.freshOf (Sc.declOf (Sc.twiceOf σ nn) (ds.take j)).2).1,ds[j].1,ds[j].2⟩)/\H1=(1002,.box [.ptr 900 0])::(1003,.box (sv s))::HW k (Sc.freshOf (Sc.declOf (Sc.twiceOf σ nn) (ds.take j)).2).2)):
 FnE prog gl 96 [.ptr 900 0,.d (.list 1 (nn.map .str)),.clo (.func 97) [] [.ptr 1002 0,.ptr 1003 0]] ((1002,.box [.ptr 900 0])::(1003,.box (sv s))::HW k σ)
  (fun v H1=>v=.d (.list 3 ((Sc.declOf (Sc.twiceOf σ nn) ds).1.map dEnt))/\H1=(1002,.box [.ptr 900 0])::(1003,.box (sv s))::HW k (Sc.declOf (Sc.twiceOf σ nn) ds).2):=by
 have htw:Sc.twiceOf σ nn={σ with ev:=evN σ.ev nn nn.length}:=by rw[mv9];rfl
 rw[htw]at hof ⊢
 unfold Sc.W.room at hr
 obtain⟨env,tk,c,ev⟩:=σ
 dsimp only at hof hr ⊢
 clear htw
 cases k
 all_goals dsimp only[HW,ja2,l9]at hof ⊢
 case free=>
  (refine j3 func96 ntmps96 results96 fun w M E b0=>?_)
  simp only[List.map_cons,List.map_nil]
  (repeat' first|refine tr_at 32 ?_;(refine n5 32 ?_)|refine yyp ?_;try refine s_bu ?_ ?_<;>intro hb|refine yy ?_|refine yy2 ?_ ?_<;>intro hcmp|refine at_nil ?_;refine z_nil qs27_0 ?_|refine tc_seq fun K hK=>?_|apply_assumption -exfalso -symm)
  refine k9 kl6 [903] (fun j:Nat=>[(13,.d (.int .i64 j))]) (fun j=>l9 .free ⟨env,tk,c,evN ev nn j⟩) (fun j=>j<=nn.length) (fun j=>nn.length - j) 0 (Nat.zero_le _) fun j hj=>?_
  dsimp only[List.cons_append,List.nil_append,l9]
  rcases Nat.lt_or_ge j nn.length with hj2|hj2
  ·have hlen:=jr0 ev nn j
   have hm:=kp3 gl ⟨env,tk,c,evN ev nn j⟩ nn[j] true (by dsimp only;omega)
   have hc:=g9 gl (nn.take j) nn[j]
   have hst:=jo9 ev nn j hj2
   try dsimp only[l9,Sc.step]at hm
   generalize (nn.take j).any (Sc.isB nn[j])=b at hc hst
   rw[List.map_take]at hc
   (repeat' first|refine tr_at 28 ?_;refine y_callE (hc:=hm) ?_|refine tr_at 32 ?_;(refine n5 32 ?_)|refine yyp ?_;try refine s_bu ?_ ?_<;>intro hb|refine yy ?_|refine yy2 ?_ ?_<;>intro hcmp|refine at_call 39 ?_;refine y_call (hc:=hc) ?_;try refine s_bu ?_ ?_<;>intro hb|refine at_nil ?_;refine z_nil qs27_0 ?_|refine tc_seq fun K hK=>?_|apply_assumption -exfalso -symm)
   all_goals
    refine⟨j+1,by omega,by omega,?_⟩
    try simp only[hst,hb,if_true,if_false,Bool.false_eq_true]
    exact v7
  obtain rfl:j=nn.length:=by omega
  (repeat' first|refine tr_at 32 ?_;(refine n5 32 ?_)|refine yyp ?_;try refine s_bu ?_ ?_<;>intro hb|refine yy ?_|refine yy2 ?_ ?_<;>intro hcmp|refine at_nil ?_;refine z_nil qs27_0 ?_|refine tc_seq fun K hK=>?_|apply_assumption -exfalso -symm)
  refine k9 kl7 [32,900,901,902,903,904,905] (fun j:Nat=>[(35,.d (.int .i64 j))]) (fun j=>(32,.row 120 3 false ((Sc.declOf ⟨env,tk,c,evN ev nn nn.length⟩ (ds.take j)).1.map dEnt++List.replicate (nn.length - j) (dEnt ka6)) 0)::HW .free (Sc.declOf ⟨env,tk,c,evN ev nn nn.length⟩ (ds.take j)).2) (fun j=>j<=nn.length) (fun j=>nn.length - j) 0 (Nat.zero_le _) fun j hj=>?_
  dsimp only[List.cons_append,List.nil_append,HW,ja2,l9]
  have hlen:=Sc.declOf_len (ds.take j) ⟨env,tk,c,evN ev nn nn.length⟩
  rw[List.length_take]at hlen
  rcases Nat.lt_or_ge j nn.length with hj2|hj2
  ·have hone:=hof j (by omega)
   have hset:∀ x,((Sc.declOf ⟨env,tk,c,evN ev nn nn.length⟩ (ds.take j)).1.map dEnt++List.replicate (nn.length - j) (dEnt ka6)).set j x=(Sc.declOf ⟨env,tk,c,evN ev nn nn.length⟩ (ds.take j)).1.map dEnt++[x]++List.replicate (nn.length - (j+1)) (dEnt ka6):=fun x=>by
    rw[List.set_append_right _ _ (by rw[List.length_map];omega),show j - ((Sc.declOf ⟨env,tk,c,evN ev nn nn.length⟩ (ds.take j)).1.map dEnt).length=0 by rw[List.length_map];omega,show nn.length - j=nn.length - (j+1)+1 by omega,List.replicate_succ,List.set_cons_zero,List.append_assoc]
    rfl
   have hin:j<((Sc.declOf ⟨env,tk,c,evN ev nn nn.length⟩ (ds.take j)).1.map dEnt++List.replicate (nn.length - j) (dEnt ka6)).length:=by rw[List.length_append,List.length_map,List.length_replicate];omega
   have htk:=jh4 ds ⟨env,tk,c,evN ev nn nn.length⟩ j (by omega)
   (repeat' first|refine tr_at 32 ?_;(refine n5 32 ?_)|refine tr_at 42 ?_;refine y_callE (hc:=hone) ?_|refine yyp ?_;try refine s_bu ?_ ?_<;>intro hb|refine yy ?_|refine yy2 ?_ ?_<;>intro hcmp|refine at_nil ?_;refine z_nil qs27_0 ?_|refine tc_seq fun K hK=>?_|apply_assumption -exfalso -symm)
   refine⟨j+1,by omega,by omega,?_⟩
   rw[htk]
   dsimp only
   rw[List.map_append,List.map_cons,List.map_nil,<-hset]
   exact v7
  obtain rfl:j=nn.length:=by omega
  rw[Nat.sub_self,List.replicate_zero,List.append_nil,List.take_of_length_le hle2]
  (repeat' first|refine tr_at 32 ?_;(refine n5 32 ?_)|refine yyp ?_;try refine s_bu ?_ ?_<;>intro hb|refine yy ?_|refine yy2 ?_ ?_<;>intro hcmp|refine at_nil ?_;refine z_nil qs27_0 ?_|refine tc_seq fun K hK=>?_|apply_assumption -exfalso -symm)
  refine jo4 32 rfl ?_
  (refine j0 (j7 ⟨?_,rfl⟩))
  rfl
 case check ns=>
  (refine j3 func96 ntmps96 results96 fun w M E b0=>?_)
  simp only[List.map_cons,List.map_nil]
  (repeat' first|refine tr_at 32 ?_;(refine n5 32 ?_)|refine yyp ?_;try refine s_bu ?_ ?_<;>intro hb|refine yy ?_|refine yy2 ?_ ?_<;>intro hcmp|refine at_nil ?_;refine z_nil qs27_0 ?_|refine tc_seq fun K hK=>?_|apply_assumption -exfalso -symm)
  refine k9 kl6 [903,904,905] (fun j:Nat=>[(13,.d (.int .i64 j))]) (fun j=>l9 (.check ns) ⟨env,tk,c,evN ev nn j⟩) (fun j=>j<=nn.length) (fun j=>nn.length - j) 0 (Nat.zero_le _) fun j hj=>?_
  dsimp only[List.cons_append,List.nil_append,l9]
  rcases Nat.lt_or_ge j nn.length with hj2|hj2
  ·have hlen:=jr0 ev nn j
   have hm:=kd3 gl ns ⟨env,tk,c,evN ev nn j⟩ nn[j] true
   have hc:=g9 gl (nn.take j) nn[j]
   have hst:=jo9 ev nn j hj2
   try dsimp only[l9,Sc.step]at hm
   generalize (nn.take j).any (Sc.isB nn[j])=b at hc hst
   rw[List.map_take]at hc
   (repeat' first|refine tr_at 28 ?_;refine y_callE (hc:=hm) ?_|refine tr_at 32 ?_;(refine n5 32 ?_)|refine yyp ?_;try refine s_bu ?_ ?_<;>intro hb|refine yy ?_|refine yy2 ?_ ?_<;>intro hcmp|refine at_call 39 ?_;refine y_call (hc:=hc) ?_;try refine s_bu ?_ ?_<;>intro hb|refine at_nil ?_;refine z_nil qs27_0 ?_|refine tc_seq fun K hK=>?_|apply_assumption -exfalso -symm)
   all_goals
    refine⟨j+1,by omega,by omega,?_⟩
    try simp only[hst,hb,if_true,if_false,Bool.false_eq_true]
    exact v7
  obtain rfl:j=nn.length:=by omega
  (repeat' first|refine tr_at 32 ?_;(refine n5 32 ?_)|refine yyp ?_;try refine s_bu ?_ ?_<;>intro hb|refine yy ?_|refine yy2 ?_ ?_<;>intro hcmp|refine at_nil ?_;refine z_nil qs27_0 ?_|refine tc_seq fun K hK=>?_|apply_assumption -exfalso -symm)
  refine k9 kl7 [32,900,901,902,903,904,905] (fun j:Nat=>[(35,.d (.int .i64 j))]) (fun j=>(32,.row 120 3 false ((Sc.declOf ⟨env,tk,c,evN ev nn nn.length⟩ (ds.take j)).1.map dEnt++List.replicate (nn.length - j) (dEnt ka6)) 0)::HW (.check ns) (Sc.declOf ⟨env,tk,c,evN ev nn nn.length⟩ (ds.take j)).2) (fun j=>j<=nn.length) (fun j=>nn.length - j) 0 (Nat.zero_le _) fun j hj=>?_
  dsimp only[List.cons_append,List.nil_append,HW,ja2,l9]
  have hlen:=Sc.declOf_len (ds.take j) ⟨env,tk,c,evN ev nn nn.length⟩
  rw[List.length_take]at hlen
  rcases Nat.lt_or_ge j nn.length with hj2|hj2
  ·have hone:=hof j (by omega)
   have hset:∀ x,((Sc.declOf ⟨env,tk,c,evN ev nn nn.length⟩ (ds.take j)).1.map dEnt++List.replicate (nn.length - j) (dEnt ka6)).set j x=(Sc.declOf ⟨env,tk,c,evN ev nn nn.length⟩ (ds.take j)).1.map dEnt++[x]++List.replicate (nn.length - (j+1)) (dEnt ka6):=fun x=>by
    rw[List.set_append_right _ _ (by rw[List.length_map];omega),show j - ((Sc.declOf ⟨env,tk,c,evN ev nn nn.length⟩ (ds.take j)).1.map dEnt).length=0 by rw[List.length_map];omega,show nn.length - j=nn.length - (j+1)+1 by omega,List.replicate_succ,List.set_cons_zero,List.append_assoc]
    rfl
   have hin:j<((Sc.declOf ⟨env,tk,c,evN ev nn nn.length⟩ (ds.take j)).1.map dEnt++List.replicate (nn.length - j) (dEnt ka6)).length:=by rw[List.length_append,List.length_map,List.length_replicate];omega
   have htk:=jh4 ds ⟨env,tk,c,evN ev nn nn.length⟩ j (by omega)
   (repeat' first|refine tr_at 32 ?_;(refine n5 32 ?_)|refine tr_at 42 ?_;refine y_callE (hc:=hone) ?_|refine yyp ?_;try refine s_bu ?_ ?_<;>intro hb|refine yy ?_|refine yy2 ?_ ?_<;>intro hcmp|refine at_nil ?_;refine z_nil qs27_0 ?_|refine tc_seq fun K hK=>?_|apply_assumption -exfalso -symm)
   refine⟨j+1,by omega,by omega,?_⟩
   rw[htk]
   dsimp only
   rw[List.map_append,List.map_cons,List.map_nil,<-hset]
   exact v7
  obtain rfl:j=nn.length:=by omega
  rw[Nat.sub_self,List.replicate_zero,List.append_nil,List.take_of_length_le hle2]
  (repeat' first|refine tr_at 32 ?_;(refine n5 32 ?_)|refine yyp ?_;try refine s_bu ?_ ?_<;>intro hb|refine yy ?_|refine yy2 ?_ ?_<;>intro hcmp|refine at_nil ?_;refine z_nil qs27_0 ?_|refine tc_seq fun K hK=>?_|apply_assumption -exfalso -symm)
  refine jo4 32 rfl ?_
  (refine j0 (j7 ⟨?_,rfl⟩))
  rfl
 case none=>
  (refine j3 func96 ntmps96 results96 fun w M E b0=>?_)
  simp only[List.map_cons,List.map_nil]
  (repeat' first|refine tr_at 32 ?_;(refine n5 32 ?_)|refine yyp ?_;try refine s_bu ?_ ?_<;>intro hb|refine yy ?_|refine yy2 ?_ ?_<;>intro hcmp|refine at_nil ?_;refine z_nil qs27_0 ?_|refine tc_seq fun K hK=>?_|apply_assumption -exfalso -symm)
  refine k9 kl6 ([]:List Nat) (fun j:Nat=>[(13,.d (.int .i64 j))]) (fun j=>l9 .none ⟨env,tk,c,evN ev nn j⟩) (fun j=>j<=nn.length) (fun j=>nn.length - j) 0 (Nat.zero_le _) fun j hj=>?_
  dsimp only[List.cons_append,List.nil_append,l9]
  rcases Nat.lt_or_ge j nn.length with hj2|hj2
  ·have hlen:=jr0 ev nn j
   have hm:=jw3 gl nn[j] true
   have hc:=g9 gl (nn.take j) nn[j]
   have hst:=jo9 ev nn j hj2
   try dsimp only[l9,Sc.step]at hm
   generalize (nn.take j).any (Sc.isB nn[j])=b at hc hst
   rw[List.map_take]at hc
   (repeat' first|refine tr_at 28 ?_;refine y_callE (hc:=hm) ?_|refine tr_at 32 ?_;(refine n5 32 ?_)|refine yyp ?_;try refine s_bu ?_ ?_<;>intro hb|refine yy ?_|refine yy2 ?_ ?_<;>intro hcmp|refine at_call 39 ?_;refine y_call (hc:=hc) ?_;try refine s_bu ?_ ?_<;>intro hb|refine at_nil ?_;refine z_nil qs27_0 ?_|refine tc_seq fun K hK=>?_|apply_assumption -exfalso -symm)
   all_goals
    refine⟨j+1,by omega,by omega,?_⟩
    try simp only[hst,hb,if_true,if_false,Bool.false_eq_true]
    exact v7
  obtain rfl:j=nn.length:=by omega
  (repeat' first|refine tr_at 32 ?_;(refine n5 32 ?_)|refine yyp ?_;try refine s_bu ?_ ?_<;>intro hb|refine yy ?_|refine yy2 ?_ ?_<;>intro hcmp|refine at_nil ?_;refine z_nil qs27_0 ?_|refine tc_seq fun K hK=>?_|apply_assumption -exfalso -symm)
  refine k9 kl7 [32,900,901,902,903,904,905] (fun j:Nat=>[(35,.d (.int .i64 j))]) (fun j=>(32,.row 120 3 false ((Sc.declOf ⟨env,tk,c,evN ev nn nn.length⟩ (ds.take j)).1.map dEnt++List.replicate (nn.length - j) (dEnt ka6)) 0)::HW .none (Sc.declOf ⟨env,tk,c,evN ev nn nn.length⟩ (ds.take j)).2) (fun j=>j<=nn.length) (fun j=>nn.length - j) 0 (Nat.zero_le _) fun j hj=>?_
  dsimp only[List.cons_append,List.nil_append,HW,ja2,l9]
  have hlen:=Sc.declOf_len (ds.take j) ⟨env,tk,c,evN ev nn nn.length⟩
  rw[List.length_take]at hlen
  rcases Nat.lt_or_ge j nn.length with hj2|hj2
  ·have hone:=hof j (by omega)
   have hset:∀ x,((Sc.declOf ⟨env,tk,c,evN ev nn nn.length⟩ (ds.take j)).1.map dEnt++List.replicate (nn.length - j) (dEnt ka6)).set j x=(Sc.declOf ⟨env,tk,c,evN ev nn nn.length⟩ (ds.take j)).1.map dEnt++[x]++List.replicate (nn.length - (j+1)) (dEnt ka6):=fun x=>by
    rw[List.set_append_right _ _ (by rw[List.length_map];omega),show j - ((Sc.declOf ⟨env,tk,c,evN ev nn nn.length⟩ (ds.take j)).1.map dEnt).length=0 by rw[List.length_map];omega,show nn.length - j=nn.length - (j+1)+1 by omega,List.replicate_succ,List.set_cons_zero,List.append_assoc]
    rfl
   have hin:j<((Sc.declOf ⟨env,tk,c,evN ev nn nn.length⟩ (ds.take j)).1.map dEnt++List.replicate (nn.length - j) (dEnt ka6)).length:=by rw[List.length_append,List.length_map,List.length_replicate];omega
   have htk:=jh4 ds ⟨env,tk,c,evN ev nn nn.length⟩ j (by omega)
   (repeat' first|refine tr_at 32 ?_;(refine n5 32 ?_)|refine tr_at 42 ?_;refine y_callE (hc:=hone) ?_|refine yyp ?_;try refine s_bu ?_ ?_<;>intro hb|refine yy ?_|refine yy2 ?_ ?_<;>intro hcmp|refine at_nil ?_;refine z_nil qs27_0 ?_|refine tc_seq fun K hK=>?_|apply_assumption -exfalso -symm)
   refine⟨j+1,by omega,by omega,?_⟩
   rw[htk]
   dsimp only
   rw[List.map_append,List.map_cons,List.map_nil,<-hset]
   exact v7
  obtain rfl:j=nn.length:=by omega
  rw[Nat.sub_self,List.replicate_zero,List.append_nil,List.take_of_length_le hle2]
  (repeat' first|refine tr_at 32 ?_;(refine n5 32 ?_)|refine yyp ?_;try refine s_bu ?_ ?_<;>intro hb|refine yy ?_|refine yy2 ?_ ?_<;>intro hcmp|refine at_nil ?_;refine z_nil qs27_0 ?_|refine tc_seq fun K hK=>?_|apply_assumption -exfalso -symm)
  refine jo4 32 rfl ?_
  (refine j0 (j7 ⟨?_,rfl⟩))
  rfl
theorem mc0 (gl:List (Nat × List D))(k:Sc.Kind)(σ:Sc.W)(nn:List ByteArray)(ds:List (Bool × List ByteArray))(s:Sp)(hle1:nn.length<=ds.length)(hle2:ds.length<=nn.length)(hn9:nn.length<=1000000000)(hr:σ.room nn.length)
 (hof:∀ (j:Nat) (hj:j<ds.length),FnE prog gl 99 [.d (.int .i64 j),.ptr 1002 0,.ptr 1003 0] ((1002,.box [.ptr 900 0])::(1003,.box (sv s))::HW k (Sc.declOf (Sc.twiceOf σ nn) (ds.take j)).2)
   (fun v H1=>v=.d (dEnt ⟨(Sc.freshOf (Sc.declOf (Sc.twiceOf σ nn) (ds.take j)).2).1,ds[j].1,ds[j].2⟩)/\H1=(1002,.box [.ptr 900 0])::(1003,.box (sv s))::HW k (Sc.freshOf (Sc.declOf (Sc.twiceOf σ nn) (ds.take j)).2).2)):
 FnE prog gl 96 [.ptr 900 0,.d (.list 1 (nn.map .str)),.clo (.func 99) [] [.ptr 1002 0,.ptr 1003 0]] ((1002,.box [.ptr 900 0])::(1003,.box (sv s))::HW k σ)
  (fun v H1=>v=.d (.list 3 ((Sc.declOf (Sc.twiceOf σ nn) ds).1.map dEnt))/\H1=(1002,.box [.ptr 900 0])::(1003,.box (sv s))::HW k (Sc.declOf (Sc.twiceOf σ nn) ds).2):=by
 have htw:Sc.twiceOf σ nn={σ with ev:=evN σ.ev nn nn.length}:=by rw[mv9];rfl
 rw[htw]at hof ⊢
 unfold Sc.W.room at hr
 obtain⟨env,tk,c,ev⟩:=σ
 dsimp only at hof hr ⊢
 clear htw
 cases k
 all_goals dsimp only[HW,ja2,l9]at hof ⊢
 case free=>
  (refine j3 func96 ntmps96 results96 fun w M E b0=>?_)
  simp only[List.map_cons,List.map_nil]
  (repeat' first|refine tr_at 32 ?_;(refine n5 32 ?_)|refine yyp ?_;try refine s_bu ?_ ?_<;>intro hb|refine yy ?_|refine yy2 ?_ ?_<;>intro hcmp|refine at_nil ?_;refine z_nil qs27_0 ?_|refine tc_seq fun K hK=>?_|apply_assumption -exfalso -symm)
  refine k9 kl6 [903] (fun j:Nat=>[(13,.d (.int .i64 j))]) (fun j=>l9 .free ⟨env,tk,c,evN ev nn j⟩) (fun j=>j<=nn.length) (fun j=>nn.length - j) 0 (Nat.zero_le _) fun j hj=>?_
  dsimp only[List.cons_append,List.nil_append,l9]
  rcases Nat.lt_or_ge j nn.length with hj2|hj2
  ·have hlen:=jr0 ev nn j
   have hm:=kp3 gl ⟨env,tk,c,evN ev nn j⟩ nn[j] true (by dsimp only;omega)
   have hc:=g9 gl (nn.take j) nn[j]
   have hst:=jo9 ev nn j hj2
   try dsimp only[l9,Sc.step]at hm
   generalize (nn.take j).any (Sc.isB nn[j])=b at hc hst
   rw[List.map_take]at hc
   (repeat' first|refine tr_at 28 ?_;refine y_callE (hc:=hm) ?_|refine tr_at 32 ?_;(refine n5 32 ?_)|refine yyp ?_;try refine s_bu ?_ ?_<;>intro hb|refine yy ?_|refine yy2 ?_ ?_<;>intro hcmp|refine at_call 39 ?_;refine y_call (hc:=hc) ?_;try refine s_bu ?_ ?_<;>intro hb|refine at_nil ?_;refine z_nil qs27_0 ?_|refine tc_seq fun K hK=>?_|apply_assumption -exfalso -symm)
   all_goals
    refine⟨j+1,by omega,by omega,?_⟩
    try simp only[hst,hb,if_true,if_false,Bool.false_eq_true]
    exact v7
  obtain rfl:j=nn.length:=by omega
  (repeat' first|refine tr_at 32 ?_;(refine n5 32 ?_)|refine yyp ?_;try refine s_bu ?_ ?_<;>intro hb|refine yy ?_|refine yy2 ?_ ?_<;>intro hcmp|refine at_nil ?_;refine z_nil qs27_0 ?_|refine tc_seq fun K hK=>?_|apply_assumption -exfalso -symm)
  refine k9 kl7 [32,900,901,902,903,904,905] (fun j:Nat=>[(35,.d (.int .i64 j))]) (fun j=>(32,.row 120 3 false ((Sc.declOf ⟨env,tk,c,evN ev nn nn.length⟩ (ds.take j)).1.map dEnt++List.replicate (nn.length - j) (dEnt ka6)) 0)::HW .free (Sc.declOf ⟨env,tk,c,evN ev nn nn.length⟩ (ds.take j)).2) (fun j=>j<=nn.length) (fun j=>nn.length - j) 0 (Nat.zero_le _) fun j hj=>?_
  dsimp only[List.cons_append,List.nil_append,HW,ja2,l9]
  have hlen:=Sc.declOf_len (ds.take j) ⟨env,tk,c,evN ev nn nn.length⟩
  rw[List.length_take]at hlen
  rcases Nat.lt_or_ge j nn.length with hj2|hj2
  ·have hone:=hof j (by omega)
   have hset:∀ x,((Sc.declOf ⟨env,tk,c,evN ev nn nn.length⟩ (ds.take j)).1.map dEnt++List.replicate (nn.length - j) (dEnt ka6)).set j x=(Sc.declOf ⟨env,tk,c,evN ev nn nn.length⟩ (ds.take j)).1.map dEnt++[x]++List.replicate (nn.length - (j+1)) (dEnt ka6):=fun x=>by
    rw[List.set_append_right _ _ (by rw[List.length_map];omega),show j - ((Sc.declOf ⟨env,tk,c,evN ev nn nn.length⟩ (ds.take j)).1.map dEnt).length=0 by rw[List.length_map];omega,show nn.length - j=nn.length - (j+1)+1 by omega,List.replicate_succ,List.set_cons_zero,List.append_assoc]
    rfl
   have hin:j<((Sc.declOf ⟨env,tk,c,evN ev nn nn.length⟩ (ds.take j)).1.map dEnt++List.replicate (nn.length - j) (dEnt ka6)).length:=by rw[List.length_append,List.length_map,List.length_replicate];omega
   have htk:=jh4 ds ⟨env,tk,c,evN ev nn nn.length⟩ j (by omega)
   (repeat' first|refine tr_at 32 ?_;(refine n5 32 ?_)|refine tr_at 42 ?_;refine y_callE (hc:=hone) ?_|refine yyp ?_;try refine s_bu ?_ ?_<;>intro hb|refine yy ?_|refine yy2 ?_ ?_<;>intro hcmp|refine at_nil ?_;refine z_nil qs27_0 ?_|refine tc_seq fun K hK=>?_|apply_assumption -exfalso -symm)
   refine⟨j+1,by omega,by omega,?_⟩
   rw[htk]
   dsimp only
   rw[List.map_append,List.map_cons,List.map_nil,<-hset]
   exact v7
  obtain rfl:j=nn.length:=by omega
  rw[Nat.sub_self,List.replicate_zero,List.append_nil,List.take_of_length_le hle2]
  (repeat' first|refine tr_at 32 ?_;(refine n5 32 ?_)|refine yyp ?_;try refine s_bu ?_ ?_<;>intro hb|refine yy ?_|refine yy2 ?_ ?_<;>intro hcmp|refine at_nil ?_;refine z_nil qs27_0 ?_|refine tc_seq fun K hK=>?_|apply_assumption -exfalso -symm)
  refine jo4 32 rfl ?_
  (refine j0 (j7 ⟨?_,rfl⟩))
  rfl
 case check ns=>
  (refine j3 func96 ntmps96 results96 fun w M E b0=>?_)
  simp only[List.map_cons,List.map_nil]
  (repeat' first|refine tr_at 32 ?_;(refine n5 32 ?_)|refine yyp ?_;try refine s_bu ?_ ?_<;>intro hb|refine yy ?_|refine yy2 ?_ ?_<;>intro hcmp|refine at_nil ?_;refine z_nil qs27_0 ?_|refine tc_seq fun K hK=>?_|apply_assumption -exfalso -symm)
  refine k9 kl6 [903,904,905] (fun j:Nat=>[(13,.d (.int .i64 j))]) (fun j=>l9 (.check ns) ⟨env,tk,c,evN ev nn j⟩) (fun j=>j<=nn.length) (fun j=>nn.length - j) 0 (Nat.zero_le _) fun j hj=>?_
  dsimp only[List.cons_append,List.nil_append,l9]
  rcases Nat.lt_or_ge j nn.length with hj2|hj2
  ·have hlen:=jr0 ev nn j
   have hm:=kd3 gl ns ⟨env,tk,c,evN ev nn j⟩ nn[j] true
   have hc:=g9 gl (nn.take j) nn[j]
   have hst:=jo9 ev nn j hj2
   try dsimp only[l9,Sc.step]at hm
   generalize (nn.take j).any (Sc.isB nn[j])=b at hc hst
   rw[List.map_take]at hc
   (repeat' first|refine tr_at 28 ?_;refine y_callE (hc:=hm) ?_|refine tr_at 32 ?_;(refine n5 32 ?_)|refine yyp ?_;try refine s_bu ?_ ?_<;>intro hb|refine yy ?_|refine yy2 ?_ ?_<;>intro hcmp|refine at_call 39 ?_;refine y_call (hc:=hc) ?_;try refine s_bu ?_ ?_<;>intro hb|refine at_nil ?_;refine z_nil qs27_0 ?_|refine tc_seq fun K hK=>?_|apply_assumption -exfalso -symm)
   all_goals
    refine⟨j+1,by omega,by omega,?_⟩
    try simp only[hst,hb,if_true,if_false,Bool.false_eq_true]
    exact v7
  obtain rfl:j=nn.length:=by omega
  (repeat' first|refine tr_at 32 ?_;(refine n5 32 ?_)|refine yyp ?_;try refine s_bu ?_ ?_<;>intro hb|refine yy ?_|refine yy2 ?_ ?_<;>intro hcmp|refine at_nil ?_;refine z_nil qs27_0 ?_|refine tc_seq fun K hK=>?_|apply_assumption -exfalso -symm)
  refine k9 kl7 [32,900,901,902,903,904,905] (fun j:Nat=>[(35,.d (.int .i64 j))]) (fun j=>(32,.row 120 3 false ((Sc.declOf ⟨env,tk,c,evN ev nn nn.length⟩ (ds.take j)).1.map dEnt++List.replicate (nn.length - j) (dEnt ka6)) 0)::HW (.check ns) (Sc.declOf ⟨env,tk,c,evN ev nn nn.length⟩ (ds.take j)).2) (fun j=>j<=nn.length) (fun j=>nn.length - j) 0 (Nat.zero_le _) fun j hj=>?_
  dsimp only[List.cons_append,List.nil_append,HW,ja2,l9]
  have hlen:=Sc.declOf_len (ds.take j) ⟨env,tk,c,evN ev nn nn.length⟩
  rw[List.length_take]at hlen
  rcases Nat.lt_or_ge j nn.length with hj2|hj2
  ·have hone:=hof j (by omega)
   have hset:∀ x,((Sc.declOf ⟨env,tk,c,evN ev nn nn.length⟩ (ds.take j)).1.map dEnt++List.replicate (nn.length - j) (dEnt ka6)).set j x=(Sc.declOf ⟨env,tk,c,evN ev nn nn.length⟩ (ds.take j)).1.map dEnt++[x]++List.replicate (nn.length - (j+1)) (dEnt ka6):=fun x=>by
    rw[List.set_append_right _ _ (by rw[List.length_map];omega),show j - ((Sc.declOf ⟨env,tk,c,evN ev nn nn.length⟩ (ds.take j)).1.map dEnt).length=0 by rw[List.length_map];omega,show nn.length - j=nn.length - (j+1)+1 by omega,List.replicate_succ,List.set_cons_zero,List.append_assoc]
    rfl
   have hin:j<((Sc.declOf ⟨env,tk,c,evN ev nn nn.length⟩ (ds.take j)).1.map dEnt++List.replicate (nn.length - j) (dEnt ka6)).length:=by rw[List.length_append,List.length_map,List.length_replicate];omega
   have htk:=jh4 ds ⟨env,tk,c,evN ev nn nn.length⟩ j (by omega)
   (repeat' first|refine tr_at 32 ?_;(refine n5 32 ?_)|refine tr_at 42 ?_;refine y_callE (hc:=hone) ?_|refine yyp ?_;try refine s_bu ?_ ?_<;>intro hb|refine yy ?_|refine yy2 ?_ ?_<;>intro hcmp|refine at_nil ?_;refine z_nil qs27_0 ?_|refine tc_seq fun K hK=>?_|apply_assumption -exfalso -symm)
   refine⟨j+1,by omega,by omega,?_⟩
   rw[htk]
   dsimp only
   rw[List.map_append,List.map_cons,List.map_nil,<-hset]
   exact v7
  obtain rfl:j=nn.length:=by omega
  rw[Nat.sub_self,List.replicate_zero,List.append_nil,List.take_of_length_le hle2]
  (repeat' first|refine tr_at 32 ?_;(refine n5 32 ?_)|refine yyp ?_;try refine s_bu ?_ ?_<;>intro hb|refine yy ?_|refine yy2 ?_ ?_<;>intro hcmp|refine at_nil ?_;refine z_nil qs27_0 ?_|refine tc_seq fun K hK=>?_|apply_assumption -exfalso -symm)
  refine jo4 32 rfl ?_
  (refine j0 (j7 ⟨?_,rfl⟩))
  rfl
 case none=>
  (refine j3 func96 ntmps96 results96 fun w M E b0=>?_)
  simp only[List.map_cons,List.map_nil]
  (repeat' first|refine tr_at 32 ?_;(refine n5 32 ?_)|refine yyp ?_;try refine s_bu ?_ ?_<;>intro hb|refine yy ?_|refine yy2 ?_ ?_<;>intro hcmp|refine at_nil ?_;refine z_nil qs27_0 ?_|refine tc_seq fun K hK=>?_|apply_assumption -exfalso -symm)
  refine k9 kl6 ([]:List Nat) (fun j:Nat=>[(13,.d (.int .i64 j))]) (fun j=>l9 .none ⟨env,tk,c,evN ev nn j⟩) (fun j=>j<=nn.length) (fun j=>nn.length - j) 0 (Nat.zero_le _) fun j hj=>?_
  dsimp only[List.cons_append,List.nil_append,l9]
  rcases Nat.lt_or_ge j nn.length with hj2|hj2
  ·have hlen:=jr0 ev nn j
   have hm:=jw3 gl nn[j] true
   have hc:=g9 gl (nn.take j) nn[j]
   have hst:=jo9 ev nn j hj2
   try dsimp only[l9,Sc.step]at hm
   generalize (nn.take j).any (Sc.isB nn[j])=b at hc hst
   rw[List.map_take]at hc
   (repeat' first|refine tr_at 28 ?_;refine y_callE (hc:=hm) ?_|refine tr_at 32 ?_;(refine n5 32 ?_)|refine yyp ?_;try refine s_bu ?_ ?_<;>intro hb|refine yy ?_|refine yy2 ?_ ?_<;>intro hcmp|refine at_call 39 ?_;refine y_call (hc:=hc) ?_;try refine s_bu ?_ ?_<;>intro hb|refine at_nil ?_;refine z_nil qs27_0 ?_|refine tc_seq fun K hK=>?_|apply_assumption -exfalso -symm)
   all_goals
    refine⟨j+1,by omega,by omega,?_⟩
    try simp only[hst,hb,if_true,if_false,Bool.false_eq_true]
    exact v7
  obtain rfl:j=nn.length:=by omega
  (repeat' first|refine tr_at 32 ?_;(refine n5 32 ?_)|refine yyp ?_;try refine s_bu ?_ ?_<;>intro hb|refine yy ?_|refine yy2 ?_ ?_<;>intro hcmp|refine at_nil ?_;refine z_nil qs27_0 ?_|refine tc_seq fun K hK=>?_|apply_assumption -exfalso -symm)
  refine k9 kl7 [32,900,901,902,903,904,905] (fun j:Nat=>[(35,.d (.int .i64 j))]) (fun j=>(32,.row 120 3 false ((Sc.declOf ⟨env,tk,c,evN ev nn nn.length⟩ (ds.take j)).1.map dEnt++List.replicate (nn.length - j) (dEnt ka6)) 0)::HW .none (Sc.declOf ⟨env,tk,c,evN ev nn nn.length⟩ (ds.take j)).2) (fun j=>j<=nn.length) (fun j=>nn.length - j) 0 (Nat.zero_le _) fun j hj=>?_
  dsimp only[List.cons_append,List.nil_append,HW,ja2,l9]
  have hlen:=Sc.declOf_len (ds.take j) ⟨env,tk,c,evN ev nn nn.length⟩
  rw[List.length_take]at hlen
  rcases Nat.lt_or_ge j nn.length with hj2|hj2
  ·have hone:=hof j (by omega)
   have hset:∀ x,((Sc.declOf ⟨env,tk,c,evN ev nn nn.length⟩ (ds.take j)).1.map dEnt++List.replicate (nn.length - j) (dEnt ka6)).set j x=(Sc.declOf ⟨env,tk,c,evN ev nn nn.length⟩ (ds.take j)).1.map dEnt++[x]++List.replicate (nn.length - (j+1)) (dEnt ka6):=fun x=>by
    rw[List.set_append_right _ _ (by rw[List.length_map];omega),show j - ((Sc.declOf ⟨env,tk,c,evN ev nn nn.length⟩ (ds.take j)).1.map dEnt).length=0 by rw[List.length_map];omega,show nn.length - j=nn.length - (j+1)+1 by omega,List.replicate_succ,List.set_cons_zero,List.append_assoc]
    rfl
   have hin:j<((Sc.declOf ⟨env,tk,c,evN ev nn nn.length⟩ (ds.take j)).1.map dEnt++List.replicate (nn.length - j) (dEnt ka6)).length:=by rw[List.length_append,List.length_map,List.length_replicate];omega
   have htk:=jh4 ds ⟨env,tk,c,evN ev nn nn.length⟩ j (by omega)
   (repeat' first|refine tr_at 32 ?_;(refine n5 32 ?_)|refine tr_at 42 ?_;refine y_callE (hc:=hone) ?_|refine yyp ?_;try refine s_bu ?_ ?_<;>intro hb|refine yy ?_|refine yy2 ?_ ?_<;>intro hcmp|refine at_nil ?_;refine z_nil qs27_0 ?_|refine tc_seq fun K hK=>?_|apply_assumption -exfalso -symm)
   refine⟨j+1,by omega,by omega,?_⟩
   rw[htk]
   dsimp only
   rw[List.map_append,List.map_cons,List.map_nil,<-hset]
   exact v7
  obtain rfl:j=nn.length:=by omega
  rw[Nat.sub_self,List.replicate_zero,List.append_nil,List.take_of_length_le hle2]
  (repeat' first|refine tr_at 32 ?_;(refine n5 32 ?_)|refine yyp ?_;try refine s_bu ?_ ?_<;>intro hb|refine yy ?_|refine yy2 ?_ ?_<;>intro hcmp|refine at_nil ?_;refine z_nil qs27_0 ?_|refine tc_seq fun K hK=>?_|apply_assumption -exfalso -symm)
  refine jo4 32 rfl ?_
  (refine j0 (j7 ⟨?_,rfl⟩))
  rfl
end
section
def qs28_0:List Nat:=[0,1,4,5,7,10,14,15,16,17]
variable {mm:Int}
theorem Tryz.elI:qx7 prog 33 3 1 8:=mq1 (z:=.int .i64 0) (by kernel_rfl) Tryz.underlying33 rfl (by decide)
theorem Tryz.elK:qx7 prog 102 25 1 1:=mq1 (z:=.int .u8 0) (by kernel_rfl) Tryz.underlying102 rfl (by decide)
theorem Reads.rd {w:World}{M:Nat->Nat->Prop}{a:Option Addr}{ys:List Value}(h:Reads w M a ys):Rd w w.heap.size a ys:=fun j x hj=>by
 obtain⟨b,o,e,_,hc⟩:=h j x hj
 exact⟨b,o,e,World.block_lt_of_cell? w ⟨b,o+j,none⟩ hc,hc⟩
theorem mw0 {w:World}{M:Nat->Nat->Prop}{sz:Nat}{xs:List D}{v:Value}(h:RepD w M (.list sz xs) v):∃ (a:Option Addr) (c:Nat) (ys:List Value),v=.slice a xs.length c/\RepE w M sz xs ys/\Sl w w.heap.size a xs.length c sz ys:=by
 obtain⟨a,c,ys,h1,h2,h3,h4,h5,h6⟩:=h
 exact⟨a,c,ys,h1,h5,h5.length,h6.rd,h2,h3,h4⟩
theorem mg2 {w w':World}{M:Nat->Nat->Prop}{e sz:TypeId}{xs:List D}{ys:List Value}{a:Option Addr}{c n:Nat}(hM:∀ b o,M b o->b<w.heap.size)(hn:n=xs.length)(h:w'.ownsRow w.heap.size e sz (.slice a n c) n ys)(hr:RepE w' M sz xs ys):RepD w' M (.list sz xs) (.slice a n c):=by
 subst hn
 have hs:=Sl.of_owns h
 refine⟨a,c,ys,rfl,hs.cap,hs.max,hs.nil,hr,fun j y hj=>?_⟩
 obtain⟨b,o,e',_,hc⟩:=hs.rd j y hj
 rcases h.2 with ⟨q1,q2⟩|⟨g,cap,cur,q,q0,q1,q2,q3,q4,q5⟩
 ·have h1:=h.1
  simp only[Value.slice.injEq]at q1
  obtain⟨_,q1,_⟩:=q1
  have:ys.length=0:=by rw[h1,q1];simp
  have:=(List.getElem?_eq_some_iff.1 hj).1
  omega
 ·simp only[Value.slice.injEq]at q
  obtain⟨rfl,_,rfl⟩:=q
  cases e'
  exact⟨_,_,rfl,fun hm=>by have:=hM _ _ hm;omega,hc⟩
attribute [local irreducible] TR TC
theorem jf6 (gl:List (Nat × List D))(l:List Int)(hl:l.length<=10000000):FnD prog gl 61 [.d (.list 1 (l.map (.int .i64)))] (fun v=>v=.d (.list 1 (l.map (.int .i64)))):=by
 intro w M us hM hus _
 simp only[RepL]at hus
 obtain⟨v,r,rfl,hv,rfl⟩:=hus
 obtain⟨a,c,ys,rfl,h1,hs⟩:=mw0 hv
 have hn:(l.map (D.int .i64)).length=l.length:=List.length_map _
 rw[hn]at hs ⊢
 generalize hnl:l.length=n at *
 have hk:=fun w=>Lib.run_eql_slice_nil (P:=prog) w 33 3 a n c 0 0 Tryz.underlying33
 have hone:=RepE.one h1
 have hyl:ys.length=n * 1:=hs.len
 cases a with
 |none=>
  have hc:=hs.nil rfl
  subst hc
  have hn0:n=0:=by have:=hs.cap;omega
  subst hn0
  have hx:l=[]:=List.eq_nil_of_length_eq_zero hnl
  subst hx
  go_enter func61,ntmps61
  go_wp2
  go_ret
  exact⟨_,_,rfl,.d _,rfl,Below.refl _ _,none,0,[],rfl,Nat.le_refl _,Nat.zero_le _,fun _=>rfl,rfl,Reads.nil _ _ _⟩
 |some ad=>
  have ho:=kn8 w [] 3 0 1 w.heap.size rfl (Nat.zero_le _) (Nat.le_refl _)
  go_enter func61,ntmps61
  go_wp2_with (at_builtin;go_must (refine mq3 rfl (.tmp 5) (.tmp 6) 33 rfl Tryz.elI rfl ho rfl (hs.below ((Below.refl _ _).alloc (Nat.le_refl _) _) (Nat.le_refl _)) hone (by omega) (by omega) (by simp) ?_))
  intro a' c' w' h1' _ h3
  go_wp2
  go_ret
  have hb:=((Below.refl _ _).alloc (Nat.le_refl _) _).trans h3
  exact⟨_,_,rfl,.d _,rfl,hb,mg2 hM (by rw[hn]) h1' (RepE.keep (Keeps.below hb) _ _ _ h1)⟩
theorem qj0 (gl:List (Nat × List D))(l:List Int)(hl:l.length<=10000000):FnD prog gl 107 [.d (.list 1 (l.map (.int .u8)))] (fun v=>v=.d (.list 1 (l.map (.int .u8)))):=by
 intro w M us hM hus _
 simp only[RepL]at hus
 obtain⟨v,r,rfl,hv,rfl⟩:=hus
 obtain⟨a,c,ys,rfl,h1,hs⟩:=mw0 hv
 have hn:(l.map (D.int .u8)).length=l.length:=List.length_map _
 rw[hn]at hs ⊢
 generalize hnl:l.length=n at *
 have hk:=fun w=>Lib.run_eql_slice_nil (P:=prog) w 102 25 a n c 0 0 Tryz.underlying102
 have hone:=RepE.one h1
 have hyl:ys.length=n * 1:=hs.len
 cases a with
 |none=>
  have hc:=hs.nil rfl
  subst hc
  have hn0:n=0:=by have:=hs.cap;omega
  subst hn0
  have hx:l=[]:=List.eq_nil_of_length_eq_zero hnl
  subst hx
  go_enter func107,ntmps107
  go_wp2
  go_ret
  exact⟨_,_,rfl,.d _,rfl,Below.refl _ _,none,0,[],rfl,Nat.le_refl _,Nat.zero_le _,fun _=>rfl,rfl,Reads.nil _ _ _⟩
 |some ad=>
  have ho:=kn8 w [] 25 0 1 w.heap.size rfl (Nat.zero_le _) (Nat.le_refl _)
  go_enter func107,ntmps107
  go_wp2_with (at_builtin;go_must (refine mq3 rfl (.tmp 5) (.tmp 6) 102 rfl Tryz.elK rfl ho rfl (hs.below ((Below.refl _ _).alloc (Nat.le_refl _) _) (Nat.le_refl _)) hone (by omega) (by omega) (by simp) ?_))
  intro a' c' w' h1' _ h3
  go_wp2
  go_ret
  have hb:=((Below.refl _ _).alloc (Nat.le_refl _) _).trans h3
  exact⟨_,_,rfl,.d _,rfl,hb,mg2 hM (by rw[hn]) h1' (RepE.keep (Keeps.below hb) _ _ _ h1)⟩
theorem qj1 (gl:List (Nat × List D))(v:Va)(hv:v.items.length<=10000000):FnD prog gl 106 [.d (dVa v)] (fun r=>r=.d (dVa v)):=by
 have h:=qj0 gl v.items hv
 (refine j4 func106 ntmps106 results106 fun w M=>?_)
 (repeat' first|refine tr_at 1 ?_;(refine k7 1 ?_)|refine tr_at 2 ?_;(refine j1 2 ?_)|refine yyp ?_;try refine s_bu ?_ ?_<;>intro hb|refine yy ?_|refine at_call 107 ?_;refine y_call (hc:=h) ?_|refine at_nil ?_;refine z_nil [0,1,2,3,4,5,6,104] ?_|refine tc_seq fun K hK=>?_|apply_assumption -exfalso -symm)
 (refine j0 (j6 ?_))
 rfl
theorem ml1 (gl:List (Nat × List D))(l:List Va)(hl:l.length<=1000000000)(hv:∀ v∈l,v.items.length<=10000000):FnD prog gl 105 [.d (.list 2 (l.map dVa)),.clo (.func 106) [] []] (fun r=>r=.d (.list 2 (l.map dVa))):=by
 (refine j4 func105 ntmps105 results105 fun w M=>?_)
 (repeat' first|refine tr_at 13 ?_;(refine jc3 13 ?_)|refine yyp ?_;try refine s_bu ?_ ?_<;>intro hb|refine yy ?_|refine yy2 ?_ ?_<;>intro hcmp|refine at_nil ?_;refine z_nil qs28_0 ?_|refine tc_seq fun K hK=>?_|apply_assumption -exfalso -symm)
 ·have h0:l=[]:=List.eq_nil_of_length_eq_zero (by omega)
  subst h0
  (refine j0 (j6 ?_))
  rfl
 refine k9 [5,7,16,17,18,19,20,21,22,23,24,25,26] [13] (fun x:Nat × Nat=>[(16,.d (.int .i64 x.1)),(5,.own 13 x.2)]) (fun x=>[(13,.row 104 2 true ((l.take x.1).map dVa) x.2)]) (fun x=>x.1<=l.length) (fun x=>l.length - x.1) (0,0) (Nat.zero_le _) fun⟨j,kv⟩ hj=>?_
 dsimp only[List.cons_append,List.nil_append]at hj ⊢
 have hlen:(l.take j).length=j:=by rw[List.length_take];omega
 rcases Nat.lt_or_ge j l.length with hj2|hj2
 ·have hone:=qj1 gl l[j] (hv _ (List.getElem_mem hj2))
  (repeat' first|refine tr_at 7 ?_;(refine j1 7 ?_)|refine tr_at 23 ?_;refine y_callG (hc:=FnE.ofD hone (by(repeat (first|exact Pures.nil|apply Pures.cons (Pure.d _)|apply Pures.cons (Pure.nils _)));fail_if_success intros)) ?_|refine tr_at 24 ?_;(refine z_lit 24 ?_)|refine yyp ?_;try refine s_bu ?_ ?_<;>intro hb|refine yy ?_|(refine at_append ?_;first|(refine z_append (fun kv=>?_))|(refine z_append_suf (fun sx sp kv hsx hsp hsl=>?_)))|refine at_nil ?_;refine z_nil qs28_0 ?_|refine tc_seq fun K hK=>?_|apply_assumption -exfalso -symm)
  refine⟨(j+1,kv),by dsimp only;omega,by dsimp only;omega,?_⟩
  dsimp only
  rw[List.take_succ_eq_append_getElem hj2]
  simp only[List.map_append,List.map_cons,List.map_nil]
  exact v7
 (repeat' first|refine yyp ?_;try refine s_bu ?_ ?_<;>intro hb|refine yy ?_|refine at_nil ?_;refine z_nil qs28_0 ?_|refine tc_seq fun K hK=>?_|apply_assumption -exfalso -symm)
 rw[List.take_of_length_le hj2]
 (refine j0 (j6 ?_))
 rfl
end
end Go.Proofs.YtdopmfifmgkmoaaGreatDoor
