/- Parts: A7, A8, A9. -/
import Derived.Test.YtklklgfpkpglgaaGreatDoorP40
import Derived.Lib.SliceRun
import Derived.Lib.AppendZerosOnto
import Derived.Lib.Walk
set_option linter.all false
set_option maxRecDepth 100000
set_option maxHeartbeats 16000000
namespace Go.Proofs.YtklklgfpkpglgaaGreatDoor
open Go.RowKit Go.Proofs.Tryz
section
def Nw:List Nat:=[0,1,5,6,7,8,9]
def qn4:List Nat:=[5,8,9,10,11,12,13,14]
def Rz:List Nat:=[0,1,4,5,6,7,9]
def rb4:List Nat:=[4,5,8,9,10,11,12,13,14,15]
namespace Al
def dPc (q:Pc):D:=.agg [.list 6 (q.formals.map dFo),.map (Dq q.occ) (Dr q.occ),.map (Dq q.wr) (Dr q.wr)]
def HA (w:Wd):List (Nat × Ob):=[(900,.box [.map 901,.map 902,.map 903]),(901,.map (Dq w.known) (Dr w.known)),(902,.map (Md w.is) (Mw .str w.is)),(903,.map (Md w.procs) (Mw dPc w.procs))]
theorem mh2 {is:List (ByteArray × ByteArray)}(hr:Rank is){s:ByteArray}(h:at1 s is=none):Dw is s=s:=(hr.base s).det (.done h)
theorem qn5 {is:List (ByteArray × ByteArray)}(hr:Rank is){s v:ByteArray}(h:at1 s is=some v):Dw is s=Dw is v:=(hr.base s).det (.step h (hr.base v))
attribute [local irreducible] TR TC
theorem ky6 (gl:List (Nat × List D))(ω:Wd)(s:ByteArray)(hr:Rank ω.is):FnE prog gl 76 [.ptr 900 0,.d (.str s)] (HA ω) (fun v H1=>v=.d (.str (Dw ω.is s))/\H1=HA ω):=by
 obtain⟨r,hr1⟩:=id hr;dsimp only[HA]
 (refine j2 func76 ntmps76 results76 fun w M E b0=>?_)
 (repeat' first|refine yyp ?_;try refine Ce ?_ ?_<;>intro hb|refine yy ?_|refine at_nil ?_;refine Cc [0,1,4,5,6,7,17] ?_|refine Cb fun K hK=>?_|apply_assumption -exfalso -symm)
 refine j6 [1,4,5,6,7,8,9,10,11,12,13,14,15,16,17,18,19] [] (fun x:ByteArray=>[(1,.d (.str x))]) (fun _=>[]) (fun x=>Dw ω.is s=Dw ω.is x) r s rfl fun x hx=>?_;dsimp only[Ac,Af]
 (repeat' first|refine Ca 13 ?_;(refine Rv (f:=.str) (fun u hu=>?_) (fun hu=>?_))|refine yyp ?_;try refine Ce ?_ ?_<;>intro hb|refine yy ?_|refine at_nil ?_;refine Cc [0,1,4,5,6,7,17] ?_|refine Cb fun K hK=>?_|apply_assumption -exfalso -symm)
 ·refine⟨u,hx.trans (qn5 hr hu),hr1 _ (mg6 hu),?_⟩;exact k8
 ·rw[hx,mh2 hr hu]
  (refine j1 (j4 ⟨?_,rfl⟩))
  rfl
theorem Jv (gl:List (Nat × List D))(e:Ex):FnD prog gl 74 [.d (dEx e)] (fun v=>v=.d (.bool (jc3 e))):=by
 rw[k9]
 (refine j7 func74 ntmps74 results74 fun w M=>?_)
 (repeat' first|refine Ca 1 ?_;(refine Cq 1 ?_)|refine yyp ?_;try refine Ce ?_ ?_<;>intro hb|refine yy ?_|refine yy2 ?_ ?_<;>intro hcmp|refine at_nil ?_;refine Cc [0,1,2,3,4,5,6] ?_|refine Cb fun K hK=>?_|apply_assumption -exfalso -symm)
 all_goals
  (refine j1 (k7 ?_))
  simp only[oneOf,Bk,Be,jc3]
  grind
theorem rx7 (gl:List (Nat × List D))(f:Fo):FnD prog gl 75 [.d (dFo f)] (fun v=>v=.d (.bool (vb6 f))):=by
 unfold dFo
 (refine j7 func75 ntmps75 results75 fun w M=>?_)
 (repeat' first|refine Ca 1 ?_;(refine Cq 1 ?_)|refine yyp ?_;try refine Ce ?_ ?_<;>intro hb|refine yy ?_|refine yy2 ?_ ?_<;>intro hcmp|refine at_nil ?_;refine Cc [0,1,2,3,4,5,6] ?_|refine Cb fun K hK=>?_|apply_assumption -exfalso -symm)
 all_goals
  (refine j1 (k7 ?_))
  simp only[oneOf,Bk,Be,vb6]
  grind
theorem kn3 (gl:List (Nat × List D))(Ks ns:List ByteArray):FnE prog gl 40 [.map 901,.d (.list 1 (ns.map .str))] [(901,.map (Dq Ks) (Dr Ks))] (fun v H1=>v=.tup []/\H1=[(901,.map (Dq (Il Ks ns)) (Dr (Il Ks ns)))]):=by
 (refine j2 func40 ntmps40 results40 fun w M E b0=>?_)
 refine j8 1 rfl fun hsm=>?_;rw[Ab]at hsm
 (repeat' first|refine yyp ?_;try refine Ce ?_ ?_<;>intro hb|refine yy ?_|refine at_nil ?_;refine Cc Nw ?_|refine Cb fun K hK=>?_|apply_assumption -exfalso -symm)
 refine j6 qn4 [901] (fun j:Nat=>[(8,.d (.int .i64 j))]) (fun j=>[(901,.map (Dq (Il Ks (ns.take j))) (Dr (Il Ks (ns.take j))))]) (fun j=>j<=ns.length) (fun j=>ns.length - j) 0 (Ai _) fun j hj=>?_;dsimp only[Ac,Af];rcases Ah j ns.length with hj2|hj2
 ·(repeat' first|refine jg0 2 ?_;(refine jm0 ?_)|refine yyp ?_;try refine Ce ?_ ?_<;>intro hb|refine yy ?_|refine at_nil ?_;refine Cc Nw ?_|refine Cb fun K hK=>?_|apply_assumption -exfalso -symm)
  refine⟨j+1,by omega,by omega,?_⟩;rw[jn5 hj2];exact k8
 ·(repeat' first|refine yyp ?_;try refine Ce ?_ ?_<;>intro hb|refine yy ?_|refine at_nil ?_;refine Cc Nw ?_|refine Cb fun K hK=>?_|apply_assumption -exfalso -symm)
  rw[Am hj2];exact g8 ⟨rfl,rfl⟩
theorem qn6 (gl:List (Nat × List D))(Ks ns:List ByteArray):FnE prog gl 40 [.map 904,.d (.list 1 (ns.map .str))] [(904,.map (Dq Ks) (Dr Ks))] (fun v H1=>v=.tup []/\H1=[(904,.map (Dq (Il Ks ns)) (Dr (Il Ks ns)))]):=by
 (refine j2 func40 ntmps40 results40 fun w M E b0=>?_)
 refine j8 1 rfl fun hsm=>?_;rw[Ab]at hsm
 (repeat' first|refine yyp ?_;try refine Ce ?_ ?_<;>intro hb|refine yy ?_|refine at_nil ?_;refine Cc Nw ?_|refine Cb fun K hK=>?_|apply_assumption -exfalso -symm)
 refine j6 qn4 [904] (fun j:Nat=>[(8,.d (.int .i64 j))]) (fun j=>[(904,.map (Dq (Il Ks (ns.take j))) (Dr (Il Ks (ns.take j))))]) (fun j=>j<=ns.length) (fun j=>ns.length - j) 0 (Ai _) fun j hj=>?_;dsimp only[Ac,Af];rcases Ah j ns.length with hj2|hj2
 ·(repeat' first|refine jg0 2 ?_;(refine jm0 ?_)|refine yyp ?_;try refine Ce ?_ ?_<;>intro hb|refine yy ?_|refine at_nil ?_;refine Cc Nw ?_|refine Cb fun K hK=>?_|apply_assumption -exfalso -symm)
  refine⟨j+1,by omega,by omega,?_⟩;rw[jn5 hj2];exact k8
 ·(repeat' first|refine yyp ?_;try refine Ce ?_ ?_<;>intro hb|refine yy ?_|refine at_nil ?_;refine Cc Nw ?_|refine Cb fun K hK=>?_|apply_assumption -exfalso -symm)
  rw[Am hj2];exact g8 ⟨rfl,rfl⟩
theorem qn7 (gl:List (Nat × List D))(Ks ns:List ByteArray):FnE prog gl 40 [.map 905,.d (.list 1 (ns.map .str))] [(905,.map (Dq Ks) (Dr Ks))] (fun v H1=>v=.tup []/\H1=[(905,.map (Dq (Il Ks ns)) (Dr (Il Ks ns)))]):=by
 (refine j2 func40 ntmps40 results40 fun w M E b0=>?_)
 refine j8 1 rfl fun hsm=>?_;rw[Ab]at hsm
 (repeat' first|refine yyp ?_;try refine Ce ?_ ?_<;>intro hb|refine yy ?_|refine at_nil ?_;refine Cc Nw ?_|refine Cb fun K hK=>?_|apply_assumption -exfalso -symm)
 refine j6 qn4 [905] (fun j:Nat=>[(8,.d (.int .i64 j))]) (fun j=>[(905,.map (Dq (Il Ks (ns.take j))) (Dr (Il Ks (ns.take j))))]) (fun j=>j<=ns.length) (fun j=>ns.length - j) 0 (Ai _) fun j hj=>?_;dsimp only[Ac,Af];rcases Ah j ns.length with hj2|hj2
 ·(repeat' first|refine jg0 2 ?_;(refine jm0 ?_)|refine yyp ?_;try refine Ce ?_ ?_<;>intro hb|refine yy ?_|refine at_nil ?_;refine Cc Nw ?_|refine Cb fun K hK=>?_|apply_assumption -exfalso -symm)
  refine⟨j+1,by omega,by omega,?_⟩;rw[jn5 hj2];exact k8
 ·(repeat' first|refine yyp ?_;try refine Ce ?_ ?_<;>intro hb|refine yy ?_|refine at_nil ?_;refine Cc Nw ?_|refine Cb fun K hK=>?_|apply_assumption -exfalso -symm)
  rw[Am hj2];exact g8 ⟨rfl,rfl⟩
theorem qn8 (gl:List (Nat × List D))(Ks ns:List ByteArray):FnE prog gl 40 [.map 906,.d (.list 1 (ns.map .str))] [(906,.map (Dq Ks) (Dr Ks))] (fun v H1=>v=.tup []/\H1=[(906,.map (Dq (Il Ks ns)) (Dr (Il Ks ns)))]):=by
 (refine j2 func40 ntmps40 results40 fun w M E b0=>?_)
 refine j8 1 rfl fun hsm=>?_;rw[Ab]at hsm
 (repeat' first|refine yyp ?_;try refine Ce ?_ ?_<;>intro hb|refine yy ?_|refine at_nil ?_;refine Cc Nw ?_|refine Cb fun K hK=>?_|apply_assumption -exfalso -symm)
 refine j6 qn4 [906] (fun j:Nat=>[(8,.d (.int .i64 j))]) (fun j=>[(906,.map (Dq (Il Ks (ns.take j))) (Dr (Il Ks (ns.take j))))]) (fun j=>j<=ns.length) (fun j=>ns.length - j) 0 (Ai _) fun j hj=>?_;dsimp only[Ac,Af];rcases Ah j ns.length with hj2|hj2
 ·(repeat' first|refine jg0 2 ?_;(refine jm0 ?_)|refine yyp ?_;try refine Ce ?_ ?_<;>intro hb|refine yy ?_|refine at_nil ?_;refine Cc Nw ?_|refine Cb fun K hK=>?_|apply_assumption -exfalso -symm)
  refine⟨j+1,by omega,by omega,?_⟩;rw[jn5 hj2];exact k8
 ·(repeat' first|refine yyp ?_;try refine Ce ?_ ?_<;>intro hb|refine yy ?_|refine at_nil ?_;refine Cc Nw ?_|refine Cb fun K hK=>?_|apply_assumption -exfalso -symm)
  rw[Am hj2];exact g8 ⟨rfl,rfl⟩
theorem qn9 (gl:List (Nat × List D))(Ks ns:List ByteArray):FnE prog gl 40 [.map 907,.d (.list 1 (ns.map .str))] [(907,.map (Dq Ks) (Dr Ks))] (fun v H1=>v=.tup []/\H1=[(907,.map (Dq (Il Ks ns)) (Dr (Il Ks ns)))]):=by
 (refine j2 func40 ntmps40 results40 fun w M E b0=>?_)
 refine j8 1 rfl fun hsm=>?_;rw[Ab]at hsm
 (repeat' first|refine yyp ?_;try refine Ce ?_ ?_<;>intro hb|refine yy ?_|refine at_nil ?_;refine Cc Nw ?_|refine Cb fun K hK=>?_|apply_assumption -exfalso -symm)
 refine j6 qn4 [907] (fun j:Nat=>[(8,.d (.int .i64 j))]) (fun j=>[(907,.map (Dq (Il Ks (ns.take j))) (Dr (Il Ks (ns.take j))))]) (fun j=>j<=ns.length) (fun j=>ns.length - j) 0 (Ai _) fun j hj=>?_;dsimp only[Ac,Af];rcases Ah j ns.length with hj2|hj2
 ·(repeat' first|refine jg0 2 ?_;(refine jm0 ?_)|refine yyp ?_;try refine Ce ?_ ?_<;>intro hb|refine yy ?_|refine at_nil ?_;refine Cc Nw ?_|refine Cb fun K hK=>?_|apply_assumption -exfalso -symm)
  refine⟨j+1,by omega,by omega,?_⟩;rw[jn5 hj2];exact k8
 ·(repeat' first|refine yyp ?_;try refine Ce ?_ ?_<;>intro hb|refine yy ?_|refine at_nil ?_;refine Cc Nw ?_|refine Cb fun K hK=>?_|apply_assumption -exfalso -symm)
  rw[Am hj2];exact g8 ⟨rfl,rfl⟩
theorem qa0 (gl:List (Nat × List D))(Ks ns:List ByteArray):FnE prog gl 71 [.map 904,.d (.map (Dq ns) (Dr ns))] [(904,.map (Dq Ks) (Dr Ks))] (fun v H1=>∃ L:List ByteArray,(∀ s,s∈L↔s∈Ks\/s∈ns)/\v=.tup []/\H1=[(904,.map (Dq L) (Dr L))]):=by
 (refine j2 func71 ntmps71 results71 fun w M E b0=>?_)
 (repeat' first|refine Ca 7 ?_;(refine ky0 1007 ?_)|refine yyp ?_;try refine Ce ?_ ?_<;>intro hb|refine yy ?_|refine at_nil ?_;refine Cc Rz ?_|refine Cb fun K hK=>?_|apply_assumption -exfalso -symm)
 rw[show(Dq ns).length=ns.length from Ab ..];refine j6 rb4 [904,1007] (fun _:List ByteArray × List Nat × Option Nat=>[]) (fun x=>[(904,.map (Dq x.1) (Dr x.1)),(1007,.miter (Dq ns) (Dr ns) x.2.1 x.2.2)]) (fun x=>(∀ i∈x.2.1,i<ns.length)/\(∀ s,s∈x.1->s∈Ks\/s∈ns)/\(∀ s,s∈Ks->s∈x.1)/\∀ i s,ns[i]? =some s->i∈x.2.1\/s∈x.1) (fun x=>x.2.1.length) (Ks,List.range ns.length,none)
  ⟨fun i hi=>Ew.1 hi,fun s hs=>.inl hs,fun s hs=>hs,fun i s hi=>.inl (Ew.2 (Ay.1 hi).1)⟩ fun⟨L,left,cur⟩ ⟨h1,h2,h3,h4⟩=>?_
 dsimp only[Ac,Af]at h1 h2 h3 h4 ⊢
 (repeat' first|refine Ca 8 ?_;(refine mn8 h1 (fun i s hi hs=>?_) (fun hl0=>?_))|refine Ca 10 ?_;(refine ky1 hs ?_)|refine jg0 3 ?_;(refine jm0 ?_)|refine yyp ?_;try refine Ce ?_ ?_<;>intro hb|refine yy ?_|refine at_nil ?_;refine Cc Rz ?_|refine Cb fun K hK=>?_|apply_assumption -exfalso -symm)
 ·refine⟨(addN L s,left.erase i,some i),⟨fun j hj=>h1 j (List.mem_of_mem_erase hj),fun t ht=>?_,fun t ht=>jg8.2 (.inl (h3 t ht)),fun j t hj=>?_⟩,?_,k8⟩
  ·rcases jg8.1 ht with ht|rfl
   ·exact h2 t ht
   ·exact .inr (Bu hs)
  ·rcases h4 j t hj with hm|hm
   ·by_cases hji:j=i
    ·subst hji;rw[hs]at hj;cases hj;exact .inr (jg8.2 (.inr rfl))
    ·exact .inl ((List.mem_erase_of_ne hji).2 hm)
   ·exact .inr (jg8.2 (.inl hm))
  ·have:=List.length_erase_of_mem hi;have:=List.length_pos_of_mem hi;dsimp only;omega
 ·subst hl0;exact g8 ⟨L,fun s=>⟨h2 s,fun hs=>hs.elim (h3 s) fun hs=>by
   obtain⟨i,hi⟩:=List.getElem?_of_mem hs;rcases h4 i s hi with h|h
   ·cases h
   ·exact h⟩,rfl,rfl⟩
theorem mo3 (gl:List (Nat × List D))(Ks:List ByteArray):FnE prog gl 71 [.map 904,.d (.raw (.map none))] [(904,.map (Dq Ks) (Dr Ks))] (fun v H1=>v=.tup []/\H1=[(904,.map (Dq Ks) (Dr Ks))]):=by
 (refine j2 func71 ntmps71 results71 fun w M E b0=>?_)
 (repeat' first|refine Ca 7 ?_;(refine mu9 1007 ?_)|refine yyp ?_;try refine Ce ?_ ?_<;>intro hb|refine yy ?_|refine at_nil ?_;refine Cc Rz ?_|refine Cb fun K hK=>?_|apply_assumption -exfalso -symm)
 refine j6 rb4 [] (fun _:Unit=>[]) (fun _=>[]) (fun _=>True) (fun _=>0) () trivial fun _ _=>?_;dsimp only[Ac,Af]
 (repeat' first|refine Ca 8 ?_;(refine qm8 ?_)|refine yyp ?_;try refine Ce ?_ ?_<;>intro hb|refine yy ?_|refine at_nil ?_;refine Cc Rz ?_|refine Cb fun K hK=>?_|apply_assumption -exfalso -symm)
 exact g8 ⟨rfl,rfl⟩
theorem qa1 (gl:List (Nat × List D))(Ks ns:List ByteArray):FnE prog gl 71 [.map 905,.d (.map (Dq ns) (Dr ns))] [(905,.map (Dq Ks) (Dr Ks))] (fun v H1=>∃ L:List ByteArray,(∀ s,s∈L↔s∈Ks\/s∈ns)/\v=.tup []/\H1=[(905,.map (Dq L) (Dr L))]):=by
 (refine j2 func71 ntmps71 results71 fun w M E b0=>?_)
 (repeat' first|refine Ca 7 ?_;(refine ky0 1007 ?_)|refine yyp ?_;try refine Ce ?_ ?_<;>intro hb|refine yy ?_|refine at_nil ?_;refine Cc Rz ?_|refine Cb fun K hK=>?_|apply_assumption -exfalso -symm)
 rw[show(Dq ns).length=ns.length from Ab ..];refine j6 rb4 [905,1007] (fun _:List ByteArray × List Nat × Option Nat=>[]) (fun x=>[(905,.map (Dq x.1) (Dr x.1)),(1007,.miter (Dq ns) (Dr ns) x.2.1 x.2.2)]) (fun x=>(∀ i∈x.2.1,i<ns.length)/\(∀ s,s∈x.1->s∈Ks\/s∈ns)/\(∀ s,s∈Ks->s∈x.1)/\∀ i s,ns[i]? =some s->i∈x.2.1\/s∈x.1) (fun x=>x.2.1.length) (Ks,List.range ns.length,none)
  ⟨fun i hi=>Ew.1 hi,fun s hs=>.inl hs,fun s hs=>hs,fun i s hi=>.inl (Ew.2 (Ay.1 hi).1)⟩ fun⟨L,left,cur⟩ ⟨h1,h2,h3,h4⟩=>?_
 dsimp only[Ac,Af]at h1 h2 h3 h4 ⊢
 (repeat' first|refine Ca 8 ?_;(refine mn8 h1 (fun i s hi hs=>?_) (fun hl0=>?_))|refine Ca 10 ?_;(refine ky1 hs ?_)|refine jg0 3 ?_;(refine jm0 ?_)|refine yyp ?_;try refine Ce ?_ ?_<;>intro hb|refine yy ?_|refine at_nil ?_;refine Cc Rz ?_|refine Cb fun K hK=>?_|apply_assumption -exfalso -symm)
 ·refine⟨(addN L s,left.erase i,some i),⟨fun j hj=>h1 j (List.mem_of_mem_erase hj),fun t ht=>?_,fun t ht=>jg8.2 (.inl (h3 t ht)),fun j t hj=>?_⟩,?_,k8⟩
  ·rcases jg8.1 ht with ht|rfl
   ·exact h2 t ht
   ·exact .inr (Bu hs)
  ·rcases h4 j t hj with hm|hm
   ·by_cases hji:j=i
    ·subst hji;rw[hs]at hj;cases hj;exact .inr (jg8.2 (.inr rfl))
    ·exact .inl ((List.mem_erase_of_ne hji).2 hm)
   ·exact .inr (jg8.2 (.inl hm))
  ·have:=List.length_erase_of_mem hi;have:=List.length_pos_of_mem hi;dsimp only;omega
 ·subst hl0;exact g8 ⟨L,fun s=>⟨h2 s,fun hs=>hs.elim (h3 s) fun hs=>by
   obtain⟨i,hi⟩:=List.getElem?_of_mem hs;rcases h4 i s hi with h|h
   ·cases h
   ·exact h⟩,rfl,rfl⟩
theorem mo4 (gl:List (Nat × List D))(Ks:List ByteArray):FnE prog gl 71 [.map 905,.d (.raw (.map none))] [(905,.map (Dq Ks) (Dr Ks))] (fun v H1=>v=.tup []/\H1=[(905,.map (Dq Ks) (Dr Ks))]):=by
 (refine j2 func71 ntmps71 results71 fun w M E b0=>?_)
 (repeat' first|refine Ca 7 ?_;(refine mu9 1007 ?_)|refine yyp ?_;try refine Ce ?_ ?_<;>intro hb|refine yy ?_|refine at_nil ?_;refine Cc Rz ?_|refine Cb fun K hK=>?_|apply_assumption -exfalso -symm)
 refine j6 rb4 [] (fun _:Unit=>[]) (fun _=>[]) (fun _=>True) (fun _=>0) () trivial fun _ _=>?_;dsimp only[Ac,Af]
 (repeat' first|refine Ca 8 ?_;(refine qm8 ?_)|refine yyp ?_;try refine Ce ?_ ?_<;>intro hb|refine yy ?_|refine at_nil ?_;refine Cc Rz ?_|refine Cb fun K hK=>?_|apply_assumption -exfalso -symm)
 exact g8 ⟨rfl,rfl⟩
end Al
end
section
def Td:List Nat:=[0,1,2,3,5,6,7,8,18,19,20,21]
def rx8:List Nat:=[3,5,20,21,22,23,24,25,26,27,28]
section
variable {E:Set}{Q:Exit->Sd->Prop}{ops:Array Oper}{draw:Bool}{rest:Todo}{way:Jh}{ty:TypeId}{pos:String}{af:Array Edge}{gd:Option (Nat × Bool)}{d:Nat}
theorem qo0 {S:Sd}{o:Oper}{p:Bool->Prop}{v:Bool->V}(hb:∀ β a w,StB E.C β S a w->∃ b x,p b/\(∀ w',(execOp a.eval o).run E.P w'=.ok (.value x) w')/\Dp w (Mut E.C.M0 β S.H) β S.H (v b) x)(hdst:o.dst=some d)(hd:d<E.C.nt)(hg:S.gd ops o=some true)(hdf:p9 o=false)(h:∀ b,p b->TR E draw ops Q rest (S.put d (v b))):TR E draw ops Q (.step o way rest) S:=fun a w hS=>by
 have hS0:=hS;obtain⟨β,hB⟩:=hS;obtain⟨b,x,hp,h1,h2⟩:=hb β a w hB;have hput:∀ w',Grows w w'->St E.C (S.put d (v b)) (a.put o.dst x) w':=fun w' g=>by
  rw[hdst];exact St.later ⟨β,hB.put hd h2⟩ g
 cases draw with
 |true=>
  dsimp only;cases way with
  |pure=>
   simp only[r9];rw[Sd.Fy hS0 hg,Ad rfl];exact⟨x,fun w'=>h1 w',h b hp _ _ (hput w (Grows.refl w))⟩
  |quiet=>
   simp only[r9];rw[Sd.Fy hS0 hg,Ad rfl];refine⟨x,fun n=>?_,h b hp _ _ (hput w (Grows.refl w))⟩;rw[h1 n.w];exact⟨rfl,rfl⟩
  |grow=>
   simp only[r9];intro n;rw[Sd.Fy hS0 hg,Ad rfl];exact n9 (h1 n.w) ⟨Grows.refl _,h b hp _ _ (hput n.w n.grows)⟩
  |bar=>
   simp only[r9];intro n;rw[Sd.Fy hS0 hg,Ad rfl];exact n9 (h1 n.w) (h b hp _ _ (hput n.w n.grows))
 |false=>exact y4 hS0 hg hdf fun K hK=>n9 (h1 w) (hK _ _ (h b hp _ _ (hput w (Grows.refl w))))
variable {env:List (Nat × V)}{H:List (Nat × Ob)}{gl:List (Nat × List D)}
theorem ky7 {t e sz:Nat}{x:Operand}{xs:List D}[ht:TSlice E.P t e sz](h1:xs=[]->TR E draw ops Q rest ⟨(d,.d (.bool true))::env,H,gl⟩)(h2:TR E draw ops Q rest ⟨(d,.d (.bool false))::env,H,gl⟩)(hx:Sd.ev ⟨env,H,gl⟩ x=some (.d (.list sz xs)):=by exact rfl)(hox:Cn x=true:=by exact rfl)
 (hd:d<E.C.nt:=by exact ltd rfl) (hg:Sd.gd ⟨env,H,gl⟩ ops ⟨some d,.binOp .eql t x (.const (.slice none 0 0)) t,ty,pos,af,gd⟩=some true:=by exact rfl):TR E draw ops Q (.step ⟨some d,.binOp .eql t x (.const (.slice none 0 0)) t,ty,pos,af,gd⟩ way rest) ⟨env,H,gl⟩:=
 qo0 (p:=fun b=>b=true->xs=[]) (v:=fun b=>.d (.bool b)) (fun β a w h=>by
  obtain⟨ad,c,ys,h3,h4,_,h5,_⟩:=h.ev hx hox;obtain⟨i,hu,_⟩:=y3 ht;refine⟨ad.isNone,.bool ad.isNone,fun hb=>?_,fun w'=>?_,rfl⟩
  ·have:ad=none:=by simpa using hb
   have:=h5 this;exact Ar (by omega)
  ·have hb:=Lib.run_eql_slice_nil w' t e ad xs.length c 0 0 hu;have he:a.eval (.const (.slice none 0 0))=.slice none 0 0:=rfl;simp[execOp,h3,he,eqGuard,hb]) rfl hd hg rfl fun b hb=>by
  cases b with
  |true=>exact h1 (hb rfl)
  |false=>exact h2
end
namespace Al
attribute [local irreducible] TR TC
theorem qo1 (gl:List (Nat × List D)):∀ (m:Nat) (e:Ex),exN e<=m->m<=1000000000->FnD prog gl 70 [.d (dEx e)] (fun v=>v=.d (.list 1 ((jy9 e).map .str))):=by
 intro m
 induction m with
 |zero=>intro e h;have:=kb2 e;omega
 |succ m ih=>
  intro e hm hb;rw[qu2]at hm;have hlen:=n5 e.l;have hsub:∀ j (hj:j<e.l.length),((e.l.take j).flatMap jy9).length+(jy9 e.l[j]).length<=1000000000:=fun j hj=>by
   have h1:=jz0 (e.l.take j);have h2:=kx8 e.l[j];have h3:=z1 e.l j hj;rw[je2]at h1;omega
  have h1:∀ (j:Nat) (hj:j<e.l.length),FnD prog gl 70 [.d (dEx e.l[j])] (fun v=>v=.d (.list 1 ((jy9 e.l[j]).map .str))):=fun j hj=>ih e.l[j] (by have:=z1 e.l j hj;omega) (by omega);clear ih;rw[qm4];simp only[k9]at h1 ⊢;refine FnD.Wm (n:=930) (e:=9) ?_;by_cases hk:Dl e.kind=true
  ·rw[Ad hk]
   (refine j2 func70 ntmps70 results70 fun w M E b0=>?_)
   (repeat' first|refine Ca 1 ?_;(refine Cq 1 ?_)|refine Ca 15 ?_;(refine Dn 15 ?_)|refine Ca 16 ?_;refine mc3 930 ?_|refine yyp ?_;try refine Ce ?_ ?_<;>intro hb|refine yy ?_|refine yy2 ?_ ?_<;>intro hcmp|refine at_nil ?_;refine Cc Td ?_|refine Cb fun K hK=>?_|apply_assumption -exfalso -symm)
   all_goals first
    |(exfalso;unfold Dl at hk;grind)
    |(
     rw[k9];refine j6 rx8 [930] (fun x:Nat × Nat=>[(20,.d (.int .i64 x.1)),(3,.own 930 x.2)]) (fun x=>[(930,.row 9 1 true (([e.s]++(e.l.take x.1).flatMap jy9).map .str) x.2)]) (fun x=>x.1<=e.l.length) (fun x=>e.l.length - x.1) (0,0) (Ai _) fun⟨j,kv⟩ hj=>?_;dsimp only[Ac,Af]at hj ⊢;rcases Ah j e.l.length with hj2|hj2
     ·have hone:=h1 j hj2;have hsz:=hsub j hj2
      (repeat' first|refine Ca 5 ?_;(refine j3 5 ?_)|refine yyp ?_;try refine Ce ?_ ?_<;>intro hb|refine yy ?_|(refine Da ?_;first|(refine Df (fun kv=>?_))|(refine z_append_suf (fun sx sp kv hsx hsp hsl=>?_)))|refine Ch 70 ?_;refine Ck (hc:=hone) ?_|refine at_nil ?_;refine Cc Td ?_|refine Cb fun K hK=>?_|apply_assumption -exfalso -symm)
      refine⟨(j+1,kv),by dsimp only;omega,by dsimp only;omega,?_⟩;dsimp only;rw[Ao hj2,List.flatMap_append];simp only[En,List.flatMap_nil,Ea,As,Aq,Ax,Ac,Af];exact k8
     ·(repeat' first|refine yyp ?_;try refine Ce ?_ ?_<;>intro hb|refine yy ?_|refine at_nil ?_;refine Cc Td ?_|refine Cb fun K hK=>?_|apply_assumption -exfalso -symm)
      rw[Am hj2];refine j1 (ja2 ⟨_,?_,rfl⟩);rfl
     )
  ·rw[Ae hk,Af]
   (refine j2 func70 ntmps70 results70 fun w M E b0=>?_)
   (repeat' first|refine Ca 1 ?_;(refine Cq 1 ?_)|refine Ca 15 ?_;(refine Dn 15 ?_)|refine Ca 16 ?_;refine mc3 930 ?_|refine yyp ?_;try refine Ce ?_ ?_<;>intro hb|refine yy ?_|refine yy2 ?_ ?_<;>intro hcmp|refine at_nil ?_;refine Cc Td ?_|refine Cb fun K hK=>?_|apply_assumption -exfalso -symm)
   all_goals first
    |(exfalso;unfold Dl at hk;grind)
    |(
     refine jv6 (t:=3) (e:=9) (sz:=1) 930 rfl rfl ?_;rw[k9];refine j6 rx8 [930] (fun x:Nat × Nat=>[(20,.d (.int .i64 x.1)),(3,.own 930 x.2)]) (fun x=>[(930,.row 9 1 true (((e.l.take x.1).flatMap jy9).map .str) x.2)]) (fun x=>x.1<=e.l.length) (fun x=>e.l.length - x.1) (0,0) (Ai _) fun⟨j,kv⟩ hj=>?_;dsimp only[Ac,Af]at hj ⊢;rcases Ah j e.l.length with hj2|hj2
     ·have hone:=h1 j hj2;have hsz:=hsub j hj2
      (repeat' first|refine Ca 5 ?_;(refine j3 5 ?_)|refine yyp ?_;try refine Ce ?_ ?_<;>intro hb|refine yy ?_|(refine Da ?_;first|(refine Df (fun kv=>?_))|(refine z_append_suf (fun sx sp kv hsx hsp hsl=>?_)))|refine Ch 70 ?_;refine Ck (hc:=hone) ?_|refine at_nil ?_;refine Cc Td ?_|refine Cb fun K hK=>?_|apply_assumption -exfalso -symm)
      refine⟨(j+1,kv),by dsimp only;omega,by dsimp only;omega,?_⟩;dsimp only;rw[Ao hj2,List.flatMap_append];simp only[En,List.flatMap_nil,Ea,As,Aq,Ax,Ac,Af];exact k8
     ·(repeat' first|refine yyp ?_;try refine Ce ?_ ?_<;>intro hb|refine yy ?_|refine at_nil ?_;refine Cc Td ?_|refine Cb fun K hK=>?_|apply_assumption -exfalso -symm)
      rw[Am hj2];refine j1 (ja2 ⟨_,?_,rfl⟩);rfl
     )
theorem mv4 (gl:List (Nat × List D))(e:Ex)(h:exN e<=1000000000):FnD prog gl 70 [.d (dEx e)] (fun v=>v=.d (.list 1 ((jy9 e).map .str))):=qo1 gl _ e (Au _) h
theorem ky8 (gl:List (Nat × List D))(xs:List D)(hl:xs.length<=1000000000):FnE prog gl 73 [.d (.list 6 xs)] [] (fun v H1=>v=.own 931 0/\H1=[(931,.row 28 6 true xs 0)]):=by
 refine FnE.fix ?_
 (refine j2 func73 ntmps73 results73 fun w M E b0=>?_)
 (repeat' first|refine Ca 4 ?_;(refine ky7 (fun hx0=>?_) ?_)|refine Ca 5 ?_;(refine Dn 931 ?_)|refine yyp ?_;try refine Ce ?_ ?_<;>intro hb|refine yy ?_|(refine Da ?_;first|(refine Df (fun kv=>?_))|(refine z_append_suf (fun sx sp kv hsx hsp hsl=>?_)))|refine at_nil ?_;refine Cc [0,2,3,4,5,6] ?_|refine Cb fun K hK=>?_|apply_assumption -exfalso -symm)
 ·subst hx0;refine jv6 (t:=2) (e:=28) (sz:=6) 931 rfl rfl ?_;refine j1 (ja2 ⟨_,?_,rfl⟩);rfl
 ·refine j1 (ja2 ⟨_,?_,rfl⟩);rfl
end Al
end
section
def Ul:List Nat:=[0,2,3,5,6,8,9,10,11,12,20,25,26,27,28]
def Wo:List Nat:=[0,1,2,3,5,6,11,12,13,14]
namespace Al
attribute [local irreducible] TR TC
theorem rx9 (n:Nat)(hn:n<=1000000000)(w:World):
 Calls prog 117 #[.slice none 0 0,.int .i64 (n:Nat)] w fun e w'=>∃ a c,e=.returned (.slice a 0 c)/\w'.ownsRow w.heap.size 28 6 (.slice a 0 c) 0 []/\Below w.heap.size w w':=by
 by_cases h0:n=0
 ·subst h0
  go_enter func117,ntmps117
  go_wp2
  go_ret
  exact⟨none,0,rfl,⟨rfl,.inl ⟨rfl,rfl⟩⟩,Below.refl _ _⟩
 ·obtain⟨bytes,⟨i,z,ht,hi,hz,hsize,hbytes,hzs,hpos⟩,hbb⟩:=jg4 (inferInstance:TSlice prog 26 28 6);have hmul:∀ k:Nat,k<=4000000000->k * i.bytes<=140737488355328:=fun k hk=>by
   have:=Nat.mul_le_mul hk (by omega:i.bytes<=1024);omega
  have hfit:Builtin.nextslicecap (0+n) 0 * i.bytes<=281474976710656:=growslice_fits (by omega) (by have:=hmul (0+n) (by omega);omega);have hrz:∀ ty,(Builtin.append_ #[26,3] ty #[.slice none 0 0,.int .i64 (n:Nat)]).run prog w=
   .ok (.slice (some ⟨w.heap.size,0,none⟩) (0+n) (grownCap w (0+n) 0 28)) (w.drew.alloc (.cells ((#[]:Array Value)++Builtin.zeroCells z.cells n++Builtin.zeroCells z.cells (grownCap w (0+n) 0 28 - (0+n))) 28)):=fun ty=>
   Lib.run_append_grow_zeros w _ _ ty _ i z .i64 .i64 ht Tryz.underlying3 hi hz none 0 0 [] (run_firstCells_none w.drew i.size 0 0 0) n (by omega) (by omega) (by omega) (by omega) (by have:=hmul n (by omega);omega) hfit
  have hG:=grownCap_ge w (0+n) 0 28;have hM:=grownCap_le_maxLen w (0+n) 0 28 (by unfold maxLen;omega);generalize grownCap w (0+n) 0 28=G at *;have h1:decide ((0:Int)<(n:Int))=true:=by simp;omega
  have hZ:((#[]:Array Value)++Builtin.zeroCells z.cells n++Builtin.zeroCells z.cells (G - (0+n))).size=G * 6:=by
   rw[Array.size_append,Array.size_append,size_zeroCells,size_zeroCells,hzs];simp;omega
  generalize (#[]:Array Value)++Builtin.zeroCells z.cells n++Builtin.zeroCells z.cells (G - (0+n))=Z at *
  replace hZ:=Lib.hid hZ
  clear hfit hi hz hmul
  go_enter func117,ntmps117
  go_wp2_with (at_builtin;refine Lib.wpList_append_run _ rfl _ _ _ _ rfl _ _ rfl rfl _ _ (hrz _) ?_)
  all_goals
   go_ret
   refine⟨some ⟨w.heap.size,0,none⟩,G,rfl,⟨rfl,.inr ⟨w.heap.size,G,Z,rfl,Au _,heap_alloc_new _ _,Ai _,hM,hZ.out,?_⟩⟩,?_⟩
   ·simp
   ·exact((Below.refl _ _).drew).alloc (by simp) _
theorem qo2 (gl:List (Nat × List D))(n:Nat)(hn:n<=1000000000):FnE prog gl 117 [.nils 0,.d (.int .i64 n)] [] (fun v H1=>v=.own 935 0/\H1=[(935,.row 28 6 true [] 0)]):=by
 intro w M β us hM hus ho hg;simp only[Cv]at hus;obtain⟨v1,r1,rfl,h1,v2,r2,rfl,h2,rfl⟩:=hus;have h1':v1=.slice none 0 0:=h1;have h2':v2=.int .i64 (n:Nat):=h2;subst h1' h2';refine(rx9 n hn w).mono ?_;rintro en w' ⟨a,c,rfl,hown,hb'⟩;have hl:∀ m ob,look m [(935,Ob.row 28 6 true [] 0)]=some ob->m=935/\ob=.row 28 6 true [] 0:=fun m ob hm=>by
  rw[j5]at hm;split at hm
  ·rename_i e';cases hm;exact⟨e'.symm,rfl⟩
  ·cases hm
 have hblk:∀ b,hb (.slice a 0 c)=some b->w.heap.size<=b:=fun b hb2=>by
  rcases hown.2 with ⟨h1,_⟩|⟨g,cap,cur,h1,h2,_⟩
  ·cases h1;cases hb2
  ·cases h1;simp only[hb,Bf]at hb2;omega
 refine⟨.own 935 0,_,_,upd β 935 (.slice a 0 c),⟨rfl,rfl⟩,rfl,rfl,Frm.of_below hb' _,(fun m hm=>by cases hm),fun m ob b hm hb2=>?_,⟨fun m ob hm=>?_,fun m m' b ob ob' hne h1 h2 _=>?_,fun m ob b o hm hb2 hmm=>?_⟩,fun e' sz sh xs hm=>by rw[jx0]⟩
 ·obtain⟨rfl,rfl⟩:=hl m ob hm;rw[x9 rfl,jx0]at hb2;exact .inr (hblk b hb2)
 ·obtain⟨rfl,rfl⟩:=hl m ob hm;exact⟨[],by rw[jx0];exact mc2 hown (Ai _),rfl⟩
 ·obtain⟨rfl,_⟩:=hl m ob h1;obtain⟨rfl,_⟩:=hl m' ob' h2;exact absurd rfl hne
 ·obtain⟨rfl,rfl⟩:=hl m ob hm;rw[x9 rfl,jx0]at hb2;have:=hblk b hb2;have:=hM _ _ hmm;omega
theorem mh3 {α:Type}(ls:List (List α))(j:Nat)(h:j<ls.length):(ls.take (j+1)).flatten=(ls.take j).flatten++ls[j]:=by
 rw[Ao h,List.flatten_append];simp
theorem kh3 {α:Type}(ls:List (List α))(j:Nat):(ls.take j).flatten.length<=ls.flatten.length:=by
 have:ls.flatten=(ls.take j).flatten++(ls.drop j).flatten:=by rw[<-List.flatten_append,List.take_append_drop]
 rw[this,Ag];omega
theorem mh4 (gl:List (Nat × List D))(ls:List (List D))(hl:ls.flatten.length<=1000000):FnD prog gl 69 [.d (.list 1 (ls.map (.list 6)))] (fun v=>v=.d (.list 6 ls.flatten)):=by
 refine FnD.Wm (n:=935) (e:=28) ?_
 (refine j2 func69 ntmps69 results69 fun w M E b0=>?_)
 refine j8 0 rfl fun hsm=>?_;rw[Ab]at hsm
 (repeat' first|refine yyp ?_;try refine Ce ?_ ?_<;>intro hb|refine yy ?_|refine at_nil ?_;refine Cc Ul ?_|refine Cb fun K hK=>?_|apply_assumption -exfalso -symm)
 refine j6 [3,5,11,12,13,14,15,16,17,18,19,20,21,22] [] (fun j:Nat=>[(11,.d (.int .i64 j)),(3,.d (.int .i64 ((ls.take j).flatten.length:Nat)))]) (fun _=>[]) (fun j=>j<=ls.length) (fun j=>ls.length - j) 0 (Ai _) fun j hj=>?_;dsimp only[Ac,Af];have hle:=kh3 ls j;have hle1:=kh3 ls (j+1);rcases Ah j ls.length with hj2|hj2
 ·have hnx:=mh3 ls j hj2;have hlx:((ls.take (j+1)).flatten.length:Int)=((ls.take j).flatten.length:Nat)+(ls[j].length:Nat):=by rw[hnx,Ag];omega
  generalize (ls.take j).flatten.length=a at *
  (repeat' first|refine yyp ?_;try refine Ce ?_ ?_<;>intro hb|refine yy ?_|refine at_nil ?_;refine Cc Ul ?_|refine Cb fun K hK=>?_|apply_assumption -exfalso -symm)
  all_goals first
   |(exfalso;omega)
   |(refine⟨j+1,by omega,by omega,?_⟩
     rw[hlx];exact k8)
 ·have ha:ls.take j=ls:=Am hj2;rw[ha];have hgr:=qo2 gl ls.flatten.length (by omega)
  (repeat' first|refine Ca 24 ?_;refine Cg (hc:=hgr) ?_|refine yyp ?_;try refine Ce ?_ ?_<;>intro hb|refine yy ?_|refine at_nil ?_;refine Cc Ul ?_|refine Cb fun K hK=>?_|apply_assumption -exfalso -symm)
  refine j6 [6,8,27,28,29,30,31,32,33,34] [935] (fun x:Nat × Nat=>[(27,.d (.int .i64 x.1)),(6,.own 935 x.2)]) (fun x=>[(935,.row 28 6 true (ls.take x.1).flatten x.2)]) (fun x=>x.1<=ls.length) (fun x=>ls.length - x.1) (0,0) (Ai _) fun⟨i,kv⟩ hi=>?_;dsimp only[Ac,Af]at hi ⊢;rcases Ah i ls.length with hi2|hi2
  ·have hnx:=mh3 ls i hi2;have hle2:=kh3 ls (i+1);rw[hnx,Ag]at hle2
   (repeat' first|refine yyp ?_;try refine Ce ?_ ?_<;>intro hb|refine yy ?_|(refine Da ?_;first|(refine Df (fun kv=>?_))|(refine z_append_suf (fun sx sp kv hsx hsp hsl=>?_)))|refine at_nil ?_;refine Cc Ul ?_|refine Cb fun K hK=>?_|apply_assumption -exfalso -symm)
   refine⟨(i+1,kv),by dsimp only;omega,by dsimp only;omega,?_⟩;dsimp only;rw[hnx];exact k8
  ·(repeat' first|refine yyp ?_;try refine Ce ?_ ?_<;>intro hb|refine yy ?_|refine at_nil ?_;refine Cc Ul ?_|refine Cb fun K hK=>?_|apply_assumption -exfalso -symm)
   rw[Am hi2];refine j1 (ja2 ⟨_,?_,rfl⟩);rfl
theorem ky9 (gl:List (Nat × List D))(xs:List D)(hl:xs.length<=1000000000):FnE prog gl 66 [.d (.list 42 xs)] [] (fun v H1=>v=.own 932 0/\H1=[(932,.row 45 42 true xs 0)]):=by
 refine FnE.fix ?_
 (refine j2 func66 ntmps66 results66 fun w M E b0=>?_)
 (repeat' first|refine Ca 4 ?_;(refine ky7 (fun hx0=>?_) ?_)|refine Ca 5 ?_;(refine Dn 932 ?_)|refine yyp ?_;try refine Ce ?_ ?_<;>intro hb|refine yy ?_|(refine Da ?_;first|(refine Df (fun kv=>?_))|(refine z_append_suf (fun sx sp kv hsx hsp hsl=>?_)))|refine at_nil ?_;refine Cc [0,2,3,4,5,6] ?_|refine Cb fun K hK=>?_|apply_assumption -exfalso -symm)
 ·subst hx0;refine jv6 (t:=2) (e:=45) (sz:=42) 932 rfl rfl ?_;refine j1 (ja2 ⟨_,?_,rfl⟩);rfl
 ·refine j1 (ja2 ⟨_,?_,rfl⟩);rfl
theorem kz0 (gl:List (Nat × List D))(xs:List D)(hl:xs.length<=1000000000):FnE prog gl 66 [.d (.list 42 xs)] [] (fun v H1=>v=.own 933 0/\H1=[(933,.row 45 42 true xs 0)]):=by
 refine FnE.fix ?_
 (refine j2 func66 ntmps66 results66 fun w M E b0=>?_)
 (repeat' first|refine Ca 4 ?_;(refine ky7 (fun hx0=>?_) ?_)|refine Ca 5 ?_;(refine Dn 933 ?_)|refine yyp ?_;try refine Ce ?_ ?_<;>intro hb|refine yy ?_|(refine Da ?_;first|(refine Df (fun kv=>?_))|(refine z_append_suf (fun sx sp kv hsx hsp hsl=>?_)))|refine at_nil ?_;refine Cc [0,2,3,4,5,6] ?_|refine Cb fun K hK=>?_|apply_assumption -exfalso -symm)
 ·subst hx0;refine jv6 (t:=2) (e:=45) (sz:=42) 933 rfl rfl ?_;refine j1 (ja2 ⟨_,?_,rfl⟩);rfl
 ·refine j1 (ja2 ⟨_,?_,rfl⟩);rfl
theorem kz1 (gl:List (Nat × List D))(xs:List D)(hl:xs.length<=1000000000):FnE prog gl 66 [.d (.list 42 xs)] [] (fun v H1=>v=.own 934 0/\H1=[(934,.row 45 42 true xs 0)]):=by
 refine FnE.fix ?_
 (refine j2 func66 ntmps66 results66 fun w M E b0=>?_)
 (repeat' first|refine Ca 4 ?_;(refine ky7 (fun hx0=>?_) ?_)|refine Ca 5 ?_;(refine Dn 934 ?_)|refine yyp ?_;try refine Ce ?_ ?_<;>intro hb|refine yy ?_|(refine Da ?_;first|(refine Df (fun kv=>?_))|(refine z_append_suf (fun sx sp kv hsx hsp hsl=>?_)))|refine at_nil ?_;refine Cc [0,2,3,4,5,6] ?_|refine Cb fun K hK=>?_|apply_assumption -exfalso -symm)
 ·subst hx0;refine jv6 (t:=2) (e:=45) (sz:=42) 934 rfl rfl ?_;refine j1 (ja2 ⟨_,?_,rfl⟩);rfl
 ·refine j1 (ja2 ⟨_,?_,rfl⟩);rfl
def partsOf (p:Pr):List Pr:=p.spec.body++p.guards.flatMap (·.body)++p.l
def mo5 (p:Pr):Nat->List D
 |0=>p.spec.body.map dPr
 |j+1=>(p.spec.body++(p.guards.take (j+1)).flatMap (·.body)).map dPr
theorem kd4 (p:Pr)(j:Nat):mo5 p j=(p.spec.body++(p.guards.take j).flatMap (·.body)).map dPr:=by
 cases j with
 |zero=>simp[mo5]
 |succ j=>rfl
theorem Rc (gl:List (Nat × List D))(p:Pr)(hl:(partsOf p).length<=1000000):FnD prog gl 72 [.d (dPr p)] (fun v=>v=.d (.list 42 ((partsOf p).map dPr))):=by
 unfold partsOf at hl ⊢;have c1:=ky9 gl (p.spec.body.map dPr) (by simp only[Ag,Ab]at hl ⊢;omega);refine FnD.Wm (n:=932) (e:=45) ?_;rw[congrFun j9 p];simp only[Ag]at hl
 (refine j2 func72 ntmps72 results72 fun w M E b0=>?_)
 (repeat' first|refine Ca 1 ?_;(refine Cq 1 ?_)|refine Ca 9 ?_;refine Cg (hc:=c1) ?_|refine yyp ?_;try refine Ce ?_ ?_<;>intro hb|refine yy ?_|refine at_nil ?_;refine Cc Wo ?_|refine Cb fun K hK=>?_|apply_assumption -exfalso -symm)
 rw[jd7];refine j8 11 rfl fun hsm=>?_;simp only[Ab]at hsm;refine j6 [3,5,13,14,15,16,17,18,19,20,21] [932] (fun x:Nat × Nat=>[(13,.d (.int .i64 x.1)),(3,.own 932 x.2)]) (fun x=>[(932,.row 45 42 true (mo5 p x.1) x.2)]) (fun x=>x.1<=p.guards.length) (fun x=>p.guards.length - x.1) (0,0) (Ai _) fun⟨j,kv⟩ hj=>?_;dsimp only[Ac,Af]at hj ⊢;have hfl:∀ i,((p.guards.take i).flatMap (·.body)).length<=(p.guards.flatMap (·.body)).length:=fun i=>by
  have:=kh3 (p.guards.map (·.body)) i;rw[<-Eg]at this;exact this
 rcases Ah j p.guards.length with hj2|hj2
 ·have h1:=hfl (j+1);have h2:(p.guards.take (j+1)).flatMap (·.body)=(p.guards.take j).flatMap (·.body)++p.guards[j].body:=by
   rw[Ao hj2,List.flatMap_append];simp
  rw[h2,Ag]at h1;rw[kd4 p j]
  (repeat' first|refine Ca 5 ?_;(refine j3 5 ?_)|refine yyp ?_;try refine Ce ?_ ?_<;>intro hb|refine yy ?_|(refine Da ?_;first|(refine Df (fun kv=>?_))|(refine z_append_suf (fun sx sp kv hsx hsp hsl=>?_)))|refine at_nil ?_;refine Cc Wo ?_|refine Cb fun K hK=>?_|apply_assumption -exfalso -symm)
  refine⟨(j+1,kv),by dsimp only;omega,by dsimp only;omega,?_⟩;dsimp only;rw[kd4 p (j+1),h2];simp only[As,Bv];exact k8
 ·rw[kd4 p j,Am hj2]
  (repeat' first|refine yyp ?_;try refine Ce ?_ ?_<;>intro hb|refine yy ?_|(refine Da ?_;first|(refine Df (fun kv=>?_))|(refine z_append_suf (fun sx sp kv hsx hsp hsl=>?_)))|refine at_nil ?_;refine Cc Wo ?_|refine Cb fun K hK=>?_|apply_assumption -exfalso -symm)
  simp only[As,Bv];refine j1 (ja2 ⟨_,?_,rfl⟩);rfl
end Al
end
end Go.Proofs.YtklklgfpkpglgaaGreatDoor
