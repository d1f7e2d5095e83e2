/- Parts. -/
import Derived.Test.YtklklgfpkpglgaaGreatDoorW43
import Derived.Lib.SliceRun
import Derived.Lib.AppendZerosOnto
import Derived.Lib.Walk
import Derived.Test.YtklklgfpkpglgaaGreatDoorW25
set_option linter.all false
set_option maxRecDepth 100000
set_option maxHeartbeats 0
namespace Go.Proofs.YtklklgfpkpglgaaGreatDoor
open Go.RowKit Go.Proofs.Tryz
variable (gl:List (Nat × List D))
section
def Oc:List Nat:=[0,1,5,6,7,8,9]
def qn1:List Nat:=[5,8,9,10,11,12,13,14]
def Tf:List Nat:=[0,1,4,5,6,7,9]
def rb1:List Nat:=[4,5,8,9,10,11,12,13,14,15]
namespace Al
def dPc (q:Pc):D:=.agg [.list 6 (q.ax.map dFo),.map (Di q.occ) (Dj q.occ),.map (Di q.wr) (Dj q.wr)]
def HA (w:Wd):List (Nat × Ob):=[(900,.box [.map 901,.map 902,.map 903]),(901,.map (Di w.known) (Dj w.known)),(902,.map (Mq w.is) (Nh .str w.is)),(903,.map (Mq w.ay) (Nh dPc w.ay))]
theorem mf9 {is:List (ByteArray × ByteArray)}(hr:Rank is){s:ByteArray}(h:at1 s is=none):Dq is s=s:=(hr.base s).det (.done h)
theorem qn2 {is:List (ByteArray × ByteArray)}(hr:Rank is){s v:ByteArray}(h:at1 s is=some v):Dq is s=Dq is v:=(hr.base s).det (.step h (hr.base v))
attribute [local irreducible] TR TC
theorem kx5 (ω:Wd)(s:ByteArray)(hr:Rank ω.is):FnE prog gl 76 [.ptr 900 0,.d (.str s)] (HA ω) (λv H1=>v=.d (.str (Dq ω.is s))/\H1=HA ω):=by
 obtain⟨r,hr1⟩:=id hr;dsimp only[HA]
 (refine j2 func76 ntmps76 results76 λw M E b0=>?_)
 (repeat' first|refine yyp ?_;try refine Ce ?_ ?_<;>intro hb|refine yy ?_|apply ah;refine Cc [0,1,4,5,6,7,17] ?_|refine Cb λK hK=>?_|apply_assumption -exfalso -symm)
 refine j9 [1,4,5,6,7,8,9,10,11,12,13,14,15,16,17,18,19] [] (λx:ByteArray=>[(1,.d (.str x))]) (λ_=>[]) (λx=>Dq ω.is s=Dq ω.is x) r s rfl λx hx=>?_;dsimp only[Ac,Ad]
 (repeat' first|apply Ca 13;(refine Sz (f:=.str) (λu hu=>?_) (λhu=>?_))|refine yyp ?_;try refine Ce ?_ ?_<;>intro hb|refine yy ?_|apply ah;refine Cc [0,1,4,5,6,7,17] ?_|refine Cb λK hK=>?_|apply_assumption -exfalso -symm)
 ·refine⟨u,hx.trans (qn2 hr hu),hr1 _ (qm7 hu),?_⟩;exact r9
 ·rw[hx,mf9 hr hu]
  (refine j1 (j6 ⟨?_,rfl⟩))
  rfl
theorem Ke (e:Ex):FnD prog gl 74 [.d (dEx e)] (λv=>v=.d (.bool (jg4 e))):=by
 rw[k9]
 (refine j5 func74 ntmps74 results74 λw M=>?_)
 (repeat' first|apply Ca 1;(refine Cm 1 ?_)|refine yyp ?_;try refine Ce ?_ ?_<;>intro hb|refine yy ?_|refine yy2 ?_ ?_<;>intro hcmp|apply ah;refine Cc [0,1,2,3,4,5,6] ?_|refine Cb λK hK=>?_|apply_assumption -exfalso -symm)
 all_goals
  (refine j1 (j8 ?_))
  simp only[aF,Aw,Aq,jg4]
  grind
theorem rz1 (f:Fo):FnD prog gl 75 [.d (dFo f)] (λv=>v=.d (.bool (vc8 f))):=by
 unfold dFo
 (refine j5 func75 ntmps75 results75 λw M=>?_)
 (repeat' first|apply Ca 1;(refine Cm 1 ?_)|refine yyp ?_;try refine Ce ?_ ?_<;>intro hb|refine yy ?_|refine yy2 ?_ ?_<;>intro hcmp|apply ah;refine Cc [0,1,2,3,4,5,6] ?_|refine Cb λK hK=>?_|apply_assumption -exfalso -symm)
 all_goals
  (refine j1 (j8 ?_))
  simp only[aF,Aw,Aq,vc8]
  grind
theorem kl9 (Ks ns:List ByteArray):FnE prog gl 40 [.map 901,.d (.list 1 (ns.map .str))] [(901,.map (Di Ks) (Dj Ks))] (λv H1=>v=.tup []/\H1=[(901,.map (Di (Ik Ks ns)) (Dj (Ik Ks ns)))]):=by
 (refine j2 func40 ntmps40 results40 λw M E b0=>?_)
 refine k7 1 rfl λhsm=>?_;rw[Aa]at hsm
 (repeat' first|refine yyp ?_;try refine Ce ?_ ?_<;>intro hb|refine yy ?_|apply ah;refine Cc Oc ?_|refine Cb λK hK=>?_|apply_assumption -exfalso -symm)
 refine j9 qn1 [901] (λj:Nat=>[(8,.d (.int .i64 j))]) (λj=>[(901,.map (Di (Ik Ks (ns.take j))) (Dj (Ik Ks (ns.take j))))]) (λj=>j<=ns.length) (λj=>ns.length - j) 0 (Ai _) λj hj=>?_;dsimp only[Ac,Ad];rcases Ah j ns.length with hj2|hj2
 ·(repeat' first|refine jg0 2 ?_;(refine jl7 ?_)|refine yyp ?_;try refine Ce ?_ ?_<;>intro hb|refine yy ?_|apply ah;refine Cc Oc ?_|refine Cb λK hK=>?_|apply_assumption -exfalso -symm)
  refine⟨j+1,by omega,by omega,?_⟩;rw[jn3 hj2];exact r9
 ·(repeat' first|refine yyp ?_;try refine Ce ?_ ?_<;>intro hb|refine yy ?_|apply ah;refine Cc Oc ?_|refine Cb λK hK=>?_|apply_assumption -exfalso -symm)
  rw[Am hj2];exact n9 ⟨rfl,rfl⟩
theorem qn3 (Ks ns:List ByteArray):FnE prog gl 40 [.map 904,.d (.list 1 (ns.map .str))] [(904,.map (Di Ks) (Dj Ks))] (λv H1=>v=.tup []/\H1=[(904,.map (Di (Ik Ks ns)) (Dj (Ik Ks ns)))]):=by
 (refine j2 func40 ntmps40 results40 λw M E b0=>?_)
 refine k7 1 rfl λhsm=>?_;rw[Aa]at hsm
 (repeat' first|refine yyp ?_;try refine Ce ?_ ?_<;>intro hb|refine yy ?_|apply ah;refine Cc Oc ?_|refine Cb λK hK=>?_|apply_assumption -exfalso -symm)
 refine j9 qn1 [904] (λj:Nat=>[(8,.d (.int .i64 j))]) (λj=>[(904,.map (Di (Ik Ks (ns.take j))) (Dj (Ik Ks (ns.take j))))]) (λj=>j<=ns.length) (λj=>ns.length - j) 0 (Ai _) λj hj=>?_;dsimp only[Ac,Ad];rcases Ah j ns.length with hj2|hj2
 ·(repeat' first|refine jg0 2 ?_;(refine jl7 ?_)|refine yyp ?_;try refine Ce ?_ ?_<;>intro hb|refine yy ?_|apply ah;refine Cc Oc ?_|refine Cb λK hK=>?_|apply_assumption -exfalso -symm)
  refine⟨j+1,by omega,by omega,?_⟩;rw[jn3 hj2];exact r9
 ·(repeat' first|refine yyp ?_;try refine Ce ?_ ?_<;>intro hb|refine yy ?_|apply ah;refine Cc Oc ?_|refine Cb λK hK=>?_|apply_assumption -exfalso -symm)
  rw[Am hj2];exact n9 ⟨rfl,rfl⟩
theorem qn4 (Ks ns:List ByteArray):FnE prog gl 40 [.map 905,.d (.list 1 (ns.map .str))] [(905,.map (Di Ks) (Dj Ks))] (λv H1=>v=.tup []/\H1=[(905,.map (Di (Ik Ks ns)) (Dj (Ik Ks ns)))]):=by
 (refine j2 func40 ntmps40 results40 λw M E b0=>?_)
 refine k7 1 rfl λhsm=>?_;rw[Aa]at hsm
 (repeat' first|refine yyp ?_;try refine Ce ?_ ?_<;>intro hb|refine yy ?_|apply ah;refine Cc Oc ?_|refine Cb λK hK=>?_|apply_assumption -exfalso -symm)
 refine j9 qn1 [905] (λj:Nat=>[(8,.d (.int .i64 j))]) (λj=>[(905,.map (Di (Ik Ks (ns.take j))) (Dj (Ik Ks (ns.take j))))]) (λj=>j<=ns.length) (λj=>ns.length - j) 0 (Ai _) λj hj=>?_;dsimp only[Ac,Ad];rcases Ah j ns.length with hj2|hj2
 ·(repeat' first|refine jg0 2 ?_;(refine jl7 ?_)|refine yyp ?_;try refine Ce ?_ ?_<;>intro hb|refine yy ?_|apply ah;refine Cc Oc ?_|refine Cb λK hK=>?_|apply_assumption -exfalso -symm)
  refine⟨j+1,by omega,by omega,?_⟩;rw[jn3 hj2];exact r9
 ·(repeat' first|refine yyp ?_;try refine Ce ?_ ?_<;>intro hb|refine yy ?_|apply ah;refine Cc Oc ?_|refine Cb λK hK=>?_|apply_assumption -exfalso -symm)
  rw[Am hj2];exact n9 ⟨rfl,rfl⟩
theorem qn5 (Ks ns:List ByteArray):FnE prog gl 40 [.map 906,.d (.list 1 (ns.map .str))] [(906,.map (Di Ks) (Dj Ks))] (λv H1=>v=.tup []/\H1=[(906,.map (Di (Ik Ks ns)) (Dj (Ik Ks ns)))]):=by
 (refine j2 func40 ntmps40 results40 λw M E b0=>?_)
 refine k7 1 rfl λhsm=>?_;rw[Aa]at hsm
 (repeat' first|refine yyp ?_;try refine Ce ?_ ?_<;>intro hb|refine yy ?_|apply ah;refine Cc Oc ?_|refine Cb λK hK=>?_|apply_assumption -exfalso -symm)
 refine j9 qn1 [906] (λj:Nat=>[(8,.d (.int .i64 j))]) (λj=>[(906,.map (Di (Ik Ks (ns.take j))) (Dj (Ik Ks (ns.take j))))]) (λj=>j<=ns.length) (λj=>ns.length - j) 0 (Ai _) λj hj=>?_;dsimp only[Ac,Ad];rcases Ah j ns.length with hj2|hj2
 ·(repeat' first|refine jg0 2 ?_;(refine jl7 ?_)|refine yyp ?_;try refine Ce ?_ ?_<;>intro hb|refine yy ?_|apply ah;refine Cc Oc ?_|refine Cb λK hK=>?_|apply_assumption -exfalso -symm)
  refine⟨j+1,by omega,by omega,?_⟩;rw[jn3 hj2];exact r9
 ·(repeat' first|refine yyp ?_;try refine Ce ?_ ?_<;>intro hb|refine yy ?_|apply ah;refine Cc Oc ?_|refine Cb λK hK=>?_|apply_assumption -exfalso -symm)
  rw[Am hj2];exact n9 ⟨rfl,rfl⟩
theorem qn6 (Ks ns:List ByteArray):FnE prog gl 40 [.map 907,.d (.list 1 (ns.map .str))] [(907,.map (Di Ks) (Dj Ks))] (λv H1=>v=.tup []/\H1=[(907,.map (Di (Ik Ks ns)) (Dj (Ik Ks ns)))]):=by
 (refine j2 func40 ntmps40 results40 λw M E b0=>?_)
 refine k7 1 rfl λhsm=>?_;rw[Aa]at hsm
 (repeat' first|refine yyp ?_;try refine Ce ?_ ?_<;>intro hb|refine yy ?_|apply ah;refine Cc Oc ?_|refine Cb λK hK=>?_|apply_assumption -exfalso -symm)
 refine j9 qn1 [907] (λj:Nat=>[(8,.d (.int .i64 j))]) (λj=>[(907,.map (Di (Ik Ks (ns.take j))) (Dj (Ik Ks (ns.take j))))]) (λj=>j<=ns.length) (λj=>ns.length - j) 0 (Ai _) λj hj=>?_;dsimp only[Ac,Ad];rcases Ah j ns.length with hj2|hj2
 ·(repeat' first|refine jg0 2 ?_;(refine jl7 ?_)|refine yyp ?_;try refine Ce ?_ ?_<;>intro hb|refine yy ?_|apply ah;refine Cc Oc ?_|refine Cb λK hK=>?_|apply_assumption -exfalso -symm)
  refine⟨j+1,by omega,by omega,?_⟩;rw[jn3 hj2];exact r9
 ·(repeat' first|refine yyp ?_;try refine Ce ?_ ?_<;>intro hb|refine yy ?_|apply ah;refine Cc Oc ?_|refine Cb λK hK=>?_|apply_assumption -exfalso -symm)
  rw[Am hj2];exact n9 ⟨rfl,rfl⟩
theorem my7 (Ks ns:List ByteArray):FnE prog gl 71 [.map 904,.d (.map (Di ns) (Dj ns))] [(904,.map (Di Ks) (Dj Ks))] (λv H1=>∃ L:List ByteArray,(∀ s,s∈L↔s∈Ks\/s∈ns)/\v=.tup []/\H1=[(904,.map (Di L) (Dj L))]):=by
 (refine j2 func71 ntmps71 results71 λw M E b0=>?_)
 (repeat' first|apply Ca 7;(refine kx3 1007 ?_)|refine yyp ?_;try refine Ce ?_ ?_<;>intro hb|refine yy ?_|apply ah;refine Cc Tf ?_|refine Cb λK hK=>?_|apply_assumption -exfalso -symm)
 rw[show(Di ns).length=ns.length from Aa ..];refine j9 rb1 [904,1007] (λ_:List ByteArray × List Nat × Option Nat=>[]) (λx=>[(904,.map (Di x.1) (Dj x.1)),(1007,.miter (Di ns) (Dj ns) x.2.1 x.2.2)]) (λx=>(∀ i∈x.2.1,i<ns.length)/\(∀ s,s∈x.1->s∈Ks\/s∈ns)/\(∀ s,s∈Ks->s∈x.1)/\∀ i s,ns[i]? =some s->i∈x.2.1\/s∈x.1) (λx=>x.2.1.length) (Ks,List.range ns.length,none)
  ⟨λi hi=>Fg.1 hi,λs hs=>.inl hs,λs hs=>hs,λi s hi=>.inl (Fg.2 (Bb.1 hi).1)⟩ λ⟨L,left,cur⟩ ⟨h1,h2,h3,h4⟩=>?_
 dsimp only[Ac,Ad]at h1 h2 h3 h4 ⊢
 (repeat' first|apply Ca 8;(refine mm9 h1 (λi s hi hs=>?_) (λhl0=>?_))|apply Ca 10;(refine kx4 hs ?_)|refine jg0 3 ?_;(refine jl7 ?_)|refine yyp ?_;try refine Ce ?_ ?_<;>intro hb|refine yy ?_|apply ah;refine Cc Tf ?_|refine Cb λK hK=>?_|apply_assumption -exfalso -symm)
 ·refine⟨(addN L s,left.erase i,some i),⟨λj hj=>h1 j (List.mem_of_mem_erase hj),λt ht=>?_,λt ht=>jg8.2 (.inl (h3 t ht)),λj t hj=>?_⟩,?_,r9⟩
  ·rcases jg8.1 ht with ht|rfl
   ·exact h2 t ht
   ·exact .inr (Bz hs)
  ·rcases h4 j t hj with hm|hm
   ·by_cases hji:j=i
    ·subst hji;rw[hs]at hj;cases hj;exact .inr (jg8.2 (.inr rfl))
    ·exact .inl ((List.mem_erase_of_ne hji).2 hm)
   ·exact .inr (jg8.2 (.inl hm))
  ·have:=List.length_erase_of_mem hi;have:=List.length_pos_of_mem hi;dsimp only;omega
 ·subst hl0;exact n9 ⟨L,λs=>⟨h2 s,λhs=>hs.elim (h3 s) λhs=>by
   obtain⟨i,hi⟩:=List.getElem?_of_mem hs;rcases h4 i s hi with h|h
   ·cases h
   ·exact h⟩,rfl,rfl⟩
theorem mn0 (Ks:List ByteArray):FnE prog gl 71 [.map 904,.d (.raw (.map none))] [(904,.map (Di Ks) (Dj Ks))] (λv H1=>v=.tup []/\H1=[(904,.map (Di Ks) (Dj Ks))]):=by
 (refine j2 func71 ntmps71 results71 λw M E b0=>?_)
 (repeat' first|apply Ca 7;(refine mt2 1007 ?_)|refine yyp ?_;try refine Ce ?_ ?_<;>intro hb|refine yy ?_|apply ah;refine Cc Tf ?_|refine Cb λK hK=>?_|apply_assumption -exfalso -symm)
 refine j9 rb1 [] (λ_:Unit=>[]) (λ_=>[]) (λ_=>True) (λ_=>0) () trivial λ_ _=>?_;dsimp only[Ac,Ad]
 (repeat' first|apply Ca 8;(refine qn0 ?_)|refine yyp ?_;try refine Ce ?_ ?_<;>intro hb|refine yy ?_|apply ah;refine Cc Tf ?_|refine Cb λK hK=>?_|apply_assumption -exfalso -symm)
 exact n9 ⟨rfl,rfl⟩
theorem my8 (Ks ns:List ByteArray):FnE prog gl 71 [.map 905,.d (.map (Di ns) (Dj ns))] [(905,.map (Di Ks) (Dj Ks))] (λv H1=>∃ L:List ByteArray,(∀ s,s∈L↔s∈Ks\/s∈ns)/\v=.tup []/\H1=[(905,.map (Di L) (Dj L))]):=by
 (refine j2 func71 ntmps71 results71 λw M E b0=>?_)
 (repeat' first|apply Ca 7;(refine kx3 1007 ?_)|refine yyp ?_;try refine Ce ?_ ?_<;>intro hb|refine yy ?_|apply ah;refine Cc Tf ?_|refine Cb λK hK=>?_|apply_assumption -exfalso -symm)
 rw[show(Di ns).length=ns.length from Aa ..];refine j9 rb1 [905,1007] (λ_:List ByteArray × List Nat × Option Nat=>[]) (λx=>[(905,.map (Di x.1) (Dj x.1)),(1007,.miter (Di ns) (Dj ns) x.2.1 x.2.2)]) (λx=>(∀ i∈x.2.1,i<ns.length)/\(∀ s,s∈x.1->s∈Ks\/s∈ns)/\(∀ s,s∈Ks->s∈x.1)/\∀ i s,ns[i]? =some s->i∈x.2.1\/s∈x.1) (λx=>x.2.1.length) (Ks,List.range ns.length,none)
  ⟨λi hi=>Fg.1 hi,λs hs=>.inl hs,λs hs=>hs,λi s hi=>.inl (Fg.2 (Bb.1 hi).1)⟩ λ⟨L,left,cur⟩ ⟨h1,h2,h3,h4⟩=>?_
 dsimp only[Ac,Ad]at h1 h2 h3 h4 ⊢
 (repeat' first|apply Ca 8;(refine mm9 h1 (λi s hi hs=>?_) (λhl0=>?_))|apply Ca 10;(refine kx4 hs ?_)|refine jg0 3 ?_;(refine jl7 ?_)|refine yyp ?_;try refine Ce ?_ ?_<;>intro hb|refine yy ?_|apply ah;refine Cc Tf ?_|refine Cb λK hK=>?_|apply_assumption -exfalso -symm)
 ·refine⟨(addN L s,left.erase i,some i),⟨λj hj=>h1 j (List.mem_of_mem_erase hj),λt ht=>?_,λt ht=>jg8.2 (.inl (h3 t ht)),λj t hj=>?_⟩,?_,r9⟩
  ·rcases jg8.1 ht with ht|rfl
   ·exact h2 t ht
   ·exact .inr (Bz hs)
  ·rcases h4 j t hj with hm|hm
   ·by_cases hji:j=i
    ·subst hji;rw[hs]at hj;cases hj;exact .inr (jg8.2 (.inr rfl))
    ·exact .inl ((List.mem_erase_of_ne hji).2 hm)
   ·exact .inr (jg8.2 (.inl hm))
  ·have:=List.length_erase_of_mem hi;have:=List.length_pos_of_mem hi;dsimp only;omega
 ·subst hl0;exact n9 ⟨L,λs=>⟨h2 s,λhs=>hs.elim (h3 s) λhs=>by
   obtain⟨i,hi⟩:=List.getElem?_of_mem hs;rcases h4 i s hi with h|h
   ·cases h
   ·exact h⟩,rfl,rfl⟩
theorem mn1 (Ks:List ByteArray):FnE prog gl 71 [.map 905,.d (.raw (.map none))] [(905,.map (Di Ks) (Dj Ks))] (λv H1=>v=.tup []/\H1=[(905,.map (Di Ks) (Dj Ks))]):=by
 (refine j2 func71 ntmps71 results71 λw M E b0=>?_)
 (repeat' first|apply Ca 7;(refine mt2 1007 ?_)|refine yyp ?_;try refine Ce ?_ ?_<;>intro hb|refine yy ?_|apply ah;refine Cc Tf ?_|refine Cb λK hK=>?_|apply_assumption -exfalso -symm)
 refine j9 rb1 [] (λ_:Unit=>[]) (λ_=>[]) (λ_=>True) (λ_=>0) () trivial λ_ _=>?_;dsimp only[Ac,Ad]
 (repeat' first|apply Ca 8;(refine qn0 ?_)|refine yyp ?_;try refine Ce ?_ ?_<;>intro hb|refine yy ?_|apply ah;refine Cc Tf ?_|refine Cb λK hK=>?_|apply_assumption -exfalso -symm)
 exact n9 ⟨rfl,rfl⟩
end Al
end
section
def Uf:List Nat:=[0,1,2,3,5,6,7,8,18,19,20,21]
def rz2:List Nat:=[3,5,20,21,22,23,24,25,26,27,28]
section
variable {E:Set}{Q:Exit->Sd->Prop}{ops:Array Oper}{draw:Bool}{rest:Todo}{way:Jj}{ty:TypeId}{pos:String}{af:Array Edge}{gd:Option (Nat × Bool)}{d:Nat}
theorem qn7 {S:Sd}{o:Oper}{p:Bool->Prop}{v:Bool->V}(hb:∀ β a w,StB E.C β S a w->∃ b x,p b/\(∀ w',(execOp a.eval o).run E.P w'=.ok (.value x) w')/\Dh w (Mut E.C.M0 β S.H) β S.H (v b) x)(hdst:o.dst=some d)(hd:d<E.C.nt)(hg:S.gd ops o=some true)(hdf:ja7 o=false)(h:∀ b,p b->TR E draw ops Q rest (S.put d (v b))):TR E draw ops Q (.step o way rest) S:=λa w hS=>by
 have hS0:=hS;obtain⟨β,hB⟩:=hS;obtain⟨b,x,hp,h1,h2⟩:=hb β a w hB;have hput:∀ w',aG w w'->St E.C (S.put d (v b)) (a.put o.dst x) w':=λw' g=>by
  rw[hdst];exact St.later ⟨β,hB.put hd h2⟩ g
 cases draw with
 |true=>
  dsimp only;cases way with
  |pure=>
   simp only[x5];rw[Sd.Dx hS0 hg,Ae rfl];exact⟨x,λw'=>h1 w',h b hp _ _ (hput w (aG.refl w))⟩
  |quiet=>
   simp only[x5];rw[Sd.Dx hS0 hg,Ae rfl];refine⟨x,λn=>?_,h b hp _ _ (hput w (aG.refl w))⟩;rw[h1 n.w];exact⟨rfl,rfl⟩
  |grow=>
   simp only[x5];intro n;rw[Sd.Dx hS0 hg,Ae rfl];exact ja5 (h1 n.w) ⟨aG.refl _,h b hp _ _ (hput n.w n.grows)⟩
  |bar=>
   simp only[x5];intro n;rw[Sd.Dx hS0 hg,Ae rfl];exact ja5 (h1 n.w) (h b hp _ _ (hput n.w n.grows))
 |false=>exact l5 hS0 hg hdf λK hK=>ja5 (h1 w) (hK _ _ (h b hp _ _ (hput w (aG.refl w))))
variable {env:List (Nat × V)}{H:List (Nat × Ob)}{gl:List (Nat × List D)}
theorem kx6 {t e sz:Nat}{x:Operand}{xs:List D}[ht:aK E.P t e sz](h1:xs=[]->TR E draw ops Q rest ⟨(d,.d (.bool true))::env,H,gl⟩)(h2:TR E draw ops Q rest ⟨(d,.d (.bool false))::env,H,gl⟩)(hx:Sd.ev ⟨env,H,gl⟩ x=some (.d (.list sz xs)):=by exact rfl)(hox:Cn x=true:=by exact rfl)
 (hd:d<E.C.nt:=by exact ltd rfl) (hg:Sd.gd ⟨env,H,gl⟩ ops ⟨some d,.binOp .eql t x (.const (.slice none 0 0)) t,ty,pos,af,gd⟩=some true:=by exact rfl):TR E draw ops Q (.step ⟨some d,.binOp .eql t x (.const (.slice none 0 0)) t,ty,pos,af,gd⟩ way rest) ⟨env,H,gl⟩:=
 qn7 (p:=λb=>b=true->xs=[]) (v:=λb=>.d (.bool b)) (λβ a w h=>by
  obtain⟨ad,c,ys,h3,h4,_,h5,_⟩:=h.ev hx hox;obtain⟨i,hu,_⟩:=g9 ht;refine⟨ad.isNone,.bool ad.isNone,λhb=>?_,λw'=>?_,rfl⟩
  ·have:ad=none:=by simpa using hb
   have:=h5 this;exact As (by omega)
  ·have hb:=Lib.run_eql_slice_nil w' t e ad xs.length c 0 0 hu;have he:a.eval (.const (.slice none 0 0))=.slice none 0 0:=rfl;simp[execOp,h3,he,eqGuard,hb]) rfl hd hg rfl λb hb=>by
  cases b with
  |true=>exact h1 (hb rfl)
  |false=>exact h2
end
namespace Al
attribute [local irreducible] TR TC
theorem qn8:∀ (m:Nat) (e:Ex),exN e<=m->m<=1000000000->FnD prog gl 70 [.d (dEx e)] (λv=>v=.d (.list 1 ((Il e).map .str))):=by
 intro m
 induction m with
 |zero=>intro e h;have:=jn7 e;omega
 |succ m ih=>
  intro e hm hb;rw[mj1]at hm;have hlen:=ja0 e.l;have hsub:∀ j (hj:j<e.l.length),((e.l.take j).flatMap Il).length+(Il e.l[j]).length<=1000000000:=λj hj=>by
   have h1:=jq8 (e.l.take j);have h2:=kf9 e.l[j];have h3:=l8 e.l j hj;rw[jg3]at h1;omega
  have h1:∀ (j:Nat) (hj:j<e.l.length),FnD prog gl 70 [.d (dEx e.l[j])] (λv=>v=.d (.list 1 ((Il e.l[j]).map .str))):=λj hj=>ih e.l[j] (by have:=l8 e.l j hj;omega) (by omega);clear ih;rw[mm6];simp only[k9]at h1 ⊢;refine FnD.Xf (n:=930) (e:=9) ?_;by_cases hk:Dm e.kind=true
  ·rw[Ae hk]
   (refine j2 func70 ntmps70 results70 λw M E b0=>?_)
   (repeat' first|apply Ca 1;(refine Cm 1 ?_)|apply Ca 15;(refine Df 15 ?_)|apply Ca 16;refine jw3 930 ?_|refine yyp ?_;try refine Ce ?_ ?_<;>intro hb|refine yy ?_|refine yy2 ?_ ?_<;>intro hcmp|apply ah;refine Cc Uf ?_|refine Cb λK hK=>?_|apply_assumption -exfalso -symm)
   all_goals first
    |(exfalso;unfold Dm at hk;grind)
    |(
     rw[k9];refine j9 rz2 [930] (λx:Nat × Nat=>[(20,.d (.int .i64 x.1)),(3,.own 930 x.2)]) (λx=>[(930,.row 9 1 true (([e.s]++(e.l.take x.1).flatMap Il).map .str) x.2)]) (λx=>x.1<=e.l.length) (λx=>e.l.length - x.1) (0,0) (Ai _) λ⟨j,kv⟩ hj=>?_;dsimp only[Ac,Ad]at hj ⊢;rcases Ah j e.l.length with hj2|hj2
     ·have hone:=h1 j hj2;have hsz:=hsub j hj2
      (repeat' first|apply Ca 5;(refine j3 5 ?_)|refine yyp ?_;try refine Ce ?_ ?_<;>intro hb|refine yy ?_|(apply Cw;first|(refine Da (λkv=>?_))|(refine ai (λsx sp kv hsx hsp hsl=>?_)))|apply Cg 70;refine Ci (hc:=hone) ?_|apply ah;refine Cc Uf ?_|refine Cb λK hK=>?_|apply_assumption -exfalso -symm)
      refine⟨(j+1,kv),by dsimp only;omega,by dsimp only;omega,?_⟩;dsimp only;rw[Ao hj2,List.flatMap_append];simp only[Em,List.flatMap_nil,Ej,Ar,Ap,Ba,Ac,Ad];exact r9
     ·(repeat' first|refine yyp ?_;try refine Ce ?_ ?_<;>intro hb|refine yy ?_|apply ah;refine Cc Uf ?_|refine Cb λK hK=>?_|apply_assumption -exfalso -symm)
      rw[Am hj2];refine j1 (ja6 ⟨_,?_,rfl⟩);rfl
     )
  ·rw[Af hk,Ad]
   (refine j2 func70 ntmps70 results70 λw M E b0=>?_)
   (repeat' first|apply Ca 1;(refine Cm 1 ?_)|apply Ca 15;(refine Df 15 ?_)|apply Ca 16;refine jw3 930 ?_|refine yyp ?_;try refine Ce ?_ ?_<;>intro hb|refine yy ?_|refine yy2 ?_ ?_<;>intro hcmp|apply ah;refine Cc Uf ?_|refine Cb λK hK=>?_|apply_assumption -exfalso -symm)
   all_goals first
    |(exfalso;unfold Dm at hk;grind)
    |(
     refine jq9 (t:=3) (e:=9) (sz:=1) 930 rfl rfl ?_;rw[k9];refine j9 rz2 [930] (λx:Nat × Nat=>[(20,.d (.int .i64 x.1)),(3,.own 930 x.2)]) (λx=>[(930,.row 9 1 true (((e.l.take x.1).flatMap Il).map .str) x.2)]) (λx=>x.1<=e.l.length) (λx=>e.l.length - x.1) (0,0) (Ai _) λ⟨j,kv⟩ hj=>?_;dsimp only[Ac,Ad]at hj ⊢;rcases Ah j e.l.length with hj2|hj2
     ·have hone:=h1 j hj2;have hsz:=hsub j hj2
      (repeat' first|apply Ca 5;(refine j3 5 ?_)|refine yyp ?_;try refine Ce ?_ ?_<;>intro hb|refine yy ?_|(apply Cw;first|(refine Da (λkv=>?_))|(refine ai (λsx sp kv hsx hsp hsl=>?_)))|apply Cg 70;refine Ci (hc:=hone) ?_|apply ah;refine Cc Uf ?_|refine Cb λK hK=>?_|apply_assumption -exfalso -symm)
      refine⟨(j+1,kv),by dsimp only;omega,by dsimp only;omega,?_⟩;dsimp only;rw[Ao hj2,List.flatMap_append];simp only[Em,List.flatMap_nil,Ej,Ar,Ap,Ba,Ac,Ad];exact r9
     ·(repeat' first|refine yyp ?_;try refine Ce ?_ ?_<;>intro hb|refine yy ?_|apply ah;refine Cc Uf ?_|refine Cb λK hK=>?_|apply_assumption -exfalso -symm)
      rw[Am hj2];refine j1 (ja6 ⟨_,?_,rfl⟩);rfl
     )
theorem mt3 (e:Ex)(h:exN e<=1000000000):FnD prog gl 70 [.d (dEx e)] (λv=>v=.d (.list 1 ((Il e).map .str))):=qn8 gl _ e (Au _) h
theorem kx7 (xs:List D)(hl:xs.length<=1000000000):FnE prog gl 73 [.d (.list 6 xs)] [] (λv H1=>v=.own 931 0/\H1=[(931,.row 28 6 true xs 0)]):=by
 refine FnE.fix ?_
 (refine j2 func73 ntmps73 results73 λw M E b0=>?_)
 (repeat' first|apply Ca 4;(refine kx6 (λhx0=>?_) ?_)|apply Ca 5;(refine Df 931 ?_)|refine yyp ?_;try refine Ce ?_ ?_<;>intro hb|refine yy ?_|(apply Cw;first|(refine Da (λkv=>?_))|(refine ai (λsx sp kv hsx hsp hsl=>?_)))|apply ah;refine Cc [0,2,3,4,5,6] ?_|refine Cb λK hK=>?_|apply_assumption -exfalso -symm)
 ·subst hx0;refine jq9 (t:=2) (e:=28) (sz:=6) 931 rfl rfl ?_;refine j1 (ja6 ⟨_,?_,rfl⟩);rfl
 ·refine j1 (ja6 ⟨_,?_,rfl⟩);rfl
end Al
end
section
def Vs:List Nat:=[0,2,3,5,6,8,9,10,11,12,20,25,26,27,28]
def Ya:List Nat:=[0,1,2,3,5,6,11,12,13,14]
namespace Al
attribute [local irreducible] TR TC
theorem rz3 (n:Nat)(hn:n<=1000000000)(w:World):
 Calls prog 117 #[.slice none 0 0,.int .i64 (n:Nat)] w λe w'=>∃ a c,e=.returned (.slice a 0 c)/\w'.ownsRow w.heap.size 28 6 (.slice a 0 c) 0 []/\Below w.heap.size w w':=by
 by_cases h0:n=0
 ·subst h0
  go_enter func117,ntmps117
  go_wp2
  go_ret
  exact⟨none,0,rfl,⟨rfl,.inl ⟨rfl,rfl⟩⟩,Below.refl _ _⟩
 ·obtain⟨bytes,⟨i,z,ht,hi,hz,hsize,hbytes,hzs,hpos⟩,hbb⟩:=jg5 (inferInstance:aK prog 26 28 6);have hmul:∀ k:Nat,k<=4000000000->k * i.bytes<=140737488355328:=λk hk=>by
   have:=Nat.mul_le_mul hk (by omega:i.bytes<=1024);omega
  have hfit:Builtin.nextslicecap (0+n) 0 * i.bytes<=281474976710656:=growslice_fits (by omega) (by have:=hmul (0+n) (by omega);omega);have hrz:∀ ty,(Builtin.append_ #[26,3] ty #[.slice none 0 0,.int .i64 (n:Nat)]).run prog w=
   .ok (.slice (some ⟨w.heap.size,0,none⟩) (0+n) (grownCap w (0+n) 0 28)) (w.drew.alloc (.cells ((#[]:Array Value)++Builtin.zeroCells z.cells n++Builtin.zeroCells z.cells (grownCap w (0+n) 0 28 - (0+n))) 28)):=λty=>
   Lib.run_append_grow_zeros w _ _ ty _ i z .i64 .i64 ht Tryz.underlying3 hi hz none 0 0 [] (run_firstCells_none w.drew i.size 0 0 0) n (by omega) (by omega) (by omega) (by omega) (by have:=hmul n (by omega);omega) hfit
  have hG:=grownCap_ge w (0+n) 0 28;have hM:=grownCap_le_maxLen w (0+n) 0 28 (by unfold maxLen;omega);generalize grownCap w (0+n) 0 28=G at *;have h1:decide ((0:Int)<(n:Int))=true:=by simp;omega
  have hZ:((#[]:Array Value)++Builtin.zeroCells z.cells n++Builtin.zeroCells z.cells (G - (0+n))).size=G * 6:=by
   rw[Array.size_append,Array.size_append,size_zeroCells,size_zeroCells,hzs];simp;omega
  generalize (#[]:Array Value)++Builtin.zeroCells z.cells n++Builtin.zeroCells z.cells (G - (0+n))=Z at *
  replace hZ:=Lib.hid hZ
  clear hfit hi hz hmul
  go_enter func117,ntmps117
  go_wp2_with (at_builtin;refine Lib.wpList_append_run _ rfl _ _ _ _ rfl _ _ rfl rfl _ _ (hrz _) ?_)
  all_goals
   go_ret
   refine⟨some ⟨w.heap.size,0,none⟩,G,rfl,⟨rfl,.inr ⟨w.heap.size,G,Z,rfl,Au _,heap_alloc_new _ _,Ai _,hM,hZ.out,?_⟩⟩,?_⟩
   ·simp
   ·exact((Below.refl _ _).drew).alloc (by simp) _
theorem qn9 (n:Nat)(hn:n<=1000000000):FnE prog gl 117 [.nils 0,.d (.int .i64 n)] [] (λv H1=>v=.own 935 0/\H1=[(935,.row 28 6 true [] 0)]):=by
 intro w M β us hM hus ho hg;simp only[Ct]at hus;obtain⟨v1,r1,rfl,h1,v2,r2,rfl,h2,rfl⟩:=hus;have h1':v1=.slice none 0 0:=h1;have h2':v2=.int .i64 (n:Nat):=h2;subst h1' h2';refine(rz3 n hn w).mono ?_;rintro en w' ⟨a,c,rfl,hown,hb'⟩;have hl:∀ m ob,look m [(935,Ob.row 28 6 true [] 0)]=some ob->m=935/\ob=.row 28 6 true [] 0:=λm ob hm=>by
  rw[j7]at hm;split at hm
  ·rename_i e';cases hm;exact⟨e'.symm,rfl⟩
  ·cases hm
 have hblk:∀ b,hb (.slice a 0 c)=some b->w.heap.size<=b:=λb hb2=>by
  rcases hown.2 with ⟨h1,_⟩|⟨g,cap,cur,h1,h2,_⟩
  ·cases h1;cases hb2
  ·cases h1;simp only[hb,Bl]at hb2;omega
 refine⟨.own 935 0,_,_,upd β 935 (.slice a 0 c),⟨rfl,rfl⟩,rfl,rfl,Frm.of_below hb' _,(λm hm=>by cases hm),λm ob b hm hb2=>?_,⟨λm ob hm=>?_,λm m' b ob ob' hne h1 h2 _=>?_,λm ob b o hm hb2 hmm=>?_⟩,λe' sz sh xs hm=>by rw[jx1]⟩
 ·obtain⟨rfl,rfl⟩:=hl m ob hm;rw[z8 rfl,jx1]at hb2;exact .inr (hblk b hb2)
 ·obtain⟨rfl,rfl⟩:=hl m ob hm;exact⟨[],by rw[jx1];exact mb1 hown (Ai _),rfl⟩
 ·obtain⟨rfl,_⟩:=hl m ob h1;obtain⟨rfl,_⟩:=hl m' ob' h2;exact absurd rfl hne
 ·obtain⟨rfl,rfl⟩:=hl m ob hm;rw[z8 rfl,jx1]at hb2;have:=hblk b hb2;have:=hM _ _ hmm;omega
theorem mg0 {α:Type}(ls:List (List α))(j:Nat)(h:j<ls.length):(ls.take (j+1)).flatten=(ls.take j).flatten++ls[j]:=by
 rw[Ao h,List.flatten_append];simp
theorem kg1 {α:Type}(ls:List (List α))(j:Nat):(ls.take j).flatten.length<=ls.flatten.length:=by
 have:ls.flatten=(ls.take j).flatten++(ls.drop j).flatten:=by rw[<-List.flatten_append,List.take_append_drop]
 rw[this,Ag];omega
theorem mg1 (ls:List (List D))(hl:ls.flatten.length<=1000000):FnD prog gl 69 [.d (.list 1 (ls.map (.list 6)))] (λv=>v=.d (.list 6 ls.flatten)):=by
 refine FnD.Xf (n:=935) (e:=28) ?_
 (refine j2 func69 ntmps69 results69 λw M E b0=>?_)
 refine k7 0 rfl λhsm=>?_;rw[Aa]at hsm
 (repeat' first|refine yyp ?_;try refine Ce ?_ ?_<;>intro hb|refine yy ?_|apply ah;refine Cc Vs ?_|refine Cb λK hK=>?_|apply_assumption -exfalso -symm)
 refine j9 [3,5,11,12,13,14,15,16,17,18,19,20,21,22] [] (λj:Nat=>[(11,.d (.int .i64 j)),(3,.d (.int .i64 ((ls.take j).flatten.length:Nat)))]) (λ_=>[]) (λj=>j<=ls.length) (λj=>ls.length - j) 0 (Ai _) λj hj=>?_;dsimp only[Ac,Ad];have hle:=kg1 ls j;have hle1:=kg1 ls (j+1);rcases Ah j ls.length with hj2|hj2
 ·have hnx:=mg0 ls j hj2;have hlx:((ls.take (j+1)).flatten.length:Int)=((ls.take j).flatten.length:Nat)+(ls[j].length:Nat):=by rw[hnx,Ag];omega
  generalize (ls.take j).flatten.length=a at *
  (repeat' first|refine yyp ?_;try refine Ce ?_ ?_<;>intro hb|refine yy ?_|apply ah;refine Cc Vs ?_|refine Cb λK hK=>?_|apply_assumption -exfalso -symm)
  all_goals first
   |(exfalso;omega)
   |(refine⟨j+1,by omega,by omega,?_⟩
     rw[hlx];exact r9)
 ·have ha:ls.take j=ls:=Am hj2;rw[ha];have hgr:=qn9 gl ls.flatten.length (by omega)
  (repeat' first|apply Ca 24;refine Ch (hc:=hgr) ?_|refine yyp ?_;try refine Ce ?_ ?_<;>intro hb|refine yy ?_|apply ah;refine Cc Vs ?_|refine Cb λK hK=>?_|apply_assumption -exfalso -symm)
  refine j9 [6,8,27,28,29,30,31,32,33,34] [935] (λx:Nat × Nat=>[(27,.d (.int .i64 x.1)),(6,.own 935 x.2)]) (λx=>[(935,.row 28 6 true (ls.take x.1).flatten x.2)]) (λx=>x.1<=ls.length) (λx=>ls.length - x.1) (0,0) (Ai _) λ⟨i,kv⟩ hi=>?_;dsimp only[Ac,Ad]at hi ⊢;rcases Ah i ls.length with hi2|hi2
  ·have hnx:=mg0 ls i hi2;have hle2:=kg1 ls (i+1);rw[hnx,Ag]at hle2
   (repeat' first|refine yyp ?_;try refine Ce ?_ ?_<;>intro hb|refine yy ?_|(apply Cw;first|(refine Da (λkv=>?_))|(refine ai (λsx sp kv hsx hsp hsl=>?_)))|apply ah;refine Cc Vs ?_|refine Cb λK hK=>?_|apply_assumption -exfalso -symm)
   refine⟨(i+1,kv),by dsimp only;omega,by dsimp only;omega,?_⟩;dsimp only;rw[hnx];exact r9
  ·(repeat' first|refine yyp ?_;try refine Ce ?_ ?_<;>intro hb|refine yy ?_|apply ah;refine Cc Vs ?_|refine Cb λK hK=>?_|apply_assumption -exfalso -symm)
   rw[Am hi2];refine j1 (ja6 ⟨_,?_,rfl⟩);rfl
theorem kx8 (xs:List D)(hl:xs.length<=1000000000):FnE prog gl 66 [.d (.list 42 xs)] [] (λv H1=>v=.own 932 0/\H1=[(932,.row 45 42 true xs 0)]):=by
 refine FnE.fix ?_
 (refine j2 func66 ntmps66 results66 λw M E b0=>?_)
 (repeat' first|apply Ca 4;(refine kx6 (λhx0=>?_) ?_)|apply Ca 5;(refine Df 932 ?_)|refine yyp ?_;try refine Ce ?_ ?_<;>intro hb|refine yy ?_|(apply Cw;first|(refine Da (λkv=>?_))|(refine ai (λsx sp kv hsx hsp hsl=>?_)))|apply ah;refine Cc [0,2,3,4,5,6] ?_|refine Cb λK hK=>?_|apply_assumption -exfalso -symm)
 ·subst hx0;refine jq9 (t:=2) (e:=45) (sz:=42) 932 rfl rfl ?_;refine j1 (ja6 ⟨_,?_,rfl⟩);rfl
 ·refine j1 (ja6 ⟨_,?_,rfl⟩);rfl
theorem kx9 (xs:List D)(hl:xs.length<=1000000000):FnE prog gl 66 [.d (.list 42 xs)] [] (λv H1=>v=.own 933 0/\H1=[(933,.row 45 42 true xs 0)]):=by
 refine FnE.fix ?_
 (refine j2 func66 ntmps66 results66 λw M E b0=>?_)
 (repeat' first|apply Ca 4;(refine kx6 (λhx0=>?_) ?_)|apply Ca 5;(refine Df 933 ?_)|refine yyp ?_;try refine Ce ?_ ?_<;>intro hb|refine yy ?_|(apply Cw;first|(refine Da (λkv=>?_))|(refine ai (λsx sp kv hsx hsp hsl=>?_)))|apply ah;refine Cc [0,2,3,4,5,6] ?_|refine Cb λK hK=>?_|apply_assumption -exfalso -symm)
 ·subst hx0;refine jq9 (t:=2) (e:=45) (sz:=42) 933 rfl rfl ?_;refine j1 (ja6 ⟨_,?_,rfl⟩);rfl
 ·refine j1 (ja6 ⟨_,?_,rfl⟩);rfl
theorem ky0 (xs:List D)(hl:xs.length<=1000000000):FnE prog gl 66 [.d (.list 42 xs)] [] (λv H1=>v=.own 934 0/\H1=[(934,.row 45 42 true xs 0)]):=by
 refine FnE.fix ?_
 (refine j2 func66 ntmps66 results66 λw M E b0=>?_)
 (repeat' first|apply Ca 4;(refine kx6 (λhx0=>?_) ?_)|apply Ca 5;(refine Df 934 ?_)|refine yyp ?_;try refine Ce ?_ ?_<;>intro hb|refine yy ?_|(apply Cw;first|(refine Da (λkv=>?_))|(refine ai (λsx sp kv hsx hsp hsl=>?_)))|apply ah;refine Cc [0,2,3,4,5,6] ?_|refine Cb λK hK=>?_|apply_assumption -exfalso -symm)
 ·subst hx0;refine jq9 (t:=2) (e:=45) (sz:=42) 934 rfl rfl ?_;refine j1 (ja6 ⟨_,?_,rfl⟩);rfl
 ·refine j1 (ja6 ⟨_,?_,rfl⟩);rfl
def aB (p:Pr):List Pr:=p.spec.body++p.ak.flatMap (·.body)++p.l
def mn2 (p:Pr):Nat->List D
 |0=>p.spec.body.map dPr
 |j+1=>(p.spec.body++(p.ak.take (j+1)).flatMap (·.body)).map dPr
theorem kc1 (p:Pr)(j:Nat):mn2 p j=(p.spec.body++(p.ak.take j).flatMap (·.body)).map dPr:=by
 cases j with
 |zero=>simp[mn2]
 |succ j=>rfl
theorem Rw (p:Pr)(hl:(aB p).length<=1000000):FnD prog gl 72 [.d (dPr p)] (λv=>v=.d (.list 42 ((aB p).map dPr))):=by
 unfold aB at hl ⊢;have c1:=kx8 gl (p.spec.body.map dPr) (by simp only[Ag,Aa]at hl ⊢;omega);refine FnD.Xf (n:=932) (e:=45) ?_;rw[congrFun v6 p];simp only[Ag]at hl
 (refine j2 func72 ntmps72 results72 λw M E b0=>?_)
 (repeat' first|apply Ca 1;(refine Cm 1 ?_)|apply Ca 9;refine Ch (hc:=c1) ?_|refine yyp ?_;try refine Ce ?_ ?_<;>intro hb|refine yy ?_|apply ah;refine Cc Ya ?_|refine Cb λK hK=>?_|apply_assumption -exfalso -symm)
 rw[jb9];refine k7 11 rfl λhsm=>?_;simp only[Aa]at hsm;refine j9 [3,5,13,14,15,16,17,18,19,20,21] [932] (λx:Nat × Nat=>[(13,.d (.int .i64 x.1)),(3,.own 932 x.2)]) (λx=>[(932,.row 45 42 true (mn2 p x.1) x.2)]) (λx=>x.1<=p.ak.length) (λx=>p.ak.length - x.1) (0,0) (Ai _) λ⟨j,kv⟩ hj=>?_;dsimp only[Ac,Ad]at hj ⊢;have hfl:∀ i,((p.ak.take i).flatMap (·.body)).length<=(p.ak.flatMap (·.body)).length:=λi=>by
  have:=kg1 (p.ak.map (·.body)) i;rw[<-Ek]at this;exact this
 rcases Ah j p.ak.length with hj2|hj2
 ·have h1:=hfl (j+1);have h2:(p.ak.take (j+1)).flatMap (·.body)=(p.ak.take j).flatMap (·.body)++p.ak[j].body:=by
   rw[Ao hj2,List.flatMap_append];simp
  rw[h2,Ag]at h1;rw[kc1 p j]
  (repeat' first|apply Ca 5;(refine j3 5 ?_)|refine yyp ?_;try refine Ce ?_ ?_<;>intro hb|refine yy ?_|(apply Cw;first|(refine Da (λkv=>?_))|(refine ai (λsx sp kv hsx hsp hsl=>?_)))|apply ah;refine Cc Ya ?_|refine Cb λK hK=>?_|apply_assumption -exfalso -symm)
  refine⟨(j+1,kv),by dsimp only;omega,by dsimp only;omega,?_⟩;dsimp only;rw[kc1 p (j+1),h2];simp only[Ar,Ea];exact r9
 ·rw[kc1 p j,Am hj2]
  (repeat' first|refine yyp ?_;try refine Ce ?_ ?_<;>intro hb|refine yy ?_|(apply Cw;first|(refine Da (λkv=>?_))|(refine ai (λsx sp kv hsx hsp hsl=>?_)))|apply ah;refine Cc Ya ?_|refine Cb λK hK=>?_|apply_assumption -exfalso -symm)
  simp only[Ar,Ea];refine j1 (ja6 ⟨_,?_,rfl⟩);rfl
end Al
end
section
def Ni:List Nat:=[0,1,2,4,6,7,9,11,13,37,58,59,60,61,79,80,81,82,92,104,105,106,107]
def jp2:Plan:=lin [0,5,8,12,16,20,24,29,32,36,40,44,48,52,60,64,68,57,73,77,80,84]
def jr0:Plan:=lin [0,4,8,12,20,17,25,29,32,38]
section
variable {E:Set}{Q:Exit->Sd->Prop}{ops:Array Oper}{draw:Bool}{rest:Todo}{way:Jj}{ty:TypeId}{pos:String}{af:Array Edge}{gd:Option (Nat × Bool)}{d:Nat}
variable {env:List (Nat × V)}{H:List (Nat × Ob)}{gl:List (Nat × List D)}{t k e n:Nat}{x y:Operand}{s:ByteArray}{l:List (ByteArray × Al.Pc)}
theorem my9 [ht:TMap E.P t k e][hkk:TKey E.P k .str][hz:Jq E.P e (.d (.agg [.list 6 [],.raw (.map none),.raw (.map none)]))]
 (h1:∀ q,Al.at1 s l=some q->TR E draw ops Q rest ⟨(d,.d (.agg [.list 6 (q.ax.map dFo),.map (Al.Di q.occ) (Al.Dj q.occ),.map (Al.Di q.wr) (Al.Dj q.wr)]))::env,H,gl⟩) (h2:Al.at1 s l=none->TR E draw ops Q rest ⟨(d,.d (.agg [.list 6 [],.raw (.map none),.raw (.map none)]))::env,H,gl⟩)
 (hx:Sd.ev ⟨env,H,gl⟩ x=some (.map n):=by exact rfl) (hox:Cn x=true:=by exact rfl) (hl:look n H=some (.map (Al.Mq l) (Al.Nh Al.dPc l)):=by exact rfl) (hy:Sd.ev ⟨env,H,gl⟩ y=some (.d (.str s)):=by exact rfl) (hoy:Cn y=true:=by exact rfl)
 (hd:d<E.C.nt:=by exact ltd rfl) (hg:Sd.gd ⟨env,H,gl⟩ ops ⟨some d,.lookup t x y false,ty,pos,af,gd⟩=some true:=by exact rfl) (hw:way.known=false:=by exact rfl):
 TR E draw ops Q (.step ⟨some d,.lookup t x y false,ty,pos,af,gd⟩ way rest) ⟨env,H,gl⟩:=Al.Sz (f:=Al.dPc) h1 h2 hx hox hl hy hoy hd hg hw
theorem km0 [ht:TMap E.P t k e][hkk:TKey E.P k .str][hz:Jq E.P e (.d (.agg [.list 6 [],.raw (.map none),.raw (.map none)]))]
 (h1:∀ q,Al.at1 s l=some q->TR E draw ops Q rest ⟨(d,.tup [.d (.agg [.list 6 (q.ax.map dFo),.map (Al.Di q.occ) (Al.Dj q.occ),.map (Al.Di q.wr) (Al.Dj q.wr)]),.d (.bool true)])::env,H,gl⟩) (h2:Al.at1 s l=none->TR E draw ops Q rest ⟨(d,.tup [.d (.agg [.list 6 [],.raw (.map none),.raw (.map none)]),.d (.bool false)])::env,H,gl⟩)
 (hx:Sd.ev ⟨env,H,gl⟩ x=some (.map n):=by exact rfl) (hox:Cn x=true:=by exact rfl) (hl:look n H=some (.map (Al.Mq l) (Al.Nh Al.dPc l)):=by exact rfl) (hy:Sd.ev ⟨env,H,gl⟩ y=some (.d (.str s)):=by exact rfl) (hoy:Cn y=true:=by exact rfl)
 (hd:d<E.C.nt:=by exact ltd rfl) (hg:Sd.gd ⟨env,H,gl⟩ ops ⟨some d,.lookup t x y true,ty,pos,af,gd⟩=some true:=by exact rfl) (hw:way.known=false:=by exact rfl):
 TR E draw ops Q (.step ⟨some d,.lookup t x y true,ty,pos,af,gd⟩ way rest) ⟨env,H,gl⟩:=Al.Sz (f:=Al.dPc) h1 h2 hx hox hl hy hoy hd hg hw
end
namespace Al
theorem mn3 {w:Wd}{s:ByteArray}(p:Pr):s∈jc4 w p↔s∈Jv (qs9 w.known p.kind p.av p.rep.base p.rep.count p.spec.e p.aj p.au p.ak)\/(p.kind=17/\s∈ro8 (at1 p.name w.ay))\/∃ q∈aB p,s∈jc4 w q:=by
 obtain⟨kind,name,av,aj,au,rep,ak,l,ay,⟨sk,st,sn,se,spp,sf,sb⟩⟩:=p;have h1:∀ l:List Pr,s∈ju1 w l↔∃ q∈l,s∈jc4 w q:=λl=>by
  induction l with
  |nil=>simp[ju1]
  |cons x l ih=>simp[ju1,ih]
 have h2:∀ l:List Gu,s∈ke1 w l↔∃ q∈l.flatMap (·.body),s∈jc4 w q:=λl=>by
  induction l with
  |nil=>simp[ke1]
  |cons x l ih=>
   obtain⟨_,_,_,_,_,_,_,body⟩:=x;simp only[ke1,Bi,ih,h1,Em,Gu.body]
   grind
 simp only[jc4,aB,Bi,h1,h2,Pr.kind,Pr.av,Pr.rep,Pr.spec,Sp.e,Pr.aj,Pr.au,Pr.ak,Pr.name,Sp.body,Pr.l];split<;>grind
noncomputable def rp1 (known:List ByteArray)(p:Pr):List Ex:=ke0 known p.kind p.au
def mz0 (X:List Ex)(gs:List Gu):Nat->List Ex
 |0=>X
 |j+1=>X++je8 (gs.take (j+1))
theorem kg2 (X:List Ex)(gs:List Gu)(j:Nat):mz0 X gs j=X++je8 (gs.take j):=by
 cases j with
 |zero=>simp[mz0,je8]
 |succ j=>rfl
theorem km1:∀ a b:List Gu,je8 (a++b)=je8 a++je8 b
 |[],b=>rfl
 |.mk _ _ _ _ _ _ _ _::a,b=>by simp only[Ac,je8,km1 a b,Ea]
theorem mz1 (gs:List Gu)(j:Nat)(h:j<gs.length):je8 (gs.take (j+1))=je8 (gs.take j)++([gs[j].cond,gs[j].av,gs[j].time]++gs[j].aj++gs[j].values):=by
 rw[Ao h,km1];cases gs[j];simp[je8,vc9,Gu.cond,Gu.av,Gu.time,Gu.aj,Gu.values]
theorem ky1 (K a b:List ByteArray):Ik (Ik K a) b=Ik K (a++b):=by
 unfold Ik;rw[List.foldl_append]
theorem kr9 (X:List Ex)(j:Nat)(h:j<X.length):Jv (X.take (j+1))=Jv (X.take j)++Il X[j]:=by
 rw[jg3,jg3,Ao h,List.flatMap_append];simp
attribute [local irreducible] TR TC
theorem rp2 (ω:Wd)(p:Pr)(Ks:List ByteArray)(h5:p.kind=5->p.au≠[])(hlen:p.aj.length<=6000/\p.au.length<=6000/\(je8 p.ak).length<=900000)(hpl:(aB p).length<=1000000)
 (hex:∀ e∈qs9 ω.known p.kind p.av p.rep.base p.rep.count p.spec.e p.aj p.au p.ak,exN e<=1000000000)
 (hrec:∀ q∈aB p,∀ Ls:List ByteArray,FnE prog gl 42 [.ptr 900 0,.d (dPr q),.map 904] (HA ω++[(904,.map (Di Ls) (Dj Ls))]) (λv H1=>∃ L:List ByteArray,(∀ s,s∈L↔s∈Ls\/s∈jc4 ω q)/\v=.tup []/\H1=HA ω++[(904,.map (Di L) (Dj L))])):
 FnE prog gl 42 [.ptr 900 0,.d (dPr p),.map 904] (HA ω++[(904,.map (Di Ks) (Dj Ks))]) (λv H1=>∃ L:List ByteArray,(∀ s,s∈L↔s∈Ks\/s∈jc4 ω p)/\v=.tup []/\H1=HA ω++[(904,.map (Di L) (Dj L))]):=by
 have cp:=Rw gl p hpl;simp only[v6]at hrec cp;rw[show dP p=dPx p by rw[<-v6,qg0]]at cp;rw[qg0];dsimp only[HA,Ac,Ad]at hrec ⊢
 (refine j2 func42 ntmps42 results42 λw M E b0=>?_)
 ((repeat' first|apply Ca 4;(refine Cm 4 ?_)|refine jy6 2 ?_;refine halt ?_|refine yyp ?_;try refine Ce ?_ ?_<;>intro hb|refine yy ?_|apply ah;refine Cc Ni ?_|refine Cb λK hK=>?_|apply Cf 2;refine j0 [] jp2 ?_|apply Cf 16;refine j0 [] jr0 ?_|apply_assumption -exfalso -symm);all_goals try refine unhalt ?_)
 refine jp1 [6] [] (λl:List Ex=>[(6,.d (.list 6 (l.map dE)))]) (λ_=>[]) (λl=>l=rp1 ω.known p) ?_ ?_
 ·unfold rp1 ke0;by_cases hk:p.kind=5
  ·have hne:=h5 hk;obtain⟨e,l,hx⟩:∃ e l,p.au=e::l:=by
    cases hx:p.au with
    |nil=>exact absurd hx hne
    |cons e l=>exact⟨e,l,rfl⟩
   rw[Ae hk,hx];dsimp only
   (repeat' first|apply Ca 35;(refine jy5 (λhin=>?_) (λhin=>?_))|refine yyp ?_;try refine Ce ?_ ?_<;>intro hb|refine yy ?_|refine yy2 ?_ ?_<;>intro hcmp|apply ah;refine Cc Ni ?_|refine Cb λK hK=>?_|apply Cf 2;refine j0 [] jp2 ?_|apply Cf 16;refine j0 [] jr0 ?_|apply_assumption -exfalso -symm)
   ·refine⟨e::l,?_,r9⟩;rw[Af λh=>h.2 hin]
   ·refine⟨l,?_,?_⟩
    ·rw[Ae ⟨hcmp,hin⟩]
    ·rw[show List.take ((List.map dE (e::l)).length - 1) (List.drop 1 (List.map dE (e::l)))=List.map dE l from by rw[Ap,List.drop_succ_cons,Ew];exact Am (by simp)];exact r9
   ·refine⟨e::l,?_,r9⟩;rw[Af λh=>hcmp h.1]
  ·rw[Af hk]
   (repeat' first|refine yyp ?_;try refine Ce ?_ ?_<;>intro hb|refine yy ?_|apply ah;refine Cc Ni ?_|refine Cb λK hK=>?_|apply Cf 2;refine j0 [] jp2 ?_|apply Cf 16;refine j0 [] jr0 ?_|apply_assumption -exfalso -symm)
   refine⟨p.au,rfl,?_⟩;exact r9
 rintro l hl;have hll:l.length<=p.au.length:=by
  rw[hl];unfold rp1 ke0;split
  ·split
   ·split<;>simp_all
   ·simp_all
  ·exact Au _
 obtain⟨X0,hX0⟩:∃ X0,X0=[p.av,p.rep.base,p.rep.count,p.spec.e]++p.aj++l:=⟨_,rfl⟩;have hX0l:X0.length<=12004:=by rw[hX0];simp;omega
 have c1:=mg1 gl [[dE p.av,dE p.rep.base,dE p.rep.count,dE p.spec.e],p.aj.map dEx,l.map dE] (by simp;omega);rw[show[[dE p.av,dE p.rep.base,dE p.rep.count,dE p.spec.e],p.aj.map dEx,l.map dE].flatten=X0.map dE by rw[hX0,k9];simp]at c1;simp only[Ap,Ba]at c1;dsimp only[Ac,Ad]
 (repeat' first|apply Ca 51;(refine Df 51 ?_)|apply Ca 55;(refine Df 55 ?_)|refine yyp ?_;try refine Ce ?_ ?_<;>intro hb|refine yy ?_|apply Cg 69;refine Ci (hc:=c1) ?_|apply ah;refine Cc Ni ?_|refine Cb λK hK=>?_|apply Cf 2;refine j0 [] jp2 ?_|apply Cf 16;refine j0 [] jr0 ?_|apply_assumption -exfalso -symm)
 rw[jb9];have hgm:∀ j,(je8 (p.ak.take j)).length<=(je8 p.ak).length:=λj=>by
  have:je8 p.ak=je8 (p.ak.take j)++je8 (p.ak.drop j):=by rw[<-km1,List.take_append_drop]
  rw[this,Ag];omega
 refine k7 58 rfl λhsm=>?_;simp only[Aa]at hsm;refine j9 [7,9,60,61,62,63,64,65,66,67,68,69,70,71,72,73,74,75,76,77,78] [] (λj:Nat=>[(60,.d (.int .i64 j)),(7,.d (.list 6 ((mz0 X0 p.ak j).map dE)))]) (λ_=>[]) (λj=>j<=p.ak.length) (λj=>p.ak.length - j) 0 (Ai _) λj hj=>?_;dsimp only[Ac,Ad];rcases Ah j p.ak.length with hj2|hj2
 ·have hst:=mz1 p.ak j hj2;have hm1:=hgm (j+1);have c2:=mg1 gl [(mz0 X0 p.ak j).map dE,[dE p.ak[j].cond,dE p.ak[j].av,dE p.ak[j].time],p.ak[j].aj.map dEx,p.ak[j].values.map dEx] (by
   rw[hst]at hm1;rw[kg2];simp only[List.flatten_cons,List.flatten_nil,Ag,Aa,An,Av]at hm1 ⊢;omega)
  rw[show[(mz0 X0 p.ak j).map dE,[dE p.ak[j].cond,dE p.ak[j].av,dE p.ak[j].time],p.ak[j].aj.map dEx,p.ak[j].values.map dEx].flatten=(mz0 X0 p.ak (j+1)).map dE by rw[kg2,kg2,hst,k9];simp]at c2;simp only[Ap,Ba]at c2
  (repeat' first|apply Ca 9;(refine j3 9 ?_)|apply Ca 71;(refine Df 71 ?_)|apply Ca 76;(refine Df 76 ?_)|refine yyp ?_;try refine Ce ?_ ?_<;>intro hb|refine yy ?_|apply Cg 69;refine Ci (hc:=c2) ?_|apply ah;refine Cc Ni ?_|refine Cb λK hK=>?_|apply Cf 2;refine j0 [] jp2 ?_|apply Cf 16;refine j0 [] jr0 ?_|apply_assumption -exfalso -symm)
  exact⟨j+1,by omega,by omega,r9⟩
 obtain rfl:j=p.ak.length:=by omega
 rw[kg2,Bk];obtain⟨X,hX⟩:∃ X,X=X0++je8 p.ak:=⟨_,rfl⟩;have hXl:X.length<=1000000:=by rw[hX,Ag];omega
 have hXm:∀ e∈X,exN e<=1000000000:=λe he=>hex e (by
  rw[hX,hX0,hl]at he;unfold qs9;exact he)
 have hXe:qs9 ω.known p.kind p.av p.rep.base p.rep.count p.spec.e p.aj p.au p.ak=X:=by
  rw[hX,hX0,hl];rfl
 rw[<-hX,<-jb9]
 (repeat' first|refine yyp ?_;try refine Ce ?_ ?_<;>intro hb|refine yy ?_|apply ah;refine Cc Ni ?_|refine Cb λK hK=>?_|apply Cf 2;refine j0 [] jp2 ?_|apply Cf 16;refine j0 [] jr0 ?_|apply_assumption -exfalso -symm)
 refine j9 [11,81,82,83,84,85,86,87,88,89] [904] (λj:Nat=>[(81,.d (.int .i64 j))]) (λj=>[(904,.map (Di (Ik Ks (Jv (X.take j)))) (Dj (Ik Ks (Jv (X.take j)))))]) (λj=>j<=X.length) (λj=>X.length - j) 0 (Ai _) λj hj=>?_;dsimp only[Ac,Ad];rcases Ah j X.length with hj2|hj2
 ·have c3:=mt3 gl X[j] (hXm _ (At hj2));have c4:=qn3 gl (Ik Ks (Jv (X.take j))) (Il X[j]);rw[ky1,<-kr9 X j hj2]at c4;simp only[k9]at c3
  (repeat' first|apply Ca 11;(refine j3 11 ?_)|apply Ca 88;refine Ch (hc:=c4) ?_|refine yyp ?_;try refine Ce ?_ ?_<;>intro hb|refine yy ?_|apply Cg 70;refine Ci (hc:=c3) ?_|apply ah;refine Cc Ni ?_|refine Cb λK hK=>?_|apply Cf 2;refine j0 [] jp2 ?_|apply Cf 16;refine j0 [] jr0 ?_|apply_assumption -exfalso -symm)
  exact⟨j+1,by omega,by omega,r9⟩
 obtain rfl:j=X.length:=by omega
 rw[Bk]
 ((repeat' first|refine jy6 15 ?_;refine halt ?_|refine yyp ?_;try refine Ce ?_ ?_<;>intro hb|refine yy ?_|apply ah;refine Cc Ni ?_|refine Cb λK hK=>?_|apply Cf 2;refine j0 [] jp2 ?_|apply Cf 16;refine j0 [] jr0 ?_|apply_assumption -exfalso -symm);all_goals try refine unhalt ?_)
 refine jp1 [] [904] (λ_:List ByteArray=>[]) (λL=>[(904,.map (Di L) (Dj L))]) (λL=>∀ s,s∈L↔s∈Ks\/s∈Jv X\/(p.kind=17/\s∈ro8 (at1 p.name ω.ay))) ?_ ?_
 ·(repeat' first|apply Ca 100;(refine my9 (λq hq=>?_) (λhq=>?_))|apply Ca 102;(first|(refine Ga (hc:=my7 gl _ _) ?_;rintro L1 hL1)|(refine Ch (hc:=mn0 gl _) ?_))|refine yyp ?_;try refine Ce ?_ ?_<;>intro hb|refine yy ?_|refine yy2 ?_ ?_<;>intro hcmp|apply ah;refine Cc Ni ?_|refine Cb λK hK=>?_|apply Cf 2;refine j0 [] jp2 ?_|apply Cf 16;refine j0 [9] (lin [0,4,8,12,20,17,25,29,32,39]) ?_|apply_assumption -exfalso -symm)
  ·refine⟨L1,λs=>?_,r9⟩;rw[hL1,kg0,hq,or_assoc];simp[hcmp,ro8]
  ·refine⟨_,λs=>?_,r9⟩;rw[kg0,hq];simp[ro8]
  ·refine⟨_,λs=>?_,r9⟩;rw[kg0];simp[hcmp]
 intro L hL;dsimp only[Ac,Ad]
 (repeat' first|refine yyp ?_;try refine Ce ?_ ?_<;>intro hb|refine yy ?_|apply Cg 72;refine Ci (hc:=cp) ?_|apply ah;refine Cc Ni ?_|refine Cb λK hK=>?_|apply Cf 2;refine j0 [] jp2 ?_|apply Cf 16;refine j0 [] jr0 ?_|apply_assumption -exfalso -symm)
 refine j9 [13,106,107,108,109,110,111,112,113,114] [904] (λx:Nat × List ByteArray=>[(106,.d (.int .i64 x.1))]) (λx=>[(904,.map (Di x.2) (Dj x.2))]) (λx=>x.1<=(aB p).length/\∀ s,s∈x.2↔s∈L\/∃ q∈(aB p).take x.1,s∈jc4 ω q) (λx=>(aB p).length - x.1) (0,L) ⟨Ai _,λs=>by simp⟩ λ⟨j,L2⟩ ⟨hj,hL2⟩=>?_;dsimp only[Ac,Ad]at hj hL2 ⊢;rcases Ah j (aB p).length with hj2|hj2
 ·have hone:=hrec (aB p)[j] (At hj2) L2
  (repeat' first|apply Ca 13;(refine j3 13 ?_)|apply Ca 113;(refine Ga (hc:=hone) ?_;rintro L3 hL3)|refine yyp ?_;try refine Ce ?_ ?_<;>intro hb|refine yy ?_|apply ah;refine Cc Ni ?_|refine Cb λK hK=>?_|apply Cf 2;refine j0 [] jp2 ?_|apply Cf 16;refine j0 [] jr0 ?_|apply_assumption -exfalso -symm)
  refine⟨(j+1,L3),⟨by dsimp only;omega,λs=>?_⟩,by dsimp only;omega,r9⟩;dsimp only;rw[hL3,hL2,Ao hj2];simp only[Bi,Bu]
  grind
 ·rw[Am hj2]at hL2
  (repeat' first|refine yyp ?_;try refine Ce ?_ ?_<;>intro hb|refine yy ?_|apply ah;refine Cc Ni ?_|refine Cb λK hK=>?_|apply Cf 2;refine j0 [] jp2 ?_|apply Cf 16;refine j0 [] jr0 ?_|apply_assumption -exfalso -symm)
  exact n9 ⟨L2,λs=>by
   rw[hL2,hL,mn3 p,hXe]
   grind,rfl,rfl⟩
end Al
end
end Go.Proofs.YtklklgfpkpglgaaGreatDoor
