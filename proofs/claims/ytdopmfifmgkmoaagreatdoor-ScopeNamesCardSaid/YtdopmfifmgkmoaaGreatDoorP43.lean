/- Parts: S44, S45, S46, S47, S48, S49, S50. -/
import Derived.Test.YtdopmfifmgkmoaaGreatDoorP32
import Derived.Test.YtdopmfifmgkmoaaGreatDoorP33
import Derived.Test.YtdopmfifmgkmoaaGreatDoorP36
import Derived.Test.YtdopmfifmgkmoaaGreatDoorP26
import Derived.Test.YtdopmfifmgkmoaaGreatDoorP41
import Derived.Test.YtdopmfifmgkmoaaGreatDoorP47
import Derived.Test.YtdopmfifmgkmoaaGreatDoorP31
set_option linter.all false
set_option maxRecDepth 100000
set_option maxHeartbeats 16000000
namespace Go.Proofs.YtdopmfifmgkmoaaGreatDoor
open Go.RowKit Go.Proofs.Tryz
section
def jm9:List Nat:=[0,1,3,5,7,9,11,13,17,18,19,20,34,35,36,37,45,46,47,48,60,61,62,63,72,73,74,75]
def jc1:Plan:=lin [0,4,8,16,13,21,25,28,35]
variable {mm:Int}
namespace Sc
open Classical in
noncomputable def upTk:List (ByteArray × Int)->ByteArray->List (ByteArray × Int)
 |[],s=>[(s,1)]
 |x::l,s=>if x.1=s then (x.1,x.2+1)::l else x::upTk l s
open Classical in
noncomputable def cntTk:List (ByteArray × Int)->ByteArray->Int
 |[],_=>0
 |x::l,s=>if x.1=s then x.2 else cntTk l s
noncomputable def upAll (tk:List (ByteArray × Int))(l:List ByteArray):List (ByteArray × Int):=l.foldl upTk tk
theorem upAll_app (tk:List (ByteArray × Int))(l m:List ByteArray):upAll tk (l++m)=upAll (upAll tk l) m:=List.foldl_append ..
theorem upAll_snoc (tk:List (ByteArray × Int))(l:List ByteArray)(s:ByteArray):upAll tk (l++[s])=upTk (upAll tk l) s:=by rw[upAll_app];rfl
def tkIn (tk:List (ByteArray × Int))(b:Int):Prop:=∀ x∈tk,0<x.2/\x.2<=b
theorem mx2:∀ {tk:List (ByteArray × Int)} {b:Int} (s:ByteArray),0<=b->tkIn tk b->tkIn (upTk tk s) (b+1)
 |[],b,s,hb,_,x,hx=>by
  simp only[upTk,List.mem_singleton]at hx
  subst hx
  exact⟨by dsimp only;omega,by dsimp only;omega⟩
 |y::l,b,s,hb,h,x,hx=>by
  have hy:=h y (List.mem_cons_self ..)
  simp only[upTk]at hx
  split at hx
  ·rcases List.mem_cons.1 hx with rfl|hx
   ·exact⟨by dsimp only;omega,by dsimp only;omega⟩
   ·have:=h x (List.mem_cons_of_mem _ hx)
    exact⟨this.1,by omega⟩
  ·rcases List.mem_cons.1 hx with rfl|hx
   ·exact⟨hy.1,by omega⟩
   ·exact mx2 s hb (fun x hx=>h x (List.mem_cons_of_mem _ hx)) x hx
theorem upAll_in:∀ (l:List ByteArray) {tk:List (ByteArray × Int)} {b:Int},0<=b->tkIn tk b->tkIn (upAll tk l) (b+l.length)
 |[],tk,b,_,h=>by simpa [upAll]using h
 |s::l,tk,b,hb,h=>by
  have:=upAll_in l (by omega:(0:Int)<=b+1) (mx2 s hb h)
  rw[show b+((s::l).length:Int)=b+1+l.length by simp only[List.length_cons];omega]
  exact this
theorem cnt_in:∀ {tk:List (ByteArray × Int)} {b:Int} (s:ByteArray),0<=b->tkIn tk b->0<=cntTk tk s/\cntTk tk s<=b
 |[],b,s,hb,_=>⟨Int.le_refl _,hb⟩
 |y::l,b,s,hb,h=>by
  have hy:=h y (List.mem_cons_self ..)
  simp only[cntTk]
  split
  ·omega
  ·exact cnt_in s hb fun x hx=>h x (List.mem_cons_of_mem _ hx)
theorem cnt_hit:∀ {tk:List (ByteArray × Int)} {s:ByteArray} {i:Nat} {z:ByteArray × Int},tk[i]? =some z->z.1=s->(∀ j:Nat,j<i->∀ u,tk[j]? =some u->u.1≠s)->cntTk tk s=z.2/\tkK (upTk tk s)=tkK tk/\tkV (upTk tk s)=(tkV tk).set i (.int .i64 (z.2+1))
 |[],s,i,z,h,_,_=>by simp at h
 |y::l,s,0,z,h,hz,_=>by
  simp only[List.getElem?_cons_zero,Option.some.injEq]at h
  subst h
  simp[cntTk,upTk,hz,tkK,tkV]
 |y::l,s,i+1,z,h,hz,hf=>by
  have hy:¬y.1=s:=hf 0 (by omega) y rfl
  simp only[List.getElem?_cons_succ]at h
  have ih:=cnt_hit h hz fun j hj u hu=>hf (j+1) (by omega) u (by simpa using hu)
  simp only[cntTk,upTk,if_neg hy]
  refine⟨ih.1,?_,?_⟩
  ·have:=ih.2.1
   simp only[tkK,List.map_cons]at this ⊢
   rw[this]
  ·have:=ih.2.2
   simp only[tkV,List.map_cons,List.set_cons_succ]at this ⊢
   rw[this]
theorem cnt_miss:∀ {tk:List (ByteArray × Int)} {s:ByteArray},s∉tk.map (·.1)->cntTk tk s=0/\tkK (upTk tk s)=tkK tk++[.str s]/\tkV (upTk tk s)=tkV tk++[.int .i64 1]
 |[],s,_=>⟨rfl,rfl,rfl⟩
 |y::l,s,h=>by
  simp only[List.map_cons,List.mem_cons,not_or]at h
  have ih:=cnt_miss h.2
  have hy:¬y.1=s:=fun e=>h.1 e.symm
  simp only[cntTk,upTk,if_neg hy]
  refine⟨ih.1,?_,?_⟩
  ·have:=ih.2.1
   simp only[tkK,List.map_cons,List.cons_append]at this ⊢
   rw[this]
  ·have:=ih.2.2
   simp only[tkV,List.map_cons,List.cons_append]at this ⊢
   rw[this]
end Sc
section
variable {E:Set}{Q:Exit->Sd->Prop}{ops:Array Oper}{draw:Bool}{rest:Todo}{way:Way3}{ty:TypeId}{pos:String}{af:Array Edge}{gd:Option (Nat × Bool)}
variable {env:List (Nat × V)}{H:List (Nat × Ob)}{gl:List (Nat × List D)}{d:Nat}
theorem jn0 {t k e b:Nat}{x y:Operand}{tk:List (ByteArray × Int)}{s:ByteArray}[ht:TMap E.P t k e][hkk:TKey E.P k .str][hz:TZeroV E.P e (.d (.int .i64 0))](h:TR E draw ops Q rest ⟨(d,.d (.int .i64 (Sc.cntTk tk s)))::env,H,gl⟩)(hx:Sd.ev ⟨env,H,gl⟩ x=some (.map b):=by exact rfl)(hox:okOp x=true:=by exact rfl)(hl:look b H=some (.map (Sc.tkK tk) (Sc.tkV tk)):=by exact rfl)(hy:Sd.ev ⟨env,H,gl⟩ y=some (.d (.str s)):=by exact rfl)(hoy:okOp y=true:=by exact rfl)
 (hd:d<E.C.nt:=by exact ltd rfl) (hg:Sd.gd ⟨env,H,gl⟩ ops ⟨some d,.lookup t x y false,ty,pos,af,gd⟩=some true:=by exact rfl) (hw:way.known=false:=by exact rfl):TR E draw ops Q (.step ⟨some d,.lookup t x y false,ty,pos,af,gd⟩ way rest) ⟨env,H,gl⟩:=
 jl2 hx hox hl hy hoy hd hg hw (fun i z h1 h2 h3=>by rw[<-(Sc.cnt_hit h1 h2 h3).1];exact h) (fun hm=>by rw[(Sc.cnt_miss hm).1]at h;exact h)
theorem jn1 {t k e n:Nat}{x y z:Operand}{tk:List (ByteArray × Int)}{s:ByteArray}{c:Int}[ht:TMap E.P t k e][hkk:TKey E.P k .str](h:TR E draw ops Q rest ⟨env,(n,.map (Sc.tkK (Sc.upTk tk s)) (Sc.tkV (Sc.upTk tk s)))::H,gl⟩)(hx:Sd.ev ⟨env,H,gl⟩ x=some (.map n):=by exact rfl)(hox:okOp x=true:=by exact rfl)(hl:look n H=some (.map (Sc.tkK tk) (Sc.tkV tk)):=by exact rfl)(hy:Sd.ev ⟨env,H,gl⟩ y=some (.d (.str s)):=by exact rfl)(hoy:okOp y=true:=by exact rfl)
 (hz:Sd.ev ⟨env,H,gl⟩ z=some (.d (.int .i64 c)):=by exact rfl) (hoz:okOp z=true:=by exact rfl) (hc:c=Sc.cntTk tk s+1:=by exact rfl) (hg:Sd.gd ⟨env,H,gl⟩ ops ⟨none,.mapUpdate t x y z,ty,pos,af,gd⟩=some true:=by exact rfl) (hw:isBar draw way=true:=by exact rfl):TR E draw ops Q (.step ⟨none,.mapUpdate t x y z,ty,pos,af,gd⟩ way rest) ⟨env,H,gl⟩:=by
 subst hc
 refine jc8 (kk:=.str) hx hox hl hy hoy hz hoz (.d _) (.str _ _) hg hw (mv5 _ _) (fun i h1 h2=>?_) (fun hm=>?_)
 ·unfold Sc.tkK at h1 h2
  rw[List.getElem?_map]at h1
  cases h3:tk[i]? with
  |none=>rw[h3]at h1;cases h1
  |some u=>
   rw[h3]at h1
   simp only[Option.map_some,Option.some.injEq,D.str.injEq]at h1
   have hh:=Sc.cnt_hit h3 h1 fun j hj v hv e=>h2 j hj (by rw[List.getElem?_map,hv,<-e];rfl)
   rw[hh.2.1,hh.2.2,<-hh.1]at h
   exact h
 ·have hh:=Sc.cnt_miss (tk:=tk) (s:=s) fun hs=>hm (by obtain⟨u,hu,rfl⟩:=List.mem_map.1 hs;exact List.mem_map.2 ⟨u,hu,rfl⟩)
  rw[hh.2.1,hh.2.2]at h
  rw[hh.1]
  exact h
end
theorem kr0:∀ l:List Pr,Sc.tagsPrs l=l.flatMap Sc.tagsPr
 |[]=>rfl
 |p::l=>by simp only[Sc.tagsPrs,List.flatMap_cons,kr0 l]
theorem mh1:∀ l:List Gu,Sc.tagsGus l=l.flatMap Sc.tagsGu
 |[]=>rfl
 |p::l=>by simp only[Sc.tagsGus,List.flatMap_cons,mh1 l]
theorem jf8 {α:Type}(f:α->List ByteArray)(l:List α)(j:Nat)(hj:j<l.length):(l.take (j+1)).flatMap f=(l.take j).flatMap f++f l[j]:=by
 rw[List.take_succ_eq_append_getElem hj,List.flatMap_append]
 simp
theorem kf7 {α:Type}(f:α->List ByteArray):∀ (l:List α) (j:Nat),((l.take j).flatMap f).length<=(l.flatMap f).length
 |[],j=>by simp
 |x::l,0=>by simp
 |x::l,j+1=>by
  have:=kf7 f l j
  simp only[List.take_succ_cons,List.flatMap_cons,List.length_append]
  omega
attribute [local irreducible] TR TC
theorem qj4 (p:Pr)(σ:Sc.W)(B:Int)(hB:0<=B)(hin:Sc.tkIn σ.tk B)(hr:B+(Sc.tagsPr p).length<1000000000000000000)
 (ih:∀ x:Pr,(x∈p.l\/x∈p.spec.body\/∃ g∈p.guards,x∈g.body)->∀ (L:List ByteArray),L.length+(Sc.tagsPr x).length<=(Sc.tagsPr p).length->FnE prog (glS mm) 43 [.ptr 900 0,.d (dPr x)] (HW .none {σ with tk:=Sc.upAll σ.tk L}) (fun v H1=>v=.tup []/\H1=HW .none {σ with tk:=Sc.upAll σ.tk (L++Sc.tagsPr x)})):
 FnE prog (glS mm) 43 [.ptr 900 0,.d (dPr p)] (HW .none σ) (fun v H1=>v=.tup []/\H1=HW .none {σ with tk:=Sc.upAll σ.tk (Sc.tagsPr p)}):=by
 obtain⟨T,hT⟩:∃ T,T=Sc.tagsPr p:=⟨_,rfl⟩
 have hTp:T=p.spec.proto.l.map (·.tag)++(p.spec.body.flatMap Sc.tagsPr++(p.guards.flatMap Sc.tagsGu++p.l.flatMap Sc.tagsPr)):=by
  rw[hT]
  obtain⟨kind,name,chan,targets,exprs,rep,guards,l,procs,⟨sk,st,sn,se,spp,sf,sb⟩⟩:=p
  simp only[Sc.tagsPr,kr0,mh1,Pr.spec,Pr.guards,Pr.l,Sp.proto,Sp.body]
 rw[<-hT]at hr ih ⊢
 have hTl:T.length=p.spec.proto.l.length+((p.spec.body.flatMap Sc.tagsPr).length+((p.guards.flatMap Sc.tagsGu).length+(p.l.flatMap Sc.tagsPr).length)):=by
  rw[hTp]
  simp only[List.length_append,List.length_map]
 have hcnt:∀ (L:List ByteArray) (s:ByteArray),L.length<=T.length->0<=Sc.cntTk (Sc.upAll σ.tk L) s/\Sc.cntTk (Sc.upAll σ.tk L) s<1000000000000000000:=fun L s hL=>by
  have h1:=Sc.cnt_in s (by omega) (Sc.upAll_in L hB hin)
  omega
 dsimp only[HW,ja2,l9]at ih ⊢
 rw[x5]
 (refine j3 func43 ntmps43 results43 fun w M E b0=>?_)
 simp only[List.map_cons,List.map_nil]
 (repeat' first|refine tr_at 3 ?_;(refine k7 1003 ?_)|refine tr_at 5 ?_;(refine j1 1005 ?_)|refine tr_at 7 ?_;(refine j1 1007 ?_)|refine tr_at 9 ?_;(refine j1 1009 ?_)|refine tr_at 11 ?_;(refine j1 1011 ?_)|refine tr_at 13 ?_;(refine j1 1013 ?_)|refine yyp ?_;try refine s_bu ?_ ?_<;>intro hb|refine yy ?_|refine yy2 ?_ ?_<;>intro hcmp|refine at_lookup ?_;(first|(refine s_lookup_d rfl rfl rfl rfl (by first|exact Comp.int ..|exact Comp.str ..|exact Comp.agg (by(repeat (first|exact EqC.nil|apply EqC.int|apply EqC.bool|apply EqC.str));fail_if_success intros)) (ltd rfl) rfl rfl (by(assumption)) (by(simp)) (fun ki kz hki hkz hkf=>?_) (fun hmiss=>?_))|(refine jc7 rfl rfl rfl rfl rfl (by first|exact Comp.int ..|exact Comp.str ..|exact Comp.agg (by(repeat (first|exact EqC.nil|apply EqC.int|apply EqC.bool|apply EqC.str));fail_if_success intros)) (ltd rfl) rfl rfl (by(assumption)) (by(simp)) (fun ki kz hki hkz hkf=>?_) (fun hmiss=>?_)))|refine jc8 rfl rfl rfl rfl rfl rfl rfl (by first|exact ToD.d _|exact ToD.nils _|exact ToD.own rfl) (by first|exact Comp.int ..|exact Comp.str ..|exact Comp.agg (by(repeat (first|exact EqC.nil|apply EqC.int|apply EqC.bool|apply EqC.str));fail_if_success intros)) rfl rfl (by(assumption)) (fun ki hki hkf=>?_) (fun hmiss=>?_)|refine at_nil ?_;refine z_nil jm9 ?_|refine tc_seq fun K hK=>?_|refine j5 4 ?_;refine j2 [8] jc1 ?_|refine j5 14 ?_;refine j2 [8] jc1 ?_|apply_assumption -exfalso -symm)
 obtain⟨L1,hL1⟩:∃ L,L=p.spec.proto.l.map (·.tag):=⟨_,rfl⟩
 obtain⟨L2,hL2⟩:∃ L,L=p.spec.body.flatMap Sc.tagsPr:=⟨_,rfl⟩
 obtain⟨L3,hL3⟩:∃ L,L=p.guards.flatMap Sc.tagsGu:=⟨_,rfl⟩
 obtain⟨L4,hL4⟩:∃ L,L=p.l.flatMap Sc.tagsPr:=⟨_,rfl⟩
 have hl1:L1.length=p.spec.proto.l.length:=by rw[hL1,List.length_map]
 rw[<-hL1,<-hL2,<-hL3,<-hL4]at hTp
 rw[<-hL2,<-hL3,<-hL4]at hTl
 refine k9 [5,19,20,21,22,23,24,25,26,27,28,29,30,31] [902] (fun j:Nat=>[(19,.d (.int .i64 j))]) (fun j=>[(902,.map (Sc.tkK (Sc.upAll σ.tk ((p.spec.proto.l.take j).map (·.tag)))) (Sc.tkV (Sc.upAll σ.tk ((p.spec.proto.l.take j).map (·.tag)))))]) (fun j=>j<=p.spec.proto.l.length) (fun j=>p.spec.proto.l.length - j) 0 (Nat.zero_le _) fun j hj=>?_
 dsimp only[List.cons_append,List.nil_append]
 rcases Nat.lt_or_ge j p.spec.proto.l.length with hj2|hj2
 ·have hc1:=hcnt ((p.spec.proto.l.take j).map (·.tag)) (p.spec.proto.l[j]).tag (by simp only[List.length_map,List.length_take];omega)
  (repeat' first|refine tr_at 3 ?_;(refine k7 1103 ?_)|refine tr_at 5 ?_;(refine j1 1105 ?_)|refine tr_at 29 ?_;(refine jn0 ?_)|refine jq4 8 ?_;(refine jn1 ?_)|refine tr_at 7 ?_;(refine j1 1107 ?_)|refine tr_at 9 ?_;(refine j1 1109 ?_)|refine tr_at 11 ?_;(refine j1 1111 ?_)|refine tr_at 13 ?_;(refine j1 1113 ?_)|refine yyp ?_;try refine s_bu ?_ ?_<;>intro hb|refine yy ?_|refine yy2 ?_ ?_<;>intro hcmp|refine at_lookup ?_;(first|(refine s_lookup_d rfl rfl rfl rfl (by first|exact Comp.int ..|exact Comp.str ..|exact Comp.agg (by(repeat (first|exact EqC.nil|apply EqC.int|apply EqC.bool|apply EqC.str));fail_if_success intros)) (ltd rfl) rfl rfl (by(assumption)) (by(simp)) (fun ki kz hki hkz hkf=>?_) (fun hmiss=>?_))|(refine jc7 rfl rfl rfl rfl rfl (by first|exact Comp.int ..|exact Comp.str ..|exact Comp.agg (by(repeat (first|exact EqC.nil|apply EqC.int|apply EqC.bool|apply EqC.str));fail_if_success intros)) (ltd rfl) rfl rfl (by(assumption)) (by(simp)) (fun ki kz hki hkz hkf=>?_) (fun hmiss=>?_)))|refine jc8 rfl rfl rfl rfl rfl rfl rfl (by first|exact ToD.d _|exact ToD.nils _|exact ToD.own rfl) (by first|exact Comp.int ..|exact Comp.str ..|exact Comp.agg (by(repeat (first|exact EqC.nil|apply EqC.int|apply EqC.bool|apply EqC.str));fail_if_success intros)) rfl rfl (by(assumption)) (fun ki hki hkf=>?_) (fun hmiss=>?_)|refine at_nil ?_;refine z_nil jm9 ?_|refine tc_seq fun K hK=>?_|refine j5 4 ?_;refine j2 [8] jc1 ?_|refine j5 14 ?_;refine j2 [8] jc1 ?_|apply_assumption -exfalso -symm)
  refine⟨j+1,by omega,by omega,?_⟩
  rw[List.take_succ_eq_append_getElem hj2,List.map_append,List.map_cons,List.map_nil,Sc.upAll_snoc]
  exact v7
 obtain rfl:j=p.spec.proto.l.length:=by omega
 rw[List.take_length,<-hL1]
 simp only[x5]at ih
 (repeat' first|refine tr_at 3 ?_;(refine k7 3 ?_)|refine tr_at 5 ?_;(refine j1 5 ?_)|refine tr_at 7 ?_;(refine j1 7 ?_)|refine tr_at 9 ?_;(refine j1 9 ?_)|refine tr_at 11 ?_;(refine j1 11 ?_)|refine tr_at 13 ?_;(refine j1 13 ?_)|refine yyp ?_;try refine s_bu ?_ ?_<;>intro hb|refine yy ?_|refine yy2 ?_ ?_<;>intro hcmp|refine at_lookup ?_;(first|(refine s_lookup_d rfl rfl rfl rfl (by first|exact Comp.int ..|exact Comp.str ..|exact Comp.agg (by(repeat (first|exact EqC.nil|apply EqC.int|apply EqC.bool|apply EqC.str));fail_if_success intros)) (ltd rfl) rfl rfl (by(assumption)) (by(simp)) (fun ki kz hki hkz hkf=>?_) (fun hmiss=>?_))|(refine jc7 rfl rfl rfl rfl rfl (by first|exact Comp.int ..|exact Comp.str ..|exact Comp.agg (by(repeat (first|exact EqC.nil|apply EqC.int|apply EqC.bool|apply EqC.str));fail_if_success intros)) (ltd rfl) rfl rfl (by(assumption)) (by(simp)) (fun ki kz hki hkz hkf=>?_) (fun hmiss=>?_)))|refine jc8 rfl rfl rfl rfl rfl rfl rfl (by first|exact ToD.d _|exact ToD.nils _|exact ToD.own rfl) (by first|exact Comp.int ..|exact Comp.str ..|exact Comp.agg (by(repeat (first|exact EqC.nil|apply EqC.int|apply EqC.bool|apply EqC.str));fail_if_success intros)) rfl rfl (by(assumption)) (fun ki hki hkf=>?_) (fun hmiss=>?_)|refine at_nil ?_;refine z_nil jm9 ?_|refine tc_seq fun K hK=>?_|refine j5 4 ?_;refine j2 [8] jc1 ?_|refine j5 14 ?_;refine j2 [8] jc1 ?_|apply_assumption -exfalso -symm)
 rw[x5]
 refine r7 34 rfl fun hsm2=>?_
 simp only[List.length_map]at hsm2
 refine k9 ([1,17,18,19,20]++[7,36,37,38,39,40,41,42,43]) [902] (fun j:Nat=>[(36,.d (.int .i64 j))]) (fun j=>[(902,.map (Sc.tkK (Sc.upAll (Sc.upAll σ.tk L1) ((p.spec.body.take j).flatMap Sc.tagsPr))) (Sc.tkV (Sc.upAll (Sc.upAll σ.tk L1) ((p.spec.body.take j).flatMap Sc.tagsPr))))]) (fun j=>j<=p.spec.body.length) (fun j=>p.spec.body.length - j) 0 (Nat.zero_le _) fun j hj=>?_
 dsimp only[List.cons_append,List.nil_append]
 rcases Nat.lt_or_ge j p.spec.body.length with hj2|hj2
 ·have hone:=ih p.spec.body[j] (.inr (.inl (List.getElem_mem hj2))) (L1++(p.spec.body.take j).flatMap Sc.tagsPr) (by
   have h1:=kf7 Sc.tagsPr p.spec.body (j+1)
   rw[jf8 Sc.tagsPr _ _ hj2,<-hL2,List.length_append]at h1
   rw[List.length_append]
   omega)
  simp only[Sc.upAll_app]at hone
  (repeat' first|refine tr_at 3 ?_;(refine k7 1103 ?_)|refine tr_at 5 ?_;(refine j1 1105 ?_)|refine tr_at 7 ?_;(refine j1 1107 ?_)|refine tr_at 42 ?_;refine y_callE (hc:=hone) ?_|refine tr_at 9 ?_;(refine j1 1109 ?_)|refine tr_at 11 ?_;(refine j1 1111 ?_)|refine tr_at 13 ?_;(refine j1 1113 ?_)|refine yyp ?_;try refine s_bu ?_ ?_<;>intro hb|refine yy ?_|refine yy2 ?_ ?_<;>intro hcmp|refine at_lookup ?_;(first|(refine s_lookup_d rfl rfl rfl rfl (by first|exact Comp.int ..|exact Comp.str ..|exact Comp.agg (by(repeat (first|exact EqC.nil|apply EqC.int|apply EqC.bool|apply EqC.str));fail_if_success intros)) (ltd rfl) rfl rfl (by(assumption)) (by(simp)) (fun ki kz hki hkz hkf=>?_) (fun hmiss=>?_))|(refine jc7 rfl rfl rfl rfl rfl (by first|exact Comp.int ..|exact Comp.str ..|exact Comp.agg (by(repeat (first|exact EqC.nil|apply EqC.int|apply EqC.bool|apply EqC.str));fail_if_success intros)) (ltd rfl) rfl rfl (by(assumption)) (by(simp)) (fun ki kz hki hkz hkf=>?_) (fun hmiss=>?_)))|refine jc8 rfl rfl rfl rfl rfl rfl rfl (by first|exact ToD.d _|exact ToD.nils _|exact ToD.own rfl) (by first|exact Comp.int ..|exact Comp.str ..|exact Comp.agg (by(repeat (first|exact EqC.nil|apply EqC.int|apply EqC.bool|apply EqC.str));fail_if_success intros)) rfl rfl (by(assumption)) (fun ki hki hkf=>?_) (fun hmiss=>?_)|refine at_nil ?_;refine z_nil jm9 ?_|refine tc_seq fun K hK=>?_|refine j5 4 ?_;refine j2 [8] jc1 ?_|refine j5 14 ?_;refine j2 [8] jc1 ?_|apply_assumption -exfalso -symm)
  refine⟨j+1,by omega,by omega,?_⟩
  rw[jf8 Sc.tagsPr _ _ hj2,Sc.upAll_app]
  exact v7
 obtain rfl:j=p.spec.body.length:=by omega
 rw[List.take_length,<-hL2]
 (repeat' first|refine tr_at 3 ?_;(refine k7 3 ?_)|refine tr_at 5 ?_;(refine j1 5 ?_)|refine tr_at 7 ?_;(refine j1 7 ?_)|refine tr_at 9 ?_;(refine j1 9 ?_)|refine tr_at 11 ?_;(refine j1 11 ?_)|refine tr_at 13 ?_;(refine j1 13 ?_)|refine yyp ?_;try refine s_bu ?_ ?_<;>intro hb|refine yy ?_|refine yy2 ?_ ?_<;>intro hcmp|refine at_lookup ?_;(first|(refine s_lookup_d rfl rfl rfl rfl (by first|exact Comp.int ..|exact Comp.str ..|exact Comp.agg (by(repeat (first|exact EqC.nil|apply EqC.int|apply EqC.bool|apply EqC.str));fail_if_success intros)) (ltd rfl) rfl rfl (by(assumption)) (by(simp)) (fun ki kz hki hkz hkf=>?_) (fun hmiss=>?_))|(refine jc7 rfl rfl rfl rfl rfl (by first|exact Comp.int ..|exact Comp.str ..|exact Comp.agg (by(repeat (first|exact EqC.nil|apply EqC.int|apply EqC.bool|apply EqC.str));fail_if_success intros)) (ltd rfl) rfl rfl (by(assumption)) (by(simp)) (fun ki kz hki hkz hkf=>?_) (fun hmiss=>?_)))|refine jc8 rfl rfl rfl rfl rfl rfl rfl (by first|exact ToD.d _|exact ToD.nils _|exact ToD.own rfl) (by first|exact Comp.int ..|exact Comp.str ..|exact Comp.agg (by(repeat (first|exact EqC.nil|apply EqC.int|apply EqC.bool|apply EqC.str));fail_if_success intros)) rfl rfl (by(assumption)) (fun ki hki hkf=>?_) (fun hmiss=>?_)|refine at_nil ?_;refine z_nil jm9 ?_|refine tc_seq fun K hK=>?_|refine j5 4 ?_;refine j2 [8] jc1 ?_|refine j5 14 ?_;refine j2 [8] jc1 ?_|apply_assumption -exfalso -symm)
 rw[jg4]
 refine r7 45 rfl fun hsm4=>?_
 simp only[List.length_map]at hsm4
 refine k9 ([1,34,35,36,37]++[9,11,47,48,49,50,51,52,53,54,55,56,57,58,59,60,61,62,63,64,65,66,67,68,69,70]) [902] (fun j:Nat=>[(47,.d (.int .i64 j))]) (fun j=>[(902,.map (Sc.tkK (Sc.upAll (Sc.upAll (Sc.upAll σ.tk L1) L2) ((p.guards.take j).flatMap Sc.tagsGu))) (Sc.tkV (Sc.upAll (Sc.upAll (Sc.upAll σ.tk L1) L2) ((p.guards.take j).flatMap Sc.tagsGu))))]) (fun j=>j<=p.guards.length) (fun j=>p.guards.length - j) 0 (Nat.zero_le _) fun j hj=>?_
 dsimp only[List.cons_append,List.nil_append]
 rcases Nat.lt_or_ge j p.guards.length with hj2|hj2
 ·have hgl:=kf7 Sc.tagsGu p.guards (j+1)
  have hgt:Sc.tagsGu p.guards[j]=p.guards[j].name::p.guards[j].body.flatMap Sc.tagsPr:=by
   cases p.guards[j]
   simp only[Sc.tagsGu,kr0,Gu.name,Gu.body]
  rw[jf8 Sc.tagsGu _ _ hj2,<-hL3,List.length_append,hgt,List.length_cons]at hgl
  have hc1:=hcnt (L1++(L2++(p.guards.take j).flatMap Sc.tagsGu)) p.guards[j].name (by rw[List.length_append,List.length_append];omega)
  simp only[Sc.upAll_app]at hc1
  (repeat' first|refine tr_at 3 ?_;(refine k7 1103 ?_)|refine tr_at 5 ?_;(refine j1 1105 ?_)|refine tr_at 7 ?_;(refine j1 1107 ?_)|refine tr_at 9 ?_;(refine j1 1109 ?_)|refine tr_at 57 ?_;(refine jn0 ?_)|refine jq4 8 ?_;(refine jn1 ?_)|refine tr_at 11 ?_;(refine j1 1111 ?_)|refine tr_at 13 ?_;(refine j1 1113 ?_)|refine yyp ?_;try refine s_bu ?_ ?_<;>intro hb|refine yy ?_|refine yy2 ?_ ?_<;>intro hcmp|refine at_lookup ?_;(first|(refine s_lookup_d rfl rfl rfl rfl (by first|exact Comp.int ..|exact Comp.str ..|exact Comp.agg (by(repeat (first|exact EqC.nil|apply EqC.int|apply EqC.bool|apply EqC.str));fail_if_success intros)) (ltd rfl) rfl rfl (by(assumption)) (by(simp)) (fun ki kz hki hkz hkf=>?_) (fun hmiss=>?_))|(refine jc7 rfl rfl rfl rfl rfl (by first|exact Comp.int ..|exact Comp.str ..|exact Comp.agg (by(repeat (first|exact EqC.nil|apply EqC.int|apply EqC.bool|apply EqC.str));fail_if_success intros)) (ltd rfl) rfl rfl (by(assumption)) (by(simp)) (fun ki kz hki hkz hkf=>?_) (fun hmiss=>?_)))|refine jc8 rfl rfl rfl rfl rfl rfl rfl (by first|exact ToD.d _|exact ToD.nils _|exact ToD.own rfl) (by first|exact Comp.int ..|exact Comp.str ..|exact Comp.agg (by(repeat (first|exact EqC.nil|apply EqC.int|apply EqC.bool|apply EqC.str));fail_if_success intros)) rfl rfl (by(assumption)) (fun ki hki hkf=>?_) (fun hmiss=>?_)|refine at_nil ?_;refine z_nil jm9 ?_|refine tc_seq fun K hK=>?_|refine j5 4 ?_;refine j2 [8] jc1 ?_|refine j5 14 ?_;refine j2 [8] jc1 ?_|apply_assumption -exfalso -symm)
  rw[x5]
  refine r7 60 rfl fun hsm6=>?_
  simp only[List.length_map]at hsm6
  refine k9 ([52,53,54,55,56,57,58,51]++[11,62,63,64,65,66,67,68,69]) [902] (fun i:Nat=>[(62,.d (.int .i64 i))]) (fun i=>[(902,.map (Sc.tkK (Sc.upAll (Sc.upTk (Sc.upAll (Sc.upAll (Sc.upAll σ.tk L1) L2) ((p.guards.take j).flatMap Sc.tagsGu)) p.guards[j].name) ((p.guards[j].body.take i).flatMap Sc.tagsPr))) (Sc.tkV (Sc.upAll (Sc.upTk (Sc.upAll (Sc.upAll (Sc.upAll σ.tk L1) L2) ((p.guards.take j).flatMap Sc.tagsGu)) p.guards[j].name) ((p.guards[j].body.take i).flatMap Sc.tagsPr))))]) (fun i=>i<=p.guards[j].body.length) (fun i=>p.guards[j].body.length - i) 0 (Nat.zero_le _) fun i hi=>?_
  dsimp only[List.cons_append,List.nil_append]
  rcases Nat.lt_or_ge i p.guards[j].body.length with hi2|hi2
  ·have hone:=ih p.guards[j].body[i] (.inr (.inr ⟨p.guards[j],List.getElem_mem hj2,List.getElem_mem hi2⟩)) (L1++(L2++((p.guards.take j).flatMap Sc.tagsGu++([p.guards[j].name]++(p.guards[j].body.take i).flatMap Sc.tagsPr)))) (by
    have h1:=kf7 Sc.tagsPr p.guards[j].body (i+1)
    rw[jf8 Sc.tagsPr _ _ hi2,List.length_append]at h1
    simp only[List.length_append,List.length_cons,List.length_nil]
    omega)
   simp only[Sc.upAll_app]at hone
   (repeat' first|refine tr_at 3 ?_;(refine k7 1203 ?_)|refine tr_at 5 ?_;(refine j1 1205 ?_)|refine tr_at 7 ?_;(refine j1 1207 ?_)|refine tr_at 9 ?_;(refine j1 1209 ?_)|refine tr_at 11 ?_;(refine j1 1211 ?_)|refine tr_at 68 ?_;refine y_callE (hc:=hone) ?_|refine tr_at 13 ?_;(refine j1 1213 ?_)|refine yyp ?_;try refine s_bu ?_ ?_<;>intro hb|refine yy ?_|refine yy2 ?_ ?_<;>intro hcmp|refine at_lookup ?_;(first|(refine s_lookup_d rfl rfl rfl rfl (by first|exact Comp.int ..|exact Comp.str ..|exact Comp.agg (by(repeat (first|exact EqC.nil|apply EqC.int|apply EqC.bool|apply EqC.str));fail_if_success intros)) (ltd rfl) rfl rfl (by(assumption)) (by(simp)) (fun ki kz hki hkz hkf=>?_) (fun hmiss=>?_))|(refine jc7 rfl rfl rfl rfl rfl (by first|exact Comp.int ..|exact Comp.str ..|exact Comp.agg (by(repeat (first|exact EqC.nil|apply EqC.int|apply EqC.bool|apply EqC.str));fail_if_success intros)) (ltd rfl) rfl rfl (by(assumption)) (by(simp)) (fun ki kz hki hkz hkf=>?_) (fun hmiss=>?_)))|refine jc8 rfl rfl rfl rfl rfl rfl rfl (by first|exact ToD.d _|exact ToD.nils _|exact ToD.own rfl) (by first|exact Comp.int ..|exact Comp.str ..|exact Comp.agg (by(repeat (first|exact EqC.nil|apply EqC.int|apply EqC.bool|apply EqC.str));fail_if_success intros)) rfl rfl (by(assumption)) (fun ki hki hkf=>?_) (fun hmiss=>?_)|refine at_nil ?_;refine z_nil jm9 ?_|refine tc_seq fun K hK=>?_|refine j5 4 ?_;refine j2 [8] jc1 ?_|refine j5 14 ?_;refine j2 [8] jc1 ?_|apply_assumption -exfalso -symm)
   refine⟨i+1,by omega,by omega,?_⟩
   rw[jf8 Sc.tagsPr _ _ hi2,Sc.upAll_app]
   exact v7
  obtain rfl:i=p.guards[j].body.length:=by omega
  rw[List.take_length]
  (repeat' first|refine tr_at 3 ?_;(refine k7 3 ?_)|refine tr_at 5 ?_;(refine j1 5 ?_)|refine tr_at 7 ?_;(refine j1 7 ?_)|refine tr_at 9 ?_;(refine j1 9 ?_)|refine tr_at 11 ?_;(refine j1 11 ?_)|refine tr_at 13 ?_;(refine j1 13 ?_)|refine yyp ?_;try refine s_bu ?_ ?_<;>intro hb|refine yy ?_|refine yy2 ?_ ?_<;>intro hcmp|refine at_lookup ?_;(first|(refine s_lookup_d rfl rfl rfl rfl (by first|exact Comp.int ..|exact Comp.str ..|exact Comp.agg (by(repeat (first|exact EqC.nil|apply EqC.int|apply EqC.bool|apply EqC.str));fail_if_success intros)) (ltd rfl) rfl rfl (by(assumption)) (by(simp)) (fun ki kz hki hkz hkf=>?_) (fun hmiss=>?_))|(refine jc7 rfl rfl rfl rfl rfl (by first|exact Comp.int ..|exact Comp.str ..|exact Comp.agg (by(repeat (first|exact EqC.nil|apply EqC.int|apply EqC.bool|apply EqC.str));fail_if_success intros)) (ltd rfl) rfl rfl (by(assumption)) (by(simp)) (fun ki kz hki hkz hkf=>?_) (fun hmiss=>?_)))|refine jc8 rfl rfl rfl rfl rfl rfl rfl (by first|exact ToD.d _|exact ToD.nils _|exact ToD.own rfl) (by first|exact Comp.int ..|exact Comp.str ..|exact Comp.agg (by(repeat (first|exact EqC.nil|apply EqC.int|apply EqC.bool|apply EqC.str));fail_if_success intros)) rfl rfl (by(assumption)) (fun ki hki hkf=>?_) (fun hmiss=>?_)|refine at_nil ?_;refine z_nil jm9 ?_|refine tc_seq fun K hK=>?_|refine j5 4 ?_;refine j2 [8] jc1 ?_|refine j5 14 ?_;refine j2 [8] jc1 ?_|apply_assumption -exfalso -symm)
  refine⟨j+1,by omega,by omega,?_⟩
  rw[jf8 Sc.tagsGu _ _ hj2,Sc.upAll_app,hgt]
  exact v7
 obtain rfl:j=p.guards.length:=by omega
 rw[List.take_length,<-hL3]
 (repeat' first|refine tr_at 3 ?_;(refine k7 3 ?_)|refine tr_at 5 ?_;(refine j1 5 ?_)|refine tr_at 7 ?_;(refine j1 7 ?_)|refine tr_at 9 ?_;(refine j1 9 ?_)|refine tr_at 11 ?_;(refine j1 11 ?_)|refine tr_at 13 ?_;(refine j1 13 ?_)|refine yyp ?_;try refine s_bu ?_ ?_<;>intro hb|refine yy ?_|refine yy2 ?_ ?_<;>intro hcmp|refine at_lookup ?_;(first|(refine s_lookup_d rfl rfl rfl rfl (by first|exact Comp.int ..|exact Comp.str ..|exact Comp.agg (by(repeat (first|exact EqC.nil|apply EqC.int|apply EqC.bool|apply EqC.str));fail_if_success intros)) (ltd rfl) rfl rfl (by(assumption)) (by(simp)) (fun ki kz hki hkz hkf=>?_) (fun hmiss=>?_))|(refine jc7 rfl rfl rfl rfl rfl (by first|exact Comp.int ..|exact Comp.str ..|exact Comp.agg (by(repeat (first|exact EqC.nil|apply EqC.int|apply EqC.bool|apply EqC.str));fail_if_success intros)) (ltd rfl) rfl rfl (by(assumption)) (by(simp)) (fun ki kz hki hkz hkf=>?_) (fun hmiss=>?_)))|refine jc8 rfl rfl rfl rfl rfl rfl rfl (by first|exact ToD.d _|exact ToD.nils _|exact ToD.own rfl) (by first|exact Comp.int ..|exact Comp.str ..|exact Comp.agg (by(repeat (first|exact EqC.nil|apply EqC.int|apply EqC.bool|apply EqC.str));fail_if_success intros)) rfl rfl (by(assumption)) (fun ki hki hkf=>?_) (fun hmiss=>?_)|refine at_nil ?_;refine z_nil jm9 ?_|refine tc_seq fun K hK=>?_|refine j5 4 ?_;refine j2 [8] jc1 ?_|refine j5 14 ?_;refine j2 [8] jc1 ?_|apply_assumption -exfalso -symm)
 refine r7 72 rfl fun hsm8=>?_
 simp only[List.length_map]at hsm8
 refine k9 ([1,45,46,47,48]++[13,74,75,76,77,78,79,80,81]) [902] (fun j:Nat=>[(74,.d (.int .i64 j))]) (fun j=>[(902,.map (Sc.tkK (Sc.upAll (Sc.upAll (Sc.upAll (Sc.upAll σ.tk L1) L2) L3) ((p.l.take j).flatMap Sc.tagsPr))) (Sc.tkV (Sc.upAll (Sc.upAll (Sc.upAll (Sc.upAll σ.tk L1) L2) L3) ((p.l.take j).flatMap Sc.tagsPr))))]) (fun j=>j<=p.l.length) (fun j=>p.l.length - j) 0 (Nat.zero_le _) fun j hj=>?_
 dsimp only[List.cons_append,List.nil_append]
 rcases Nat.lt_or_ge j p.l.length with hj2|hj2
 ·have hone:=ih p.l[j] (.inl (List.getElem_mem hj2)) (L1++(L2++(L3++(p.l.take j).flatMap Sc.tagsPr))) (by
   have h1:=kf7 Sc.tagsPr p.l (j+1)
   rw[jf8 Sc.tagsPr _ _ hj2,<-hL4,List.length_append]at h1
   simp only[List.length_append]
   omega)
  simp only[Sc.upAll_app]at hone
  (repeat' first|refine tr_at 3 ?_;(refine k7 1103 ?_)|refine tr_at 5 ?_;(refine j1 1105 ?_)|refine tr_at 7 ?_;(refine j1 1107 ?_)|refine tr_at 9 ?_;(refine j1 1109 ?_)|refine tr_at 11 ?_;(refine j1 1111 ?_)|refine tr_at 13 ?_;(refine j1 1113 ?_)|refine tr_at 80 ?_;refine y_callE (hc:=hone) ?_|refine yyp ?_;try refine s_bu ?_ ?_<;>intro hb|refine yy ?_|refine yy2 ?_ ?_<;>intro hcmp|refine at_lookup ?_;(first|(refine s_lookup_d rfl rfl rfl rfl (by first|exact Comp.int ..|exact Comp.str ..|exact Comp.agg (by(repeat (first|exact EqC.nil|apply EqC.int|apply EqC.bool|apply EqC.str));fail_if_success intros)) (ltd rfl) rfl rfl (by(assumption)) (by(simp)) (fun ki kz hki hkz hkf=>?_) (fun hmiss=>?_))|(refine jc7 rfl rfl rfl rfl rfl (by first|exact Comp.int ..|exact Comp.str ..|exact Comp.agg (by(repeat (first|exact EqC.nil|apply EqC.int|apply EqC.bool|apply EqC.str));fail_if_success intros)) (ltd rfl) rfl rfl (by(assumption)) (by(simp)) (fun ki kz hki hkz hkf=>?_) (fun hmiss=>?_)))|refine jc8 rfl rfl rfl rfl rfl rfl rfl (by first|exact ToD.d _|exact ToD.nils _|exact ToD.own rfl) (by first|exact Comp.int ..|exact Comp.str ..|exact Comp.agg (by(repeat (first|exact EqC.nil|apply EqC.int|apply EqC.bool|apply EqC.str));fail_if_success intros)) rfl rfl (by(assumption)) (fun ki hki hkf=>?_) (fun hmiss=>?_)|refine at_nil ?_;refine z_nil jm9 ?_|refine tc_seq fun K hK=>?_|refine j5 4 ?_;refine j2 [8] jc1 ?_|refine j5 14 ?_;refine j2 [8] jc1 ?_|apply_assumption -exfalso -symm)
  refine⟨j+1,by omega,by omega,?_⟩
  rw[jf8 Sc.tagsPr _ _ hj2,Sc.upAll_app]
  exact v7
 obtain rfl:j=p.l.length:=by omega
 rw[List.take_length,<-hL4]
 (repeat' first|refine tr_at 3 ?_;(refine k7 3 ?_)|refine tr_at 5 ?_;(refine j1 5 ?_)|refine tr_at 7 ?_;(refine j1 7 ?_)|refine tr_at 9 ?_;(refine j1 9 ?_)|refine tr_at 11 ?_;(refine j1 11 ?_)|refine tr_at 13 ?_;(refine j1 13 ?_)|refine yyp ?_;try refine s_bu ?_ ?_<;>intro hb|refine yy ?_|refine yy2 ?_ ?_<;>intro hcmp|refine at_lookup ?_;(first|(refine s_lookup_d rfl rfl rfl rfl (by first|exact Comp.int ..|exact Comp.str ..|exact Comp.agg (by(repeat (first|exact EqC.nil|apply EqC.int|apply EqC.bool|apply EqC.str));fail_if_success intros)) (ltd rfl) rfl rfl (by(assumption)) (by(simp)) (fun ki kz hki hkz hkf=>?_) (fun hmiss=>?_))|(refine jc7 rfl rfl rfl rfl rfl (by first|exact Comp.int ..|exact Comp.str ..|exact Comp.agg (by(repeat (first|exact EqC.nil|apply EqC.int|apply EqC.bool|apply EqC.str));fail_if_success intros)) (ltd rfl) rfl rfl (by(assumption)) (by(simp)) (fun ki kz hki hkz hkf=>?_) (fun hmiss=>?_)))|refine jc8 rfl rfl rfl rfl rfl rfl rfl (by first|exact ToD.d _|exact ToD.nils _|exact ToD.own rfl) (by first|exact Comp.int ..|exact Comp.str ..|exact Comp.agg (by(repeat (first|exact EqC.nil|apply EqC.int|apply EqC.bool|apply EqC.str));fail_if_success intros)) rfl rfl (by(assumption)) (fun ki hki hkf=>?_) (fun hmiss=>?_)|refine at_nil ?_;refine z_nil jm9 ?_|refine tc_seq fun K hK=>?_|refine j5 4 ?_;refine j2 [8] jc1 ?_|refine j5 14 ?_;refine j2 [8] jc1 ?_|apply_assumption -exfalso -symm)
 rw[hTp]
 simp only[Sc.upAll_app]
 exact je5 ⟨rfl,rfl⟩
theorem qj5:∀ (n:Nat) (p:Pr),SizeOf.sizeOf p<=n->∀ (σ:Sc.W) (B:Int),0<=B->Sc.tkIn σ.tk B->B+(Sc.tagsPr p).length<1000000000000000000->
 FnE prog (glS mm) 43 [.ptr 900 0,.d (dPr p)] (HW .none σ) (fun v H1=>v=.tup []/\H1=HW .none {σ with tk:=Sc.upAll σ.tk (Sc.tagsPr p)}):=by
 intro n
 induction n with
 |zero=>intro p h;cases p;simp only[Pr.mk.sizeOf_spec]at h;omega
 |succ n ih=>
  intro p hp σ B hB hin hr
  refine qj4 p σ B hB hin hr fun x hx L hL=>?_
  have hxs:SizeOf.sizeOf x<=n:=by
   rcases hx with hx|hx|⟨g,hg,hx⟩
   ·have:=qn9 hx;omega
   ·have:=qo1 hx;omega
   ·have:=qo0 hg hx;omega
  have h:=ih x hxs {σ with tk:=Sc.upAll σ.tk L} (B+L.length) (by omega) (Sc.upAll_in L hB hin) (by omega)
  rw[Sc.upAll_app]
  exact h
end
section
def qs45_0:List Nat:=[0,1,2,3,4,5,6,7,8,10,17,27,31,32,33,34,45]
variable {mm:Int}
namespace Sc
noncomputable def takenOf (p:Pr):List (ByteArray × Int):=upAll (upAll [] (freeOf p)) (tagsPr p)
noncomputable def uniqOf (p:Pr):Pr:=(prOf (start (takenOf p)) p).1
structure Can (p:Pr):Prop where
 ok:okPr p
 cap:kq5 p
 fit0:(start []).fit (prN p+1)
 fit1:(start (takenOf p)).fit (prN p+1)
 tags:(freeOf p).length+(tagsPr p).length<100000000000000000
end Sc
attribute [local irreducible] TR TC
theorem mx3 (p:Pr)(hw:Lx.prMay p=true->Sc.Can p):
 FnD prog (glS mm) 18 [.d (dPr p)] (fun v=>v=.tup [.d (dPr (if Lx.prMay p=true/\(Sc.checkOf p (Sc.freeOf p)).2=0 then Sc.uniqOf p else pr0)),.d (.int .i64 (if Lx.prMay p=true then (Sc.checkOf p (Sc.freeOf p)).2 else 2))]):=by
 have c1:=mx1 (mm:=mm) p fun h=>⟨(hw h).ok,(hw h).cap,(hw h).fit0⟩
 have c2:=mh0 (mm:=mm) p (Sc.freeOf p) fun h=>⟨(hw h).ok,(hw h).cap,(hw h).fit0⟩
 by_cases hm:Lx.prMay p=true
 ·have hc:=hw hm
  rw[if_pos hm]at c1 c2 ⊢
  rw[if_pos hm]at c1 c2
  by_cases he:(Sc.checkOf p (Sc.freeOf p)).2=0
  ·rw[if_pos ⟨hm,he⟩]
   rw[he]at c2 ⊢
   have hft:=hc.tags
   have c3:=jm8 (glS mm) .none []
   have hin0:Sc.tkIn ([]:List (ByteArray × Int)) 0:=fun x hx=>by cases hx
   have hin:=Sc.upAll_in (Sc.freeOf p) (Int.le_refl 0) hin0
   have c4:=qj5 (mm:=mm) _ p (Nat.le_refl _) (Sc.start (Sc.upAll [] (Sc.freeOf p))) (0+(Sc.freeOf p).length) (by omega) hin (by omega)
   have c5:=kq8 (mm:=mm) .none _ p (Nat.le_refl _) hc.ok hc.cap (Sc.start (Sc.takenOf p)) hc.fit1
   have hcnt:∀ (L:List ByteArray) (s:ByteArray),0<=Sc.cntTk (Sc.upAll [] L) s/\Sc.cntTk (Sc.upAll [] L) s<=L.length:=fun L s=>by
    have:=Sc.cnt_in s (by omega:(0:Int)<=0+L.length) (Sc.upAll_in L (Int.le_refl 0) hin0)
    omega
   dsimp only[HW,ja2,l9,Sc.start]at c3 c4 c5
   rw[show Sc.upAll (Sc.upAll [] (Sc.freeOf p)) (Sc.tagsPr p)=Sc.takenOf p from rfl]at c4
   have hU:Sc.uniqOf p=(Sc.prOf {env:=fun _=>[],tk:=Sc.takenOf p,count:=0,ev:=[]} p).1:=rfl
   rw[hU]
   obtain⟨r,hr⟩:∃ r,r=Sc.prOf {env:=fun _=>[],tk:=Sc.takenOf p,count:=0,ev:=[]} p:=⟨_,rfl⟩
   rw[<-hr]at c5 ⊢
   clear hr hU hw hin hc
   simp only[x5]at c1 c2 c4 c5 ⊢
   (refine j4 func18 ntmps18 results18 fun w M=>?_)
   (repeat' first|refine tr_at 1 ?_;(refine k7 1001 ?_)|refine tr_at 2 ?_;(refine j1 1002 ?_)|refine tr_at 30 ?_;refine y_callE (hc:=c3) ?_|refine yyp ?_;try refine s_bu ?_ ?_<;>intro hb|refine yy ?_|refine at_call 12 ?_;refine y_call (hc:=c1) ?_|refine at_call 15 ?_;refine y_call (hc:=c2) ?_|refine at_nil ?_;refine z_nil qs45_0 ?_|refine tc_seq fun K hK=>?_|apply_assumption -exfalso -symm)
   refine r7 31 rfl fun hsm=>?_
   simp only[List.length_map]at hsm
   refine k9 [10,33,34,35,36,37,38,39,40,41,42,43,44] [902] (fun j:Nat=>[(33,.d (.int .i64 j))]) (fun j=>[(902,.map (Sc.tkK (Sc.upAll [] ((Sc.freeOf p).take j))) (Sc.tkV (Sc.upAll [] ((Sc.freeOf p).take j))))]) (fun j=>j<=(Sc.freeOf p).length) (fun j=>(Sc.freeOf p).length - j) 0 (Nat.zero_le _) fun j hj=>?_
   dsimp only[List.cons_append,List.nil_append]
   rcases Nat.lt_or_ge j (Sc.freeOf p).length with hj2|hj2
   ·have hc1:=hcnt ((Sc.freeOf p).take j) (Sc.freeOf p)[j]
    rw[List.length_take]at hc1
    (repeat' first|refine tr_at 42 ?_;(refine jn0 ?_)|refine jq4 7 ?_;(refine jn1 ?_)|refine yyp ?_;try refine s_bu ?_ ?_<;>intro hb|refine yy ?_|refine at_nil ?_;refine z_nil qs45_0 ?_|refine tc_seq fun K hK=>?_|apply_assumption -exfalso -symm)
    refine⟨j+1,by omega,by omega,?_⟩
    rw[List.take_succ_eq_append_getElem hj2,Sc.upAll_snoc]
    exact v7
   obtain rfl:j=(Sc.freeOf p).length:=by omega
   rw[List.take_length]
   (repeat' first|refine tr_at 47 ?_;refine y_callE (hc:=c4) ?_|refine tr_at 50 ?_;refine y_callE (hc:=c5) ?_|refine yyp ?_;try refine s_bu ?_ ?_<;>intro hb|refine yy ?_|refine at_nil ?_;refine z_nil qs45_0 ?_|refine tc_seq fun K hK=>?_|apply_assumption -exfalso -symm)
   (refine j0 (j6 ?_))
   rfl
  ·rw[if_neg fun h=>he h.2]
   simp only[x5]at c1 c2 ⊢
   (refine j4 func18 ntmps18 results18 fun w M=>?_)
   (repeat' first|refine tr_at 1 ?_;(refine k7 1001 ?_)|refine tr_at 2 ?_;(refine j1 1002 ?_)|refine tr_at 28 ?_;refine z_p w_buildn ?_|refine yyp ?_;try refine s_bu ?_ ?_<;>intro hb|refine yy ?_|refine at_call 12 ?_;refine y_call (hc:=c1) ?_|refine at_call 15 ?_;refine y_call (hc:=c2) ?_|refine at_nil ?_;refine z_nil qs45_0 ?_|refine tc_seq fun K hK=>?_|apply_assumption -exfalso -symm)
   all_goals first
    |(exfalso;exact he (by assumption))
    |((refine j0 (j6 ?_))
      rfl)
 ·rw[if_neg hm]at c1
  rw[if_neg hm]at c1
  rw[if_neg fun h=>hm h.1,if_neg hm]
  simp only[x5]at c1 ⊢
  (refine j4 func18 ntmps18 results18 fun w M=>?_)
  (repeat' first|refine tr_at 1 ?_;(refine k7 1001 ?_)|refine tr_at 2 ?_;(refine j1 1002 ?_)|refine tr_at 18 ?_;refine z_p w_buildn ?_|refine yyp ?_;try refine s_bu ?_ ?_<;>intro hb|refine yy ?_|refine at_call 12 ?_;refine y_call (hc:=c1) ?_|refine at_nil ?_;refine z_nil qs45_0 ?_|refine tc_seq fun K hK=>?_|apply_assumption -exfalso -symm)
  all_goals first
   |((refine j0 (j6 ?_))
     rfl)
end
section
variable {mm:Int}
namespace Sc
noncomputable def errOf (p:Pr):Int:=if Lx.prMay p=true then (checkOf p (freeOf p)).2 else 2
open Classical in
noncomputable def unOf (p:Pr):Pr:=if Lx.prMay p=true/\(checkOf p (freeOf p)).2=0 then uniqOf p else pr0
end Sc
theorem jx2 (p:Pr)(hw:Lx.prMay p=true->Sc.Can p):FnD prog (glS mm) 18 [.d (dPr p)] (fun v=>v=.tup [.d (dPr (Sc.unOf p)),.d (.int .i64 (Sc.errOf p))]):=by
 have h:=mx3 (mm:=mm) p hw
 unfold Sc.unOf Sc.errOf
 by_cases h1:Lx.prMay p=true/\(Sc.checkOf p (Sc.freeOf p)).2=0
 ·rw[if_pos h1]at h ⊢
  exact h
 ·rw[if_neg h1]at h ⊢
  exact h
attribute [local irreducible] TR TC
theorem qj6 (a b:Pr)(ha:Lx.prMay a=true->Sc.Can a)(hb':Lx.prMay b=true->Sc.Can b):
 FnD prog (glS mm) 20 [.d (dPr a),.d (dPr b)] (fun v=>v=.d (.bool (decide (Sc.errOf a=0) && (decide (Sc.errOf b=0) && eqB (Sc.unOf a) (Sc.unOf b))))):=by
 have c1:=jx2 (mm:=mm) a ha
 have c2:=jx2 (mm:=mm) b hb'
 have c3:=mu5 (glS mm) _ (Sc.unOf a) (Sc.unOf b) (Nat.le_refl _)
 clear ha hb'
 obtain⟨x,hx⟩:∃ x,x=Sc.unOf a:=⟨_,rfl⟩
 obtain⟨y,hy⟩:∃ y,y=Sc.unOf b:=⟨_,rfl⟩
 obtain⟨e,he⟩:∃ e,e=Sc.errOf a:=⟨_,rfl⟩
 obtain⟨f,hf⟩:∃ f,f=Sc.errOf b:=⟨_,rfl⟩
 rw[<-hx,<-he]at c1
 rw[<-hy,<-hf]at c2
 rw[<-hx,<-hy]at c3 ⊢
 rw[<-he,<-hf]
 clear hx hy he hf
 simp only[x5]at c1 c2 c3 ⊢
 (refine j4 func20 ntmps20 results20 fun w M=>?_)
 (repeat' first|refine tr_at 2 ?_;(refine k7 1002 ?_)|refine tr_at 3 ?_;(refine k7 1003 ?_)|refine tr_at 5 ?_;(refine j1 1005 ?_)|refine tr_at 7 ?_;(refine j1 1007 ?_)|refine yyp ?_;try refine s_bu ?_ ?_<;>intro hb|refine yy ?_|refine yy2 ?_ ?_<;>intro hcmp|refine at_call 18 ?_;refine y_call (hc:=c1) ?_|refine at_call 18 ?_;refine y_call (hc:=c2) ?_|refine at_call 49 ?_;refine y_call (hc:=c3) ?_;try refine s_bu ?_ ?_<;>intro hb|refine at_nil ?_;refine z_nil [0,1,2,3,4,5,6,7,8] ?_|refine tc_seq fun K hK=>?_|apply_assumption -exfalso -symm)
 all_goals first
  |((refine j0 (j6 ?_))
    simp[oneOf, *])
end
section
namespace Sc
open Lx
mutual
theorem km1:∀ (e:Ex) (deep left:Int),(visitOf deep left e).1=true->(exN e:Int)+(visitOf deep left e).2<=left/\0<=(visitOf deep left e).2
 |.mk kind op ty n s l,deep,left,h=>by
  rw[visitOf]at h ⊢
  split at h
  ·cases h
  ·rename_i hc
   rw[if_neg hc]
   have:=kf8 l (deep+1) (left - 1) (by simp only[not_or]at hc;omega) h
   simp only[exN]
   omega
theorem kf8:∀ (l:List Ex) (deep left:Int),0<=left->(visitsOf deep left l).1=true->(exsN l:Int)+(visitsOf deep left l).2<=left/\0<=(visitsOf deep left l).2
 |[],deep,left,h0,h=>by
  rw[visitsOf]
  simp only[exsN]
  omega
 |e::l,deep,left,h0,h=>by
  rw[visitsOf]at h ⊢
  split at h
  ·rename_i hc
   rw[if_pos hc]
   have h1:=km1 e deep left hc
   have h2:=kf8 l deep _ h1.2 h
   simp only[exsN]
   omega
  ·rename_i hc
   exact absurd h hc
end
theorem ji6 {e:Ex}(h:exMay e=true):exN e<=256:=by
 have:=km1 e 1 256 h
 omega
theorem jc6 {e:Ex}(h:noneB e=true):exN e<=256:=by
 unfold noneB at h
 rw[j9]at h
 subst h
 simp[ex0,exN,exsN]
theorem jn2 {e:Ex}(h:elemB e=true):exN e<=256:=by
 unfold elemB at h
 rw[Bool.and_eq_true]at h
 exact ji6 h.2
theorem kx7:∀ {l:List Ex},(∀ x∈l,exN x<=256)->exsN l<=256 * l.length
 |[],_=>Nat.le_refl _
 |e::l,h=>by
  have h1:=h e (List.mem_cons_self ..)
  have h2:=kx7 (l:=l) fun x hx=>h x (List.mem_cons_of_mem _ hx)
  simp only[exsN,List.length_cons]
  omega
theorem ju0 {l:List Ex}{a b:Int}{f:Ex->Bool}{m:Nat}(h:eachB l a b f=true)(hf:∀ e,f e=true->exN e<=256)(hb:b<=m):exsN l<=256 * m:=by
 unfold eachB hasB at h
 simp only[Bool.and_eq_true,decide_eq_true_eq,List.all_eq_true]at h
 have h1:=kx7 fun x hx=>hf x (h.2 x hx)
 omega
theorem mx4 (k:Int):(usesOf k).1.t1<=8/\(usesOf k).1.e1<=9/\(usesOf k).1.g1<=16:=by
 unfold usesOf
 by_cases c0:k=1\/k=2
 ·rw[if_pos c0];simp[uses0]
 rw[if_neg c0]
 by_cases c1:k=3
 ·rw[if_pos c1];simp[uses0]
 rw[if_neg c1]
 by_cases c2:k=4
 ·rw[if_pos c2];simp[uses0]
 rw[if_neg c2]
 by_cases c3:k=5
 ·rw[if_pos c3];simp[uses0]
 rw[if_neg c3]
 by_cases c4:k=6
 ·rw[if_pos c4];simp[uses0]
 rw[if_neg c4]
 by_cases c5:k=7
 ·rw[if_pos c5];simp[uses0]
 rw[if_neg c5]
 by_cases c6:k=8\/k=9
 ·rw[if_pos c6];simp[uses0]
 rw[if_neg c6]
 by_cases c7:k=10
 ·rw[if_pos c7];simp[uses0]
 rw[if_neg c7]
 by_cases c8:k=11
 ·rw[if_pos c8];simp[uses0]
 rw[if_neg c8]
 by_cases c9:k=12\/k=13
 ·rw[if_pos c9];simp[uses0]
 rw[if_neg c9]
 by_cases c10:k=14
 ·rw[if_pos c10];simp[uses0]
 rw[if_neg c10]
 by_cases c11:k=15
 ·rw[if_pos c11];simp[uses0]
 rw[if_neg c11]
 by_cases c12:k=16
 ·rw[if_pos c12];simp[uses0]
 rw[if_neg c12]
 by_cases c13:k=17
 ·rw[if_pos c13];simp[uses0]
 rw[if_neg c13]
 by_cases c14:k=18
 ·rw[if_pos c14];simp[uses0]
 rw[if_neg c14]
 simp[uses0]
theorem kx8 (u:Uses)(r:ByteArray)(h:u.t1<=8/\u.e1<=9/\u.g1<=16):(usesRep u r).t1<=8/\(usesRep u r).e1<=9/\(usesRep u r).g1<=16:=by
 unfold usesRep
 repeat' split
 all_goals simp_all
theorem qu3 {g:Gu}(h:guMay g=true):gheadN g.cond g.chan g.targets g.values g.time<=4864:=by
 unfold guMay at h
 simp only[Bool.and_eq_true]at h
 obtain⟨⟨⟨⟨⟨⟨⟨_,_⟩,h2⟩,_⟩,h3⟩,h4⟩,h5⟩,h6⟩:=h
 have a1:exN g.cond<=256:=by
  split at h2
  ·simp only[Bool.or_eq_true,Bool.and_eq_true]at h2
   rcases h2 with h2|h2
   ·exact ji6 h2
   ·exact jc6 h2.2
  ·exact jc6 h2
 have a2:exN g.chan<=256:=by
  split at h3
  ·exact jn2 h3
  ·exact jc6 h3
 have a3:exN g.time<=256:=by
  split at h4
  ·exact ji6 h4
  ·exact jc6 h4
 have a4:=ju0 (m:=8) h5 (fun e=>jn2) (by split<;>decide)
 have a5:=ju0 (m:=8) h6 (fun e=>ji6) (by split<;>decide)
 unfold gheadN
 omega
theorem qu4 {a b:Int}{n:Nat}(h:hasB a b n=true):(n:Int)<=b:=by
 unfold hasB at h
 simp only[Bool.and_eq_true,decide_eq_true_eq]at h
 exact h.2
theorem ji7 {α:Type}{l:List α}{a b:Int}{f:α->Bool}(h:eachB l a b f=true):(l.length:Int)<=b:=by
 unfold eachB at h
 rw[Bool.and_eq_true]at h
 exact qu4 h.1
theorem qu5 {s:Sp}(h:spMay s=true):s.names.length<=8/\s.formals.length<=8/\exN s.e<=256/\s.proto.l.length<=16:=by
 unfold spMay at h
 by_cases k1:s.kind=1
 ·rw[if_pos k1]at h
  simp only[Bool.and_eq_true,decide_eq_true_eq,j9]at h
  obtain⟨⟨⟨⟨⟨h1,h2⟩,h3⟩,h4⟩,h5⟩,h6⟩:=h
  have:=ji7 h2
  refine⟨by omega,by omega,jc6 h3,?_⟩
  rw[h4];simp[pt0]
 rw[if_neg k1]at h
 by_cases k2:s.kind=2
 ·rw[if_pos k2]at h
  simp only[Bool.and_eq_true,decide_eq_true_eq,j9]at h
  obtain⟨⟨⟨⟨⟨h1,h2⟩,h3⟩,h4⟩,h5⟩,h6⟩:=h
  have:=ji7 h3
  refine⟨by omega,by omega,ji6 h2,?_⟩
  rw[h4];simp[pt0]
 rw[if_neg k2]at h
 by_cases k3:s.kind=3
 ·rw[if_pos k3]at h
  simp only[Bool.and_eq_true,decide_eq_true_eq,j9]at h
  obtain⟨⟨⟨⟨⟨h1,h2⟩,h3⟩,h4⟩,h5⟩,h6⟩:=h
  have:=ji7 h3
  refine⟨by omega,by omega,jn2 h2,?_⟩
  rw[h4];simp[pt0]
 rw[if_neg k3]at h
 by_cases k4:s.kind=4
 ·rw[if_pos k4]at h
  simp only[Bool.and_eq_true,decide_eq_true_eq,j9]at h
  obtain⟨⟨⟨⟨⟨h1,h2⟩,h3⟩,h4⟩,h5⟩,h6⟩:=h
  have:=ji7 h2
  refine⟨by omega,by omega,jc6 h4,?_⟩
  unfold ptMay at h1
  split at h1
  ·simp only[Bool.and_eq_true,decide_eq_true_eq]at h1
   omega
  ·split at h1
   ·rename_i hv
    rw[hv];simp
   ·cases h1
 rw[if_neg k4]at h
 by_cases k5:s.kind=5
 ·rw[if_pos k5]at h
  simp only[Bool.and_eq_true,decide_eq_true_eq,j9]at h
  obtain⟨⟨⟨⟨⟨h1,h2⟩,h3⟩,h4⟩,h5⟩,h6⟩:=h
  have:=ji7 h3
  have:=ji7 h2
  refine⟨by omega,by omega,jc6 h5,?_⟩
  rw[h6];simp[pt0]
 rw[if_neg k5]at h
 cases h
theorem qj7:sp0.names.length<=8/\sp0.formals.length<=8/\exN sp0.e<=256/\sp0.proto.l.length<=16:=by
 refine⟨by decide,by decide,?_,by decide⟩
 simp[sp0,Sp.e,ex0,exN,exsN]
theorem km2 {p:Pr}(h:plainB p=true):pheadN p.chan p.targets p.exprs p.rep<=6000/\(p.spec.names.length<=8/\p.spec.formals.length<=8/\exN p.spec.e<=256/\p.spec.proto.l.length<=16)/\p.guards.length<=16/\(∀ g∈p.guards,guMay g=true)/\p.procs.length<=p.l.length:=by
 unfold plainB at h
 have hu:=kx8 _ p.rep.name (mx4 p.kind)
 simp only[Bool.and_eq_true]at h
 obtain⟨⟨⟨_,h2⟩,_⟩,⟨⟨⟨⟨⟨⟨⟨_,h5⟩,_⟩,h7⟩,h8⟩,h9⟩,h10⟩,h11⟩⟩:=h
 have a1:repN p.rep<=513:=by
  unfold repMay at h2
  unfold repN
  split at h2
  ·simp only[Bool.and_eq_true]at h2
   have:=jc6 h2.1
   have:=jc6 h2.2
   omega
  ·simp only[Bool.and_eq_true]at h2
   have:=ji6 h2.1.2
   have:=ji6 h2.2
   omega
 have a2:exN p.chan<=256:=by
  split at h7
  ·exact jn2 h7
  ·exact jc6 h7
 have a3:=ju0 (m:=8) h8 (fun e=>jn2) (by omega)
 have a4:=ju0 (m:=9) h9 (fun e=>ji6) (by omega)
 refine⟨by unfold pheadN;omega,?_,?_,?_,?_⟩
 ·split at h11
  ·exact qu5 h11
  ·rw[j9]at h11
   rw[h11]
   exact qj7
 ·have:=ji7 h5
  omega
 ·intro g hg
  unfold eachB at h5
  simp only[Bool.and_eq_true,List.all_eq_true]at h5
  exact(h5.2 g hg).2
 ·have:=ji7 h10
  split at this<;>omega
end Sc
end
section
namespace Sc
open Lx
mutual
theorem pr_size:∀ p:Pr,ju3 p->prN p<=90000 * sizePr p/\(tagsPr p).length<=32 * sizePr p
 |.mk kind name chan targets exprs rep guards l procs (.mk sk st sn se spp sf sb),h=>by
  simp only[ju3]at h
  obtain⟨h1,h2,h3,h4⟩:=h
  obtain⟨a1,⟨a2,a3,a4,a5⟩,a6,a7,_⟩:=km2 h1
  simp only[Pr.chan,Pr.targets,Pr.exprs,Pr.rep,Pr.spec,Pr.guards,Sp.names,Sp.formals,Sp.e,Sp.proto]at a1 a2 a3 a4 a5 a6 a7
  have b1:=ka9 sb h2
  have b2:=mh2 guards a7 h3
  have b3:=ka9 l h4
  simp only[prN,tagsPr,sizePr,List.length_append,List.length_map]
  omega
theorem ka9:∀ l:List Pr,jc2 l->prsN l<=90000 * sizePrs l/\(tagsPrs l).length<=32 * sizePrs l
 |[],_=>⟨Nat.le_refl _,Nat.le_refl _⟩
 |p::l,h=>by
  simp only[jc2]at h
  have h1:=pr_size p h.1
  have h2:=ka9 l h.2
  simp only[prsN,tagsPrs,sizePrs,List.length_append]
  omega
theorem mh2:∀ l:List Gu,(∀ g∈l,guMay g=true)->jh7 l->gusN l<=4864 * l.length+90000 * sizeGus l/\(tagsGus l).length<=l.length+32 * sizeGus l
 |[],_,_=>⟨Nat.le_refl _,Nat.le_refl _⟩
 |.mk kind name cond chan targets values time body::l,hm,h=>by
  simp only[jh7]at h
  have h0:=qu3 (hm _ (List.mem_cons_self ..))
  simp only[Gu.cond,Gu.chan,Gu.targets,Gu.values,Gu.time]at h0
  have h1:=ka9 body h.1
  have h2:=mh2 l (fun g hg=>hm g (List.mem_cons_of_mem _ hg)) h.2
  simp only[gusN,guN,tagsGus,tagsGu,sizeGus,List.length_append,List.length_cons]
  omega
end
theorem kx9:∀ (pre l:List Va),vasMay pre l=true->∀ v∈l,v.items.length<=8
 |_,[],_,v,hv=>by cases hv
 |pre,w::l,h,v,hv=>by
  simp only[vasMay,Bool.and_eq_true]at h
  rcases List.mem_cons.1 hv with rfl|hv
  ·have:=h.1.1.2
   unfold itemsMay at this
   simp only[Bool.and_eq_true,decide_eq_true_eq]at this
   omega
  ·exact kx9 _ l h.2 v hv
theorem qj8 {p:Pt}(h:ptMay p=true):∀ v∈p.l,v.items.length<=8:=by
 unfold ptMay at h
 split at h
 ·rw[Bool.and_eq_true]at h
  exact kx9 _ _ h.2
 ·split at h
  ·rename_i v hv
   intro w hw
   rw[hv,List.mem_singleton]at hw
   subst hw
   unfold itemsMay at h
   simp only[Bool.and_eq_true,decide_eq_true_eq]at h
   omega
  ·cases h
theorem qj9 {s:Sp}(h:spMay s=true):∀ v∈s.proto.l,v.items.length<=8:=by
 have key:s.proto=pt0\/ptMay s.proto=true:=by
  unfold spMay at h
  by_cases k1:s.kind=1
  ·rw[if_pos k1]at h
   simp only[Bool.and_eq_true,decide_eq_true_eq,j9]at h
   exact .inl h.1.1.2
  rw[if_neg k1]at h
  by_cases k2:s.kind=2
  ·rw[if_pos k2]at h
   simp only[Bool.and_eq_true,decide_eq_true_eq,j9]at h
   exact .inl h.1.1.2
  rw[if_neg k2]at h
  by_cases k3:s.kind=3
  ·rw[if_pos k3]at h
   simp only[Bool.and_eq_true,decide_eq_true_eq,j9]at h
   exact .inl h.1.1.2
  rw[if_neg k3]at h
  by_cases k4:s.kind=4
  ·rw[if_pos k4]at h
   simp only[Bool.and_eq_true,decide_eq_true_eq,j9]at h
   exact .inr h.1.1.1.1.1
  rw[if_neg k4]at h
  by_cases k5:s.kind=5
  ·rw[if_pos k5]at h
   simp only[Bool.and_eq_true,decide_eq_true_eq,j9]at h
   exact .inl h.2
  rw[if_neg k5]at h
  cases h
 rcases key with e|e
 ·rw[e]
  intro v hv
  cases hv
 ·exact qj8 e
theorem mc7 {p:Pr}(h:plainB p=true):∀ v∈p.spec.proto.l,v.items.length<=8:=by
 unfold plainB at h
 simp only[Bool.and_eq_true]at h
 obtain⟨_,⟨_,h11⟩⟩:=h
 split at h11
 ·exact qj9 h11
 ·rw[j9]at h11
  rw[h11]
  intro v hv
  cases hv
theorem mx5:∀ l:List Pr,l.length<=sizePrs l
 |[]=>Nat.le_refl _
 |p::l=>by
  have:=mx5 l
  have:1<=sizePr p:=by
   obtain⟨_,_,_,_,_,_,_,_,_,⟨_,_,_,_,_,_,_⟩⟩:=p
   simp only[sizePr]
   omega
  simp only[sizePrs,List.length_cons]
  omega
mutual
theorem qo6:∀ p:Pr,ju3 p->sizePr p<=2048->kq5 p
 |.mk kind name chan targets exprs rep guards l procs (.mk sk st sn se spp sf sb),h,hs=>by
  simp only[ju3]at h
  obtain⟨h1,h2,h3,h4⟩:=h
  obtain⟨_,⟨_,_,_,a5⟩,_,_,a8⟩:=km2 h1
  have a9:=mc7 h1
  simp only[Pr.spec,Sp.proto,Pr.procs,Pr.l]at a5 a8 a9
  simp only[sizePr]at hs
  have:=mx5 l
  simp only[kq5]
  exact⟨⟨by omega,by omega,fun v hv=>by have:=a9 v hv;omega⟩,kr1 sb h2 (by omega),mx6 guards h3 (by omega),kr1 l h4 (by omega)⟩
theorem kr1:∀ l:List Pr,jc2 l->sizePrs l<=2048->jq0 l
 |[],_,_=>by simp only[jq0]
 |p::l,h,hs=>by
  simp only[jc2]at h
  simp only[sizePrs]at hs
  simp only[jq0]
  exact⟨qo6 p h.1 (by omega),kr1 l h.2 (by omega)⟩
theorem mx6:∀ l:List Gu,jh7 l->sizeGus l<=2048->kf6 l
 |[],_,_=>by simp only[kf6]
 |.mk _ _ _ _ _ _ _ body::l,h,hs=>by
  simp only[jh7]at h
  simp only[sizeGus]at hs
  simp only[kf6]
  exact⟨kr1 body h.1 (by omega),mx6 l h.2 (by omega)⟩
end
theorem qk0 (s:ByteArray):∀ l:List ByteArray,(ky9 l s).length<=l.length+1:=fun l=>by
 induction l with
 |nil=>simp[ky9]
 |cons x l ih=>
  simp only[ky9]
  repeat' split
  all_goals simp only[List.length_cons]at *
  all_goals omega
theorem once_len (l:List ByteArray):(once l).length<=l.length:=by
 have:∀ (l m:List ByteArray),(l.foldl ky9 m).length<=m.length+l.length:=by
  intro l
  induction l with
  |nil=>intro m;simp
  |cons x l ih=>
   intro m
   have h1:=ih (ky9 m x)
   have h2:=qk0 x m
   simp only[List.foldl_cons,List.length_cons]
   omega
 simpa [once]using this l []
theorem mh3:∀ (tk:List (ByteArray × Int)) (s:ByteArray),(upTk tk s).length<=tk.length+1
 |[],s=>by simp[upTk]
 |x::l,s=>by
  have:=mh3 l s
  simp only[upTk]
  split<;>simp only[List.length_cons]<;>omega
theorem jn3:∀ (l:List ByteArray) (tk:List (ByteArray × Int)),(upAll tk l).length<=tk.length+l.length
 |[],tk=>by simp[upAll]
 |s::l,tk=>by
  have h1:=jn3 l (upTk tk s)
  have h2:=mh3 tk s
  have h3:upAll tk (s::l)=upAll (upTk tk s) l:=rfl
  rw[h3,List.length_cons]
  omega
theorem ky0 {tk:List (ByteArray × Int)}{m:Nat}(h1:∀ x∈tk,x.2≠0)(h2:tk.length<=300000000)(h3:m<=300000000):(start tk).fit m:=by
 refine⟨h1,⟨Int.le_refl _,?_⟩,?_,fun s=>?_⟩
 ·show(0:Int)+m * (tk.length+1)<1000000000000000000
  have h4:m * (tk.length+1)<=300000000 * (300000000+1):=Nat.mul_le_mul h3 (by omega)
  have h5:((m * (tk.length+1):Nat):Int)=(m:Int) * (tk.length+1):=by
   rw[Int.natCast_mul]
   rfl
  omega
 ·unfold W.room start
  simp only[List.length_nil]
  omega
 ·unfold start
  simp only[List.length_nil]
  omega
theorem may_can {p:Pr}(h:prMay p=true):Can p:=by
 obtain⟨h1,h2⟩:=may_all h
 have h3:=pr_size p h1
 have f0:(start []).fit (prN p+1):=ky0 (fun x hx=>by cases hx) (by simp) (by omega)
 have hg:=(grow_pr p (start [])).ev
 have hlen:=freeEv_len (prOf (start []) p).2.ev
 have ho:=once_len (freeEv (prOf (start []) p).2.ev)
 have hs:(start []).ev.length=0:=rfl
 have hf:(freeOf p).length<=prN p:=by unfold freeOf;omega
 have hin0:tkIn ([]:List (ByteArray × Int)) 0:=fun x hx=>by cases hx
 have hin:=upAll_in (tagsPr p) (by omega) (upAll_in (freeOf p) (Int.le_refl 0) hin0)
 have l1:=jn3 (freeOf p) []
 have l2:=jn3 (tagsPr p) (upAll [] (freeOf p))
 rw[List.length_nil]at l1
 refine⟨my5 p h1,qo6 p h1 h2,f0,ky0 (fun x hx=>?_) ?_ (by omega),by omega⟩
 ·have:=(hin x hx).1
  omega
 ·show(upAll (upAll [] (freeOf p)) (tagsPr p)).length<=_
  omega
end Sc
end
section
variable {mm:Int}
theorem jp2 (p:Pr):FnD prog (glS mm) 12 [.d (dPr p)] (fun v=>v=.tup [.d (.list 1 (if Lx.prMay p=true then (Sc.freeOf p).map .str else [])),.d (.int .i64 (if Lx.prMay p=true then 0 else 2))]):=
 mx1 p fun h=>⟨(Sc.may_can h).ok,(Sc.may_can h).cap,(Sc.may_can h).fit0⟩
theorem jn4 (p:Pr)(nn:List ByteArray):FnD prog (glS mm) 15 [.d (dPr p),.d (.list 1 (nn.map .str))] (fun v=>v=.tup [.d (.str (if Lx.prMay p=true then (Sc.checkOf p nn).1 else ByteArray.empty)),.d (.int .i64 (if Lx.prMay p=true then (Sc.checkOf p nn).2 else 2))]):=
 mh0 p nn fun h=>⟨(Sc.may_can h).ok,(Sc.may_can h).cap,(Sc.may_can h).fit0⟩
theorem jp3 (p:Pr):FnD prog (glS mm) 18 [.d (dPr p)] (fun v=>v=.tup [.d (dPr (Sc.unOf p)),.d (.int .i64 (Sc.errOf p))]):=jx2 p fun h=>Sc.may_can h
theorem jn5 (a b:Pr):FnD prog (glS mm) 20 [.d (dPr a),.d (dPr b)] (fun v=>v=.d (.bool (decide (Sc.errOf a=0) && (decide (Sc.errOf b=0) && eqB (Sc.unOf a) (Sc.unOf b))))):=
 qj6 a b (fun h=>Sc.may_can h) fun h=>Sc.may_can h
end
section
namespace Sc
def Adds (ds:List ByteArray)(σ τ:W):Prop:=∀ e∈τ.ev,e∈σ.ev\/e.2=false\/e.1∈ds
variable {ds:List ByteArray}
theorem Adds.ofEv {σ τ:W}(h:τ.ev=σ.ev):Adds ds σ τ:=fun e he=>.inl (h ▸ he)
theorem Adds.trans {σ τ υ:W}(h:Adds ds σ τ)(h2:Adds ds τ υ):Adds ds σ υ:=fun e he=>by
 rcases h2 e he with h3|h3
 ·exact h e h3
 ·exact .inr h3
theorem kf9 (σ:W)(s:ByteArray):Adds ds σ (nameOf σ s).2:=by
 unfold nameOf
 split
 ·exact .ofEv rfl
 ·intro e he
  simp only[step,List.mem_append,List.mem_singleton]at he
  rcases he with he|rfl
  ·exact .inl he
  ·exact .inr (.inl rfl)
theorem mh4 {α:Type}{f:W->α->α × W}(hf:∀ (x:α) (σ:W),Adds ds σ (f σ x).2):∀ (l:List α) (σ:W),Adds ds σ (y4 f σ l).2
 |[],σ=>.ofEv rfl
 |x::l,σ=>by
  simp only[y4]
  exact(hf x σ).trans (mh4 hf l _)
mutual
theorem jf9:∀ (e:Ex) (σ:W),Adds ds σ (exprOf σ e).2
 |.mk kind op ty n s l,σ=>by
  have hr:Adds ds σ (if exNamed kind then nameOf σ s else (s,σ)).2:=by
   split
   ·exact kf9 σ s
   ·exact .ofEv rfl
  simp only[exprOf]
  exact hr.trans (jx3 l _)
theorem jx3:∀ (l:List Ex) (σ:W),Adds ds σ (z6 σ l).2
 |[],σ=>by simp only[z6];exact .ofEv rfl
 |e::l,σ=>by
  simp only[z6]
  exact(jf9 e σ).trans (jx3 l _)
end
theorem jh6 (l:List Ex)(σ:W):Adds ds σ (y4 exprOf σ l).2:=by rw[<-ja3];exact jx3 l σ
theorem km3 (σ:W)(t:Ty):Adds ds σ (typedOf σ t).2:=by
 unfold typedOf
 split
 ·exact .ofEv rfl
 ·exact kf9 σ _
theorem km4 (σ:W)(l:List ByteArray)(h:∀ x∈l,x∈ds):Adds ds σ (twiceOf σ l):=fun e he=>by
 unfold twiceOf at he
 rw[List.mem_append]at he
 refine he.imp id fun he=>.inr ?_
 obtain⟨i,hi,rfl⟩:=List.mem_map.1 he
 have:=List.mem_range.1 (List.mem_filter.1 hi).1
 dsimp only
 rw[List.getD_eq_getElem?_getD,List.getElem?_eq_getElem this]
 exact h _ (List.getElem_mem this)
theorem kg0:∀ (l:List (Bool × List ByteArray)) (σ:W),Adds ds σ (declOf σ l).2
 |[],σ=>.ofEv rfl
 |x::l,σ=>by
  simp only[declOf]
  exact Adds.trans (τ:=(freshOf σ).2) (.ofEv rfl) (kg0 l _)
theorem mx7 (σ:W)(s:Sp)(h1:∀ x∈s.names,x∈ds)(h2:∀ f∈s.formals,f.name∈ds):Adds ds σ (headOf σ s).2:=by
 unfold headOf
 dsimp only
 refine Adds.trans ?_ (jf9 _ _)
 refine Adds.trans ?_ (mh4 (f:=formalOf) (fun f σ=>km3 σ f.type) _ _)
 refine Adds.trans ?_ (km3 _ _)
 refine Adds.trans ?_ (kg0 _ _)
 refine Adds.trans ?_ (km4 _ _ ?_)
 ·refine Adds.trans ?_ (kg0 _ _)
  exact km4 _ _ h1
 ·intro x hx
  obtain⟨f,hf,rfl⟩:=List.mem_map.1 hx
  exact h2 f hf
theorem qk1 (tag:Bool)(σ:W)(l:List Ex):Adds ds σ (outOf tag σ l).2:=by
 cases tag with
 |false=>rw[jw6];exact jh6 l σ
 |true=>
  cases l with
  |nil=>exact .ofEv rfl
  |cons e l=>exact jh6 l σ
theorem qk2 (σ:W)(r:Rp):Adds ds σ (repOf σ r).2:=by
 unfold repOf
 split
 ·exact .ofEv rfl
 ·exact(Adds.trans (τ:=(freshOf σ).2) (.ofEv rfl) (jf9 r.base _)).trans (jf9 r.count _)
theorem ml6 (σ:W)(cond chan:Ex)(targets values:List Ex)(time:Ex):Adds ds σ (gheadOf σ cond chan targets values time).2:=
 ((((jf9 cond σ).trans (jf9 chan _)).trans (jh6 targets _)).trans (jh6 values _)).trans (jf9 time _)
theorem ml7 (σ:W)(kind:Int)(name:ByteArray)(chan:Ex)(targets exprs:List Ex)(rep:Rp):Adds ds σ (pheadOf σ kind name chan targets exprs rep).2:=by
 have ha:Adds ds σ (if kind=17 then nameOf σ name else (name,σ)).2:=by
  split
  ·exact kf9 σ name
  ·exact .ofEv rfl
 exact(((ha.trans (jf9 chan _)).trans (jh6 targets _)).trans (qk1 _ _ exprs)).trans (qk2 _ rep)
mutual
theorem mx8:∀ (p:Pr) (σ:W),(∀ x∈declPr p,x∈ds)->Adds ds σ (prOf σ p).2
 |.mk kind name chan targets exprs rep guards l procs (.mk sk st sn se spp sf sb),σ,hd=>by
  simp only[declPr,List.mem_append]at hd
  have hh:=ml7 (ds:=ds) σ kind name chan targets exprs rep
  simp only[prOf]
  generalize pheadOf σ kind name chan targets exprs rep=a at hh ⊢
  split
  ·have hs:=mx7 a.2 (.mk sk st sn se spp sf []) (fun x hx=>hd x (.inr (.inl hx))) (fun f hf=>hd _ (.inr (.inr (.inl (List.mem_map.2 ⟨f,hf,rfl⟩)))))
   generalize headOf a.2 (.mk sk st sn se spp sf [])=s at hs ⊢
   have hb:=ju1 sb {s.2 with env:=pushE σ.env (sf.map (·.name)) s.1.inner} (fun x hx=>hd x (.inr (.inr (.inr (.inl hx)))))
   generalize prsOf {s.2 with env:=pushE σ.env (sf.map (·.name)) s.1.inner} sb=b at hb ⊢
   have hg:=kr2 guards {b.2 with env:=pushE σ.env sn s.1.own} (fun x hx=>hd x (.inr (.inr (.inr (.inr (.inl hx))))))
   generalize gusOf {b.2 with env:=pushE σ.env sn s.1.own} guards=g at hg ⊢
   have hm:=ju1 l g.2 (fun x hx=>hd x (.inr (.inr (.inr (.inr (.inr hx))))))
   exact(((hh.trans hs).trans (υ:=b.2) hb).trans (υ:=g.2) hg).trans hm
  ·have hg:=kr2 guards {a.2 with env:=pushE σ.env (if rep.name=ByteArray.empty then [] else [rep.name]) a.1.own} (fun x hx=>hd x (.inr (.inr (.inr (.inr (.inl hx))))))
   generalize gusOf {a.2 with env:=pushE σ.env (if rep.name=ByteArray.empty then [] else [rep.name]) a.1.own} guards=g at hg ⊢
   have hm:=ju1 l g.2 (fun x hx=>hd x (.inr (.inr (.inr (.inr (.inr hx))))))
   exact(hh.trans (υ:=g.2) hg).trans hm
theorem ju1:∀ (l:List Pr) (σ:W),(∀ x∈declPrs l,x∈ds)->Adds ds σ (prsOf σ l).2
 |[],σ,_=>by simp only[prsOf];exact .ofEv rfl
 |e::l,σ,hd=>by
  simp only[declPrs,List.mem_append]at hd
  simp only[prsOf]
  exact(mx8 e σ fun x hx=>hd x (.inl hx)).trans (ju1 l _ fun x hx=>hd x (.inr hx))
theorem qu6:∀ (p:Gu) (σ:W),(∀ x∈declGu p,x∈ds)->Adds ds σ (guOf σ p).2
 |.mk kind name cond chan targets values time body,σ,hd=>by
  simp only[declGu]at hd
  simp only[guOf]
  exact(ml6 σ cond chan targets values time).trans (ju1 body _ hd)
theorem kr2:∀ (l:List Gu) (σ:W),(∀ x∈declGus l,x∈ds)->Adds ds σ (gusOf σ l).2
 |[],σ,_=>by simp only[gusOf];exact .ofEv rfl
 |e::l,σ,hd=>by
  simp only[declGus,List.mem_append]at hd
  simp only[gusOf]
  exact(qu6 e σ fun x hx=>hd x (.inl hx)).trans (kr2 l _ fun x hx=>hd x (.inr hx))
end
mutual
theorem km5:∀ (p:Pr),ju3 p->∀ x∈declPr p,Lx.isName x=true
 |.mk kind name chan targets exprs rep guards l procs (.mk sk st sn se spp sf sb),h,x,hx=>by
  simp only[ju3]at h
  obtain⟨h1,h2,h3,h4⟩:=h
  rw[Lx.plain_own,Bool.and_eq_true]at h1
  simp only[declPr,List.mem_append]at hx
  have hk:=ju4 _ h1.1
  simp only[Pr.kind,Pr.rep,Pr.spec]at hk
  have hsp:(∀ x∈sn,Lx.isName x=true)/\∀ f∈sf,Lx.isName f.name=true:=by
   by_cases h18:kind=18
   ·have:=mh7 _ (Lx.own_spec _ h1.1 h18)
    exact⟨this.1,this.2.1⟩
   ·have hz:=hk.2.1 h18
    simp only[sp0,Sp.mk.injEq]at hz
    obtain⟨rfl,rfl,rfl,rfl,rfl,rfl,rfl⟩:=hz
    exact⟨fun x hx=>(by cases hx),fun x hx=>(by cases hx)⟩
  rcases hx with hx|hx|hx|hx|hx|hx
  ·split at hx
   ·cases hx
   ·rename_i hr
    rw[List.mem_singleton]at hx
    subst hx
    have:=hk.2.2.2
    unfold Lx.repMay at this
    rw[if_neg hr]at this
    simp only[Bool.and_eq_true]at this
    exact this.1.1
  ·exact hsp.1 x hx
  ·obtain⟨f,hf,rfl⟩:=List.mem_map.1 hx
   exact hsp.2 f hf
  ·exact jl3 sb h2 x hx
  ·exact kg1 guards h3 x hx
  ·exact jl3 l h4 x hx
theorem jl3:∀ (l:List Pr),jc2 l->∀ x∈declPrs l,Lx.isName x=true
 |[],_,x,hx=>by simp[declPrs]at hx
 |p::l,h,x,hx=>by
  simp only[jc2]at h
  simp only[declPrs,List.mem_append]at hx
  rcases hx with hx|hx
  ·exact km5 p h.1 x hx
  ·exact jl3 l h.2 x hx
theorem kg1:∀ (l:List Gu),jh7 l->∀ x∈declGus l,Lx.isName x=true
 |[],_,x,hx=>by simp[declGus]at hx
 |.mk kind name cond chan targets values time body::l,h,x,hx=>by
  simp only[jh7]at h
  simp only[declGus,declGu,List.mem_append]at hx
  rcases hx with hx|hx
  ·exact jl3 body h.1 x hx
  ·exact kg1 l h.2 x hx
end
theorem jx4 {s:ByteArray}:∀ {ev:List (ByteArray × Bool)},s∈freeEv ev↔(s,false)∈ev
 |[]=>by simp[freeEv]
 |(x,true)::l=>by simp[freeEv,jx4 (ev:=l)]
 |(x,false)::l=>by simp[freeEv,jx4 (ev:=l)]
theorem any_isB {ns:List ByteArray}{s:ByteArray}:ns.any (isB s)=true↔s∈ns:=by
 rw[List.any_eq_true]
 exact⟨fun⟨x,hx,e⟩=>(isB_iff.1 e) ▸ hx,fun h=>⟨s,h,isB_iff.2 rfl⟩⟩
theorem ky1 (ns:List ByteArray):∀ ev:List (ByteArray × Bool),(∀ s,(s,false)∈ev->s∈ns)->firstEv ns ev=(ByteArray.empty,0)\/∃ s,(s,true)∈ev/\firstEv ns ev=(s,121)
 |[],_=>.inl rfl
 |(x,true)::l,_=>.inr ⟨x,List.mem_cons_self,by simp[firstEv]⟩
 |(x,false)::l,h=>by
  have hx:=any_isB.2 (h x List.mem_cons_self)
  simp only[firstEv,hx,if_true,Bool.false_eq_true,if_false]
  rcases ky1 ns l fun s hs=>h s (List.mem_cons_of_mem _ hs) with h1|⟨s,h1,h2⟩
  ·exact .inl h1
  ·exact .inr ⟨s,List.mem_cons_of_mem _ h1,h2⟩
theorem kb0 {p:Pr}{s:ByteArray}:s∈freeOf p↔(s,false)∈(prOf (start []) p).2.ev:=by
 unfold freeOf
 rw[mf8,jx4]
theorem check_full {p:Pr}(h:Lx.prMay p=true):checkOf p (freeOf p)=(ByteArray.empty,0)\/∃ s,s≠ByteArray.empty/\checkOf p (freeOf p)=(s,121):=by
 unfold checkOf
 refine(ky1 (freeOf p) _ fun s hs=>kb0.2 hs).imp id fun⟨s,h1,h2⟩=>⟨s,?_,h2⟩
 have ha:=mx8 p (start []) (fun x hx=>hx) _ h1
 rcases ha with ha|ha|ha
 ·cases ha
 ·cases ha
 ·exact jn6 (km5 p (may_all h).1 s ha)
end Sc
end
end Go.Proofs.YtdopmfifmgkmoaaGreatDoor
