/- Parts: O5, O6. -/
import Derived.Test.YtdopmfifmgkmoaaGreatDoorP19
set_option linter.all false
set_option maxRecDepth 100000
set_option maxHeartbeats 16000000
namespace Go.Proofs.YtdopmfifmgkmoaaGreatDoor
open Go.RowKit Go.Proofs.Tryz
section
namespace Lx
noncomputable def zeroB (p:Pr)(nm ch tg ex pc sp:Bool):Bool:=
 (nm || decide (p.name=ByteArray.empty)) && (ch || noneB p.chan) && (tg || decide (p.targets.length=0)) && (ex || decide (p.exprs.length=0)) && (pc || decide (p.procs.length=0)) && (sp || eqB p.spec sp0)
noncomputable def guardsB (l:List Gu)(a b lo hi:Int):Bool:=eachB l a b fun g=>decide (lo<=g.kind) && decide (g.kind<=hi) && guMay g
noncomputable def ownB (p:Pr):Bool:=
 let rep:=!decide (p.rep.name=ByteArray.empty)
 let l0:=decide (p.l.length=0)
 let g0:=decide (p.guards.length=0)
 let least:Int:=if rep then 1 else 0
 let most:Int:=if rep then 1 else 16
 repMay p.rep &&
 (if p.kind=1\/p.kind=2 then !rep && l0 && g0 && zeroB p false false false false false false
 else if p.kind=3 then !rep && eachB p.targets 1 8 elemB && eachB p.exprs 1 8 exMay && l0 && g0 && zeroB p false false true true false false
 else if p.kind=4 then !rep && elemB p.chan && eachB p.targets 1 8 elemB && l0 && g0 && zeroB p false true true false false false
 else if p.kind=5 then !rep && elemB p.chan && eachB p.exprs 1 9 exMay && l0 && g0 && zeroB p false true false true false false
 else if p.kind=6 then !rep && elemB p.chan && eachB p.exprs 1 1 exMay && l0 && g0 && zeroB p false true false true false false
 else if p.kind=7 then !rep && elemB p.chan && l0 && guardsB p.guards 1 16 7 7 && zeroB p false true false false false false
 else if p.kind=8\/p.kind=9 then (!rep || decide (p.l.length=1)) && g0 && zeroB p false false false false false false
 else if p.kind=10 then !rep && decide (p.l.length=2) && g0 && zeroB p false false false false false false
 else if p.kind=11 then !rep && decide (p.procs.length=p.l.length) && p.procs.all (fun n=>decide (0<=n) && decide (n<8)) && hasB 1 8 p.l.length && g0 && zeroB p false false false false true false
 else if p.kind=12\/p.kind=13 then l0 && guardsB p.guards least most 2 4 && zeroB p false false false false false false
 else if p.kind=14 then l0 && guardsB p.guards least most 1 1 && zeroB p false false false false false false
 else if p.kind=15 then !rep && eachB p.exprs 1 1 exMay && l0 && guardsB p.guards 0 16 5 6 && zeroB p false false false true false false
 else if p.kind=16 then !rep && eachB p.exprs 1 1 exMay && decide (p.l.length=1) && g0 && zeroB p false false false true false false
 else if p.kind=17 then !rep && isName p.name && eachB p.exprs 0 8 exMay && l0 && g0 && zeroB p true false false true false false
 else if p.kind=18 then !rep && spMay p.spec && decide (p.l.length=1) && g0 && zeroB p false false false false false true
 else false)
theorem kp2 (n:Nat):hasB 0 0 n=decide (n=0):=by
 unfold hasB
 rw[Bool.eq_iff_iff]
 simp only[Bool.and_eq_true,decide_eq_true_eq]
 omega
theorem ks4 (n:Nat):hasB 1 1 n=decide (n=1):=by
 unfold hasB
 rw[Bool.eq_iff_iff]
 simp only[Bool.and_eq_true,decide_eq_true_eq]
 omega
theorem ks5 (n:Nat):hasB 2 2 n=decide (n=2):=by
 unfold hasB
 rw[Bool.eq_iff_iff]
 simp only[Bool.and_eq_true,decide_eq_true_eq]
 omega
theorem jb3 (n:Nat):hasB 0 2048 n=decide (n<=2048):=by
 unfold hasB
 rw[Bool.eq_iff_iff]
 simp only[Bool.and_eq_true,decide_eq_true_eq]
 omega
theorem qg1 (a b:Nat):hasB b b a=decide (a=b):=by
 unfold hasB
 rw[Bool.eq_iff_iff]
 simp only[Bool.and_eq_true,decide_eq_true_eq]
 omega
theorem each00 {α:Type}(l:List α)(p:α->Bool):eachB l 0 0 p=decide (l.length=0):=by
 unfold eachB
 rw[kp2]
 cases l<;>simp
theorem g8 (procs:List Int)(b:Nat):eachB procs (b:Int) b (fun n=>decide (0<=n) && decide (n<8))=(decide (procs.length=b) && procs.all fun n=>decide (0<=n) && decide (n<8)):=by unfold eachB;rw[qg1]
theorem plain_own (p:Pr):plainB p=(ownB p && decide (p.l.length<=2048)):=by
 obtain⟨kind,name,chan,targets,exprs,rep,guards,l,procs,spec⟩:=p
 unfold plainB ownB
 simp only[Pr.kind,Pr.name,Pr.chan,Pr.targets,Pr.exprs,Pr.rep,Pr.guards,Pr.l,Pr.procs,Pr.spec]
 cases repMay rep with
 |false=>simp
 |true=>
  by_cases hr:rep.name=ByteArray.empty
  all_goals
   simp only[hr,decide_true,decide_false,Bool.not_true,Bool.not_false,usesRep,if_true,if_false,Bool.true_or,Bool.false_or,Bool.and_true,Bool.true_and,Bool.false_eq_true]
   by_cases h1:kind=1
   ·subst h1;simp only[usesOf,uses0,if_true,if_false,Bool.false_eq_true,zeroB,guardsB,kp2,ks4,ks5,jb3,each00,g8,Pr.name,Pr.chan,Pr.targets,Pr.exprs,Pr.procs,Pr.spec,Int.reduceEq,or_self,or_true,true_or,or_false,false_or,and_self,and_true,and_false,false_and,true_and,decide_true,decide_false,Bool.true_and,Bool.false_and,Bool.not_true,Bool.not_false,Bool.or_false,Bool.or_true,Bool.true_or,Bool.false_or,Bool.and_true,Bool.and_false,reduceCtorEq]<;>grind [hasB,eachB]
   by_cases h2:kind=2
   ·subst h2;simp only[usesOf,uses0,if_true,if_false,Bool.false_eq_true,zeroB,guardsB,kp2,ks4,ks5,jb3,each00,g8,Pr.name,Pr.chan,Pr.targets,Pr.exprs,Pr.procs,Pr.spec,Int.reduceEq,or_self,or_true,true_or,or_false,false_or,and_self,and_true,and_false,false_and,true_and,decide_true,decide_false,Bool.true_and,Bool.false_and,Bool.not_true,Bool.not_false,Bool.or_false,Bool.or_true,Bool.true_or,Bool.false_or,Bool.and_true,Bool.and_false,reduceCtorEq]<;>grind [hasB,eachB]
   by_cases h3:kind=3
   ·subst h3;simp only[usesOf,uses0,if_true,if_false,Bool.false_eq_true,zeroB,guardsB,kp2,ks4,ks5,jb3,each00,g8,Pr.name,Pr.chan,Pr.targets,Pr.exprs,Pr.procs,Pr.spec,Int.reduceEq,or_self,or_true,true_or,or_false,false_or,and_self,and_true,and_false,false_and,true_and,decide_true,decide_false,Bool.true_and,Bool.false_and,Bool.not_true,Bool.not_false,Bool.or_false,Bool.or_true,Bool.true_or,Bool.false_or,Bool.and_true,Bool.and_false,reduceCtorEq]<;>grind [hasB,eachB]
   by_cases h4:kind=4
   ·subst h4;simp only[usesOf,uses0,if_true,if_false,Bool.false_eq_true,zeroB,guardsB,kp2,ks4,ks5,jb3,each00,g8,Pr.name,Pr.chan,Pr.targets,Pr.exprs,Pr.procs,Pr.spec,Int.reduceEq,or_self,or_true,true_or,or_false,false_or,and_self,and_true,and_false,false_and,true_and,decide_true,decide_false,Bool.true_and,Bool.false_and,Bool.not_true,Bool.not_false,Bool.or_false,Bool.or_true,Bool.true_or,Bool.false_or,Bool.and_true,Bool.and_false,reduceCtorEq]<;>grind [hasB,eachB]
   by_cases h5:kind=5
   ·subst h5;simp only[usesOf,uses0,if_true,if_false,Bool.false_eq_true,zeroB,guardsB,kp2,ks4,ks5,jb3,each00,g8,Pr.name,Pr.chan,Pr.targets,Pr.exprs,Pr.procs,Pr.spec,Int.reduceEq,or_self,or_true,true_or,or_false,false_or,and_self,and_true,and_false,false_and,true_and,decide_true,decide_false,Bool.true_and,Bool.false_and,Bool.not_true,Bool.not_false,Bool.or_false,Bool.or_true,Bool.true_or,Bool.false_or,Bool.and_true,Bool.and_false,reduceCtorEq]<;>grind [hasB,eachB]
   by_cases h6:kind=6
   ·subst h6;simp only[usesOf,uses0,if_true,if_false,Bool.false_eq_true,zeroB,guardsB,kp2,ks4,ks5,jb3,each00,g8,Pr.name,Pr.chan,Pr.targets,Pr.exprs,Pr.procs,Pr.spec,Int.reduceEq,or_self,or_true,true_or,or_false,false_or,and_self,and_true,and_false,false_and,true_and,decide_true,decide_false,Bool.true_and,Bool.false_and,Bool.not_true,Bool.not_false,Bool.or_false,Bool.or_true,Bool.true_or,Bool.false_or,Bool.and_true,Bool.and_false,reduceCtorEq]<;>grind [hasB,eachB]
   by_cases h7:kind=7
   ·subst h7;simp only[usesOf,uses0,if_true,if_false,Bool.false_eq_true,zeroB,guardsB,kp2,ks4,ks5,jb3,each00,g8,Pr.name,Pr.chan,Pr.targets,Pr.exprs,Pr.procs,Pr.spec,Int.reduceEq,or_self,or_true,true_or,or_false,false_or,and_self,and_true,and_false,false_and,true_and,decide_true,decide_false,Bool.true_and,Bool.false_and,Bool.not_true,Bool.not_false,Bool.or_false,Bool.or_true,Bool.true_or,Bool.false_or,Bool.and_true,Bool.and_false,reduceCtorEq]<;>grind [hasB,eachB]
   by_cases h8:kind=8
   ·subst h8;simp only[usesOf,uses0,if_true,if_false,Bool.false_eq_true,zeroB,guardsB,kp2,ks4,ks5,jb3,each00,g8,Pr.name,Pr.chan,Pr.targets,Pr.exprs,Pr.procs,Pr.spec,Int.reduceEq,or_self,or_true,true_or,or_false,false_or,and_self,and_true,and_false,false_and,true_and,decide_true,decide_false,Bool.true_and,Bool.false_and,Bool.not_true,Bool.not_false,Bool.or_false,Bool.or_true,Bool.true_or,Bool.false_or,Bool.and_true,Bool.and_false,reduceCtorEq]<;>grind [hasB,eachB]
   by_cases h9:kind=9
   ·subst h9;simp only[usesOf,uses0,if_true,if_false,Bool.false_eq_true,zeroB,guardsB,kp2,ks4,ks5,jb3,each00,g8,Pr.name,Pr.chan,Pr.targets,Pr.exprs,Pr.procs,Pr.spec,Int.reduceEq,or_self,or_true,true_or,or_false,false_or,and_self,and_true,and_false,false_and,true_and,decide_true,decide_false,Bool.true_and,Bool.false_and,Bool.not_true,Bool.not_false,Bool.or_false,Bool.or_true,Bool.true_or,Bool.false_or,Bool.and_true,Bool.and_false,reduceCtorEq]<;>grind [hasB,eachB]
   by_cases h10:kind=10
   ·subst h10;simp only[usesOf,uses0,if_true,if_false,Bool.false_eq_true,zeroB,guardsB,kp2,ks4,ks5,jb3,each00,g8,Pr.name,Pr.chan,Pr.targets,Pr.exprs,Pr.procs,Pr.spec,Int.reduceEq,or_self,or_true,true_or,or_false,false_or,and_self,and_true,and_false,false_and,true_and,decide_true,decide_false,Bool.true_and,Bool.false_and,Bool.not_true,Bool.not_false,Bool.or_false,Bool.or_true,Bool.true_or,Bool.false_or,Bool.and_true,Bool.and_false,reduceCtorEq]<;>grind [hasB,eachB]
   by_cases h11:kind=11
   ·subst h11;simp only[usesOf,uses0,if_true,if_false,Bool.false_eq_true,zeroB,guardsB,kp2,ks4,ks5,jb3,each00,g8,Pr.name,Pr.chan,Pr.targets,Pr.exprs,Pr.procs,Pr.spec,Int.reduceEq,or_self,or_true,true_or,or_false,false_or,and_self,and_true,and_false,false_and,true_and,decide_true,decide_false,Bool.true_and,Bool.false_and,Bool.not_true,Bool.not_false,Bool.or_false,Bool.or_true,Bool.true_or,Bool.false_or,Bool.and_true,Bool.and_false,reduceCtorEq]<;>grind [hasB,eachB]
   by_cases h12:kind=12
   ·subst h12;simp only[usesOf,uses0,if_true,if_false,Bool.false_eq_true,zeroB,guardsB,kp2,ks4,ks5,jb3,each00,g8,Pr.name,Pr.chan,Pr.targets,Pr.exprs,Pr.procs,Pr.spec,Int.reduceEq,or_self,or_true,true_or,or_false,false_or,and_self,and_true,and_false,false_and,true_and,decide_true,decide_false,Bool.true_and,Bool.false_and,Bool.not_true,Bool.not_false,Bool.or_false,Bool.or_true,Bool.true_or,Bool.false_or,Bool.and_true,Bool.and_false,reduceCtorEq]<;>grind [hasB,eachB]
   by_cases h13:kind=13
   ·subst h13;simp only[usesOf,uses0,if_true,if_false,Bool.false_eq_true,zeroB,guardsB,kp2,ks4,ks5,jb3,each00,g8,Pr.name,Pr.chan,Pr.targets,Pr.exprs,Pr.procs,Pr.spec,Int.reduceEq,or_self,or_true,true_or,or_false,false_or,and_self,and_true,and_false,false_and,true_and,decide_true,decide_false,Bool.true_and,Bool.false_and,Bool.not_true,Bool.not_false,Bool.or_false,Bool.or_true,Bool.true_or,Bool.false_or,Bool.and_true,Bool.and_false,reduceCtorEq]<;>grind [hasB,eachB]
   by_cases h14:kind=14
   ·subst h14;simp only[usesOf,uses0,if_true,if_false,Bool.false_eq_true,zeroB,guardsB,kp2,ks4,ks5,jb3,each00,g8,Pr.name,Pr.chan,Pr.targets,Pr.exprs,Pr.procs,Pr.spec,Int.reduceEq,or_self,or_true,true_or,or_false,false_or,and_self,and_true,and_false,false_and,true_and,decide_true,decide_false,Bool.true_and,Bool.false_and,Bool.not_true,Bool.not_false,Bool.or_false,Bool.or_true,Bool.true_or,Bool.false_or,Bool.and_true,Bool.and_false,reduceCtorEq]<;>grind [hasB,eachB]
   by_cases h15:kind=15
   ·subst h15;simp only[usesOf,uses0,if_true,if_false,Bool.false_eq_true,zeroB,guardsB,kp2,ks4,ks5,jb3,each00,g8,Pr.name,Pr.chan,Pr.targets,Pr.exprs,Pr.procs,Pr.spec,Int.reduceEq,or_self,or_true,true_or,or_false,false_or,and_self,and_true,and_false,false_and,true_and,decide_true,decide_false,Bool.true_and,Bool.false_and,Bool.not_true,Bool.not_false,Bool.or_false,Bool.or_true,Bool.true_or,Bool.false_or,Bool.and_true,Bool.and_false,reduceCtorEq]<;>grind [hasB,eachB]
   by_cases h16:kind=16
   ·subst h16;simp only[usesOf,uses0,if_true,if_false,Bool.false_eq_true,zeroB,guardsB,kp2,ks4,ks5,jb3,each00,g8,Pr.name,Pr.chan,Pr.targets,Pr.exprs,Pr.procs,Pr.spec,Int.reduceEq,or_self,or_true,true_or,or_false,false_or,and_self,and_true,and_false,false_and,true_and,decide_true,decide_false,Bool.true_and,Bool.false_and,Bool.not_true,Bool.not_false,Bool.or_false,Bool.or_true,Bool.true_or,Bool.false_or,Bool.and_true,Bool.and_false,reduceCtorEq]<;>grind [hasB,eachB]
   by_cases h17:kind=17
   ·subst h17;simp only[usesOf,uses0,if_true,if_false,Bool.false_eq_true,zeroB,guardsB,kp2,ks4,ks5,jb3,each00,g8,Pr.name,Pr.chan,Pr.targets,Pr.exprs,Pr.procs,Pr.spec,Int.reduceEq,or_self,or_true,true_or,or_false,false_or,and_self,and_true,and_false,false_and,true_and,decide_true,decide_false,Bool.true_and,Bool.false_and,Bool.not_true,Bool.not_false,Bool.or_false,Bool.or_true,Bool.true_or,Bool.false_or,Bool.and_true,Bool.and_false,reduceCtorEq]<;>grind [hasB,eachB]
   by_cases h18:kind=18
   ·subst h18;simp only[usesOf,uses0,if_true,if_false,Bool.false_eq_true,zeroB,guardsB,kp2,ks4,ks5,jb3,each00,g8,Pr.name,Pr.chan,Pr.targets,Pr.exprs,Pr.procs,Pr.spec,Int.reduceEq,or_self,or_true,true_or,or_false,false_or,and_self,and_true,and_false,false_and,true_and,decide_true,decide_false,Bool.true_and,Bool.false_and,Bool.not_true,Bool.not_false,Bool.or_false,Bool.or_true,Bool.true_or,Bool.false_or,Bool.and_true,Bool.and_false,reduceCtorEq]<;>grind [hasB,eachB]
   simp only[usesOf,h1,h2,h3,h4,h5,h6,h7,h8,h9,h10,h11,h12,h13,h14,h15,h16,h17,h18,or_self,uses0,if_false,Bool.false_and,Bool.and_false]
mutual
noncomputable def prRoom (depth left:Int)(placing:Bool):Pr->Int
 |.mk kind name chan targets exprs rep guards l procs (.mk sk st sn se spp sf sb)=>
  if 32<depth\/left=0\/ownB (.mk kind name chan targets exprs rep guards l procs (.mk sk st sn se spp sf sb))=false\/(kind=11/\placing=false) then -1
  else if kind=18/\sk=4/\spp.cases=true/\32<depth+2 then -1
  else
   let b:=if kind=18/\sk=5 then headRoom (depth+1) (left - 1) sb else left - 1
   gusRoom (depth+2) (prsRoom (if kind=11 then depth+2 else if kind=18 then depth else depth+1) b (placing && decide (kind=18)) l) guards
noncomputable def headRoom (depth left:Int):List Pr->Int
 |[]=>left
 |p::_=>prRoom depth left false p
noncomputable def prsRoom (depth left:Int)(placing:Bool):List Pr->Int
 |[]=>left
 |p::l=>if left<0 then left else prsRoom depth (prRoom depth left placing p) placing l
noncomputable def gusRoom (depth left:Int):List Gu->Int
 |[]=>left
 |.mk _ _ _ _ _ _ _ body::l=>if left<0 then left else gusRoom depth (headRoom depth left body) l
end
theorem prsRoom_neg (depth left:Int)(placing:Bool)(h:left<0):∀ l,prsRoom depth left placing l=left
 |[]=>by rw[prsRoom]
 |p::l=>by rw[prsRoom,if_pos h]
theorem gusRoom_neg (depth left:Int)(h:left<0):∀ l,gusRoom depth left l=left
 |[]=>by rw[gusRoom]
 |.mk _ _ _ _ _ _ _ body::l=>by rw[gusRoom,if_pos h]
def agree (left:Int)(v:Bool × Int)(r:Int):Prop:=(v.1=true↔0<=r)/\(0<=r->v.2=r/\r<=left)
theorem jq7 (s:Sp)(h:spMay s=true):(s.proto.cases=true->s.kind=4)/\(s.kind=5->s.body.length=1)/\(s.kind≠5->s.body=[]):=by
 have hz:∀ q:Pt,eqB q pt0=true->q.cases=true->False:=fun q e c=>by
  rw[j9]at e
  rw[e]at c
  cases c
 unfold spMay at h
 refine⟨fun hc=>?_,fun hk=>?_,fun hk=>?_⟩
 ·have:=hz s.proto
  grind
 ·simp only[hk,Int.reduceEq,if_false,if_true,Bool.and_eq_true,decide_eq_true_eq]at h
  exact h.1.1.1.1.1
 ·have:s.body.length=0:=by grind
  exact List.eq_nil_of_length_eq_zero this
theorem own_spec (p:Pr)(h:ownB p=true)(hk:p.kind=18):spMay p.spec=true:=by
 unfold ownB at h
 simp only[hk,Int.reduceEq,or_self,if_false,if_true,Bool.and_eq_true]at h
 exact h.2.1.1.1.2
theorem own_guards (p:Pr)(h:ownB p=true):∀ g∈p.guards,g.body.length=1:=by
 have key:∀ a b lo hi,guardsB p.guards a b lo hi=true->∀ g∈p.guards,g.body.length=1:=fun a b lo hi h g hg=>by
  unfold guardsB eachB at h
  have:=List.all_eq_true.1 (Bool.and_eq_true_iff.1 h).2 g hg
  unfold guMay at this
  grind
 have k0:p.guards.length=0->∀ g∈p.guards,g.body.length=1:=fun e g hg=>by
  rw[List.eq_nil_of_length_eq_zero e]at hg
  cases hg
 unfold ownB at h
 dsimp only at h
 generalize (if (!decide (p.rep.name=ByteArray.empty))=true then (1:Int) else 0)=least at h
 generalize (if (!decide (p.rep.name=ByteArray.empty))=true then (1:Int) else 16)=most at h
 have h2:=(Bool.and_eq_true_iff.1 h).2
 clear h
 have g2:=key 1 16 7 7
 have g3:=key 0 16 5 6
 by_cases hk:p.kind=1\/p.kind=2
 ·rw[if_pos hk]at h2
  simp only[Bool.and_eq_true,decide_eq_true_eq]at h2
  first
   |exact k0 h2.1.2
   |exact g2 h2.1.2
   |exact g3 h2.1.2
   |exact key _ _ _ _ h2.1.2
 rw[if_neg hk]at h2
 clear hk
 by_cases hk:p.kind=3
 ·rw[if_pos hk]at h2
  simp only[Bool.and_eq_true,decide_eq_true_eq]at h2
  first
   |exact k0 h2.1.2
   |exact g2 h2.1.2
   |exact g3 h2.1.2
   |exact key _ _ _ _ h2.1.2
 rw[if_neg hk]at h2
 clear hk
 by_cases hk:p.kind=4
 ·rw[if_pos hk]at h2
  simp only[Bool.and_eq_true,decide_eq_true_eq]at h2
  first
   |exact k0 h2.1.2
   |exact g2 h2.1.2
   |exact g3 h2.1.2
   |exact key _ _ _ _ h2.1.2
 rw[if_neg hk]at h2
 clear hk
 by_cases hk:p.kind=5
 ·rw[if_pos hk]at h2
  simp only[Bool.and_eq_true,decide_eq_true_eq]at h2
  first
   |exact k0 h2.1.2
   |exact g2 h2.1.2
   |exact g3 h2.1.2
   |exact key _ _ _ _ h2.1.2
 rw[if_neg hk]at h2
 clear hk
 by_cases hk:p.kind=6
 ·rw[if_pos hk]at h2
  simp only[Bool.and_eq_true,decide_eq_true_eq]at h2
  first
   |exact k0 h2.1.2
   |exact g2 h2.1.2
   |exact g3 h2.1.2
   |exact key _ _ _ _ h2.1.2
 rw[if_neg hk]at h2
 clear hk
 by_cases hk:p.kind=7
 ·rw[if_pos hk]at h2
  simp only[Bool.and_eq_true,decide_eq_true_eq]at h2
  first
   |exact k0 h2.1.2
   |exact g2 h2.1.2
   |exact g3 h2.1.2
   |exact key _ _ _ _ h2.1.2
 rw[if_neg hk]at h2
 clear hk
 by_cases hk:p.kind=8\/p.kind=9
 ·rw[if_pos hk]at h2
  simp only[Bool.and_eq_true,decide_eq_true_eq]at h2
  first
   |exact k0 h2.1.2
   |exact g2 h2.1.2
   |exact g3 h2.1.2
   |exact key _ _ _ _ h2.1.2
 rw[if_neg hk]at h2
 clear hk
 by_cases hk:p.kind=10
 ·rw[if_pos hk]at h2
  simp only[Bool.and_eq_true,decide_eq_true_eq]at h2
  first
   |exact k0 h2.1.2
   |exact g2 h2.1.2
   |exact g3 h2.1.2
   |exact key _ _ _ _ h2.1.2
 rw[if_neg hk]at h2
 clear hk
 by_cases hk:p.kind=11
 ·rw[if_pos hk]at h2
  simp only[Bool.and_eq_true,decide_eq_true_eq]at h2
  first
   |exact k0 h2.1.2
   |exact g2 h2.1.2
   |exact g3 h2.1.2
   |exact key _ _ _ _ h2.1.2
 rw[if_neg hk]at h2
 clear hk
 by_cases hk:p.kind=12\/p.kind=13
 ·rw[if_pos hk]at h2
  simp only[Bool.and_eq_true,decide_eq_true_eq]at h2
  first
   |exact k0 h2.1.2
   |exact g2 h2.1.2
   |exact g3 h2.1.2
   |exact key _ _ _ _ h2.1.2
 rw[if_neg hk]at h2
 clear hk
 by_cases hk:p.kind=14
 ·rw[if_pos hk]at h2
  simp only[Bool.and_eq_true,decide_eq_true_eq]at h2
  first
   |exact k0 h2.1.2
   |exact g2 h2.1.2
   |exact g3 h2.1.2
   |exact key _ _ _ _ h2.1.2
 rw[if_neg hk]at h2
 clear hk
 by_cases hk:p.kind=15
 ·rw[if_pos hk]at h2
  simp only[Bool.and_eq_true,decide_eq_true_eq]at h2
  first
   |exact k0 h2.1.2
   |exact g2 h2.1.2
   |exact g3 h2.1.2
   |exact key _ _ _ _ h2.1.2
 rw[if_neg hk]at h2
 clear hk
 by_cases hk:p.kind=16
 ·rw[if_pos hk]at h2
  simp only[Bool.and_eq_true,decide_eq_true_eq]at h2
  first
   |exact k0 h2.1.2
   |exact g2 h2.1.2
   |exact g3 h2.1.2
   |exact key _ _ _ _ h2.1.2
 rw[if_neg hk]at h2
 clear hk
 by_cases hk:p.kind=17
 ·rw[if_pos hk]at h2
  simp only[Bool.and_eq_true,decide_eq_true_eq]at h2
  first
   |exact k0 h2.1.2
   |exact g2 h2.1.2
   |exact g3 h2.1.2
   |exact key _ _ _ _ h2.1.2
 rw[if_neg hk]at h2
 clear hk
 by_cases hk:p.kind=18
 ·rw[if_pos hk]at h2
  simp only[Bool.and_eq_true,decide_eq_true_eq]at h2
  first
   |exact k0 h2.1.2
   |exact g2 h2.1.2
   |exact g3 h2.1.2
   |exact key _ _ _ _ h2.1.2
 rw[if_neg hk]at h2
 clear hk
 cases h2
mutual
theorem prVisit_room:∀ (p:Pr) (depth left:Int) (placing:Bool),0<=left->left<=2048->agree (left - 1) (prVisit depth left placing p) (prRoom depth left placing p)
 |.mk kind name chan targets exprs rep guards l procs (.mk sk st sn se spp sf sb),depth,left,placing,h0,h1=>by
  rw[prVisit,prRoom]
  have hpl:=plain_own (.mk kind name chan targets exprs rep guards l procs (.mk sk st sn se spp sf sb))
  by_cases ho:ownB (.mk kind name chan targets exprs rep guards l procs (.mk sk st sn se spp sf sb))=true
  ·have hbody:=own_guards _ ho
   have hspec:kind=18->_:=fun hk=>jq7 _ (own_spec _ ho hk)
   simp only[Pr.spec,Sp.kind,Sp.proto,Sp.body]at hspec
   rw[ho]at hpl ⊢
   simp only[Bool.true_and,Pr.l]at hpl
   by_cases hx:32<depth\/left=0\/(kind=11/\placing=false)
   ·rw[if_pos (hx.elim (fun h=>.inr (.inl h)) fun h=>h.elim (fun h=>.inl (by omega)) fun h=>.inr (.inr (.inr h))),if_pos (hx.elim .inl fun h=>h.elim (fun h=>.inr (.inl h)) fun h=>.inr (.inr (.inr h)))]
    simp[agree]
   ·rw[if_neg (c:=32<depth\/left=0\/true=false\/(kind=11/\placing=false)) (fun h=>hx (h.elim .inl fun h=>h.elim (fun h=>.inr (.inl h)) fun h=>h.elim (fun h=>by cases h) fun h=>.inr (.inr h)))]
    have hc2:(kind=18/\sk=4/\spp.cases=true/\32<depth+2)↔(kind=18/\spp.cases=true/\32<depth+2):=⟨fun h=>⟨h.1,h.2.2⟩,fun h=>⟨h.1,(hspec h.1).1 h.2.1,h.2⟩⟩
    by_cases hk2:kind=18/\spp.cases=true/\32<depth+2
    ·rw[if_pos (hc2.2 hk2),if_pos hk2,ite_self]
     simp[agree]
    ·rw[if_neg (fun h=>hk2 (hc2.1 h)),if_neg hk2]
     have hb:agree (left - 1) (if kind=18 then headVisit (depth+1) (left - 1) sb else (true,left - 1)) (if kind=18/\sk=5 then headRoom (depth+1) (left - 1) sb else left - 1):=by
      by_cases h18:kind=18
      ·by_cases h5:sk=5
       ·rw[if_pos h18,if_pos ⟨h18,h5⟩]
        exact headVisit_room sb (depth+1) (left - 1) (by omega) (by omega)
       ·rw[if_pos h18,if_neg (fun h=>h5 h.2),(hspec h18).2.2 h5,headVisit]
        exact⟨⟨fun _=>by omega,fun _=>rfl⟩,fun _=>⟨rfl,Int.le_refl _⟩⟩
      ·rw[if_neg h18,if_neg (fun h=>h18 h.1)]
       exact⟨⟨fun _=>by omega,fun _=>rfl⟩,fun _=>⟨rfl,Int.le_refl _⟩⟩
     dsimp only
     generalize (if kind=18 then headVisit (depth+1) (left - 1) sb else (true,left - 1))=bV at hb ⊢
     generalize (if kind=18/\sk=5 then headRoom (depth+1) (left - 1) sb else left - 1)=bR at hb ⊢
     generalize (if kind=11 then depth+2 else if kind=18 then depth else depth+1)=dep
     have fls:∀ v:Bool × Int,∀ r:Int,(v.1=true↔0<=r)->¬0<=r->v.1=false:=fun v r h h2=>by
      cases h3:v.1 with
      |false=>rfl
      |true=>exact absurd (h.1 h3) h2
     by_cases hbr:0<=bR
     ·obtain⟨h2,h3⟩:=hb.2 hbr
      have hm:=prsVisit_room l dep bR (placing && decide (kind=18)) hbr (by omega)
      by_cases hmr:0<=prsRoom dep bR (placing && decide (kind=18)) l
      ·obtain⟨h4,h5⟩:=hm.2 hmr
       have hl:l.length<=2048:=by omega
       rw[if_neg (by rw[hpl];simp[hl];exact⟨by omega,Int.not_lt.1 fun h=>hx (.inl h),fun h=>by cases hq:placing with|true=>rfl|false=>exact absurd (.inr (.inr ⟨h,hq⟩)) hx⟩),if_neg (by rw[hb.1.2 hbr];simp),h2,if_neg (by rw[hm.1.2 hmr];simp),h4]
       have hg:=js9 guards (depth+2) _ hmr (by omega)
       exact⟨hg.1,fun h=>⟨(hg.2 h).1,by have:=(hg.2 h).2;omega⟩⟩
      ·have hf:=fls _ _ hm.1 hmr
       rw[gusRoom_neg _ _ (by omega)]
       refine⟨⟨fun h=>?_,fun h=>absurd h hmr⟩,fun h=>absurd h hmr⟩
       rw[if_neg (c:=bV.1=false) (by rw[hb.1.2 hbr];simp),h2,if_pos hf]at h
       split at h<;>cases h
     ·have hf:=fls _ _ hb.1 hbr
      rw[prsRoom_neg _ _ _ (by omega),gusRoom_neg _ _ (by omega)]
      refine⟨⟨fun h=>?_,fun h=>absurd h hbr⟩,fun h=>absurd h hbr⟩
      rw[if_pos hf]at h
      split at h<;>cases h
  ·have ho':=Bool.eq_false_iff.2 ho
   rw[if_pos (by rw[hpl,ho'];simp),if_pos (by rw[ho'];simp)]
   simp[agree]
theorem headVisit_room:∀ (l:List Pr) (depth left:Int),0<=left->left<=2048->agree left (headVisit depth left l) (headRoom depth left l)
 |[],depth,left,h0,h1=>by simp[headVisit,headRoom,agree,h0]
 |p::l,depth,left,h0,h1=>by
  have:=prVisit_room p depth left false h0 h1
  unfold agree at this ⊢
  rw[headVisit,headRoom]
  exact⟨this.1,fun h=>⟨(this.2 h).1,by have:=(this.2 h).2;omega⟩⟩
theorem prsVisit_room:∀ (l:List Pr) (depth left:Int) (placing:Bool),0<=left->left<=2048->agree (left - l.length) (prsVisit depth left placing l) (prsRoom depth left placing l)
 |[],depth,left,placing,h0,h1=>by simp[prsVisit,prsRoom,agree,h0]
 |p::l,depth,left,placing,h0,h1=>by
  have hp:=prVisit_room p depth left placing h0 h1
  unfold agree at hp ⊢
  rw[prsVisit,prsRoom,if_neg (show ¬left<0 by omega)]
  by_cases hr:0<=prRoom depth left placing p
  ·obtain⟨h2,h3⟩:=hp.2 hr
   have ih:=prsVisit_room l depth (prRoom depth left placing p) placing hr (by omega)
   unfold agree at ih
   rw[if_pos (hp.1.2 hr),h2]
   refine⟨ih.1,fun h=>⟨(ih.2 h).1,?_⟩⟩
   have:=(ih.2 h).2
   simp only[List.length_cons]
   omega
  ·have:(prVisit depth left placing p).1=false:=by
    cases h:(prVisit depth left placing p).1 with
    |false=>rfl
    |true=>exact absurd (hp.1.1 h) hr
   rw[if_neg (by rw[this];simp),this,prsRoom_neg _ _ _ (show prRoom depth left placing p<0 by omega)]
   exact⟨⟨fun h=>(by cases h),fun h=>absurd h hr⟩,fun h=>absurd h hr⟩
theorem js9:∀ (l:List Gu) (depth left:Int),0<=left->left<=2048->agree left (gusVisit depth left l) (gusRoom depth left l)
 |[],depth,left,h0,h1=>by simp[gusVisit,gusRoom,agree,h0]
 |.mk _ _ _ _ _ _ _ body::l,depth,left,h0,h1=>by
  have hp:=headVisit_room body depth left h0 h1
  unfold agree at hp ⊢
  rw[gusVisit,gusRoom,if_neg (show ¬left<0 by omega)]
  by_cases hr:0<=headRoom depth left body
  ·obtain⟨h2,h3⟩:=hp.2 hr
   have ih:=js9 l depth (headRoom depth left body) hr (by omega)
   unfold agree at ih
   rw[if_pos (hp.1.2 hr),h2]
   refine⟨ih.1,fun h=>⟨(ih.2 h).1,?_⟩⟩
   have:=(ih.2 h).2
   omega
  ·have:(headVisit depth left body).1=false:=by
    cases h:(headVisit depth left body).1 with
    |false=>rfl
    |true=>exact absurd (hp.1.1 h) hr
   rw[if_neg (by rw[this];simp),this,gusRoom_neg _ _ (show headRoom depth left body<0 by omega)]
   exact⟨⟨fun h=>(by cases h),fun h=>absurd h hr⟩,fun h=>absurd h hr⟩
end
end Lx
end
section
def qo6_0:List Nat:=[0,2,3,4,5,6,7,26]
theorem kk7 (e:Ex):dE e=.agg [.int .u8 e.kind,.int .u8 e.op,.int .u8 e.ty,.int .i32 e.n,.str e.s,.list 6 (e.l.map dE)]:=by
 rw[dE,r9]
theorem FnE.ofD {P:Program}{gl:List (Nat × List D)}{f:FuncId}{args:List V}{x:D}(h:FnD P gl f args (fun v=>v=.d x))(hp:Pures args):FnE P gl f args [] (fun v H1=>v=.d x/\H1=[]):=fun w M β us h1 h2 h3 h4=>by
 have hlow:∀ b o,Mut M β [] b o->b<w.heap.size:=by
  rintro b o (hm|⟨n,ob,hl,_⟩)
  ·exact h1 b o hm
  ·cases hl
 refine(h w (Mut M β []) us hlow (RepL.pure (fun v hv u hu=>(hp.all v hv).keep (Keeps.refl _ _) u hu) h2) h4).mono ?_
 rintro e w' ⟨v,y,rfl,hpv,rfl,hb,hv⟩
 exact⟨_,y,[],β,⟨rfl,rfl⟩,rfl,rfl,Frm.of_below hb _,fun _ _=>rfl,fun n ob b hl=>(by cases hl),⟨fun n ob hl=>(by cases hl),fun n m b ob ob' _ hl=>(by cases hl),fun n ob b o hl=>(by cases hl)⟩,hpv.keep (Keeps.refl _ _) y hv⟩
attribute [local irreducible] TR TC
theorem kd1 (gl:List (Nat × List D))(a b:Int)(n:Nat):FnD prog gl 137 [.d (.agg [.int .i64 a,.int .i64 b]),.d (.int .i64 n)] (fun v=>v=.d (.bool (Lx.hasB a b n))):=by
 (refine j4 func137 ntmps137 results137 fun w M=>?_)
 (repeat' first|refine tr_at 2 ?_;(refine k7 2 ?_)|refine yyp ?_;try refine s_bu ?_ ?_<;>intro hb|refine yy ?_|refine yy2 ?_ ?_<;>intro hcmp|refine at_nil ?_;refine z_nil [0,1,2,4,5,6,7] ?_|refine tc_seq fun K hK=>?_|apply_assumption -exfalso -symm)
 all_goals
  (refine j0 (j6 ?_))
  simp only[oneOf,Lx.hasB, *,decide_true,decide_false,Bool.and_true,Bool.and_false,Bool.true_and,Bool.false_and]
theorem kv5 (gl:List (Nat × List D))(a b c:Bool):FnD prog gl 139 [.d (.bool a),.d (.bool b),.d (.bool c)] (fun v=>v=.d (.bool (if a then b else c))):=by
 (refine j4 func139 ntmps139 results139 fun w M=>?_)
 (repeat' first|refine yyp ?_;try refine s_bu ?_ ?_<;>intro hb|refine yy ?_|refine at_nil ?_;refine z_nil [0,1,2,6,7,8] ?_|refine tc_seq fun K hK=>?_|apply_assumption -exfalso -symm)
 all_goals
  (refine j0 (j6 ?_))
  simp only[oneOf, *,if_true,if_false,Bool.false_eq_true]
theorem kd2 (gl:List (Nat × List D))(c:UInt8):FnD prog gl 175 [.d (.int .u8 c.toNat)] (fun v=>v=.d (.bool (Lx.letter c))):=by
 (refine j4 func175 ntmps175 results175 fun w M=>?_)
 (repeat' first|refine yyp ?_;try refine s_bu ?_ ?_<;>intro hb|refine yy ?_|refine yy2 ?_ ?_<;>intro hcmp|refine at_nil ?_;refine z_nil [0,2,3,4,5,6] ?_|refine tc_seq fun K hK=>?_|apply_assumption -exfalso -symm)
 all_goals
  (refine j0 (j6 ?_))
  simp only[oneOf,V.d.injEq,D.bool.injEq,Lx.letter]
  first|(symm;simp only[Bool.or_eq_true,decide_eq_true_eq];omega)|(symm;simp only[Bool.or_eq_false_iff,decide_eq_false_iff_not];omega)
theorem qg2 (gl:List (Nat × List D))(c:UInt8):FnD prog gl 200 [.d (.int .u8 c.toNat)] (fun v=>v=.d (.bool (Lx.digit c))):=by
 (refine j4 func200 ntmps200 results200 fun w M=>?_)
 (repeat' first|refine yyp ?_;try refine s_bu ?_ ?_<;>intro hb|refine yy ?_|refine yy2 ?_ ?_<;>intro hcmp|refine at_nil ?_;refine z_nil [0,2,3,4,5,6] ?_|refine tc_seq fun K hK=>?_|apply_assumption -exfalso -symm)
 all_goals
  (refine j0 (j6 ?_))
  simp only[oneOf,V.d.injEq,D.bool.injEq,Lx.digit]
  first|(symm;simp only[decide_eq_true_eq];omega)|(symm;simp only[decide_eq_false_iff_not];omega)
theorem qz2 (l:List UInt8)(k:Nat)(hk:k<l.length):Lx.run (l.drop k)=if Lx.wordB l[k] then Lx.run (l.drop (k+1))+1 else 0:=by
 rw[List.drop_eq_getElem_cons hk]
 rfl
theorem qn7 (gl:List (Nat × List D))(s:ByteArray)(hs:s.size<=1000000000000):FnD prog gl 176 [.d (.str s)] (fun v=>v=.d (.int .i64 (Lx.run s.data.toList))):=by
 have hsz:s.data.toList.length=s.size:=by simp
 (refine j4 func176 ntmps176 results176 fun w M=>?_)
 (repeat' first|refine yyp ?_;try refine s_bu ?_ ?_<;>intro hb|refine yy ?_|refine at_nil ?_;refine z_nil qo6_0 ?_|refine tc_seq fun K hK=>?_|apply_assumption -exfalso -symm)
 refine k9 [2,3,6,7,8,9,10,11,12,13,14,15,16,17,18,19,20,21,22,23,24,25,26,27,28] [] (fun k:Nat=>[(6,.d (.int .i64 k))]) (fun _=>[]) (fun k=>k<=s.size/\Lx.run s.data.toList=Lx.run (s.data.toList.drop k)+k) (fun k=>s.size - k) 0 ⟨by simp,by simp⟩ fun k ⟨hk,hr⟩=>?_
 dsimp only[List.cons_append,List.nil_append]
 by_cases hk2:k<s.size
 ·have hat:s.data.toList[k]? =some (s.data.toList[k]'(by omega)):=List.getElem?_eq_getElem (by omega)
  generalize hc:s.data.toList[k]'(by omega)=c at hat
  have hrun:=qz2 s.data.toList k (by omega)
  rw[hc]at hrun
  (repeat' first|refine yyp ?_;try refine s_bu ?_ ?_<;>intro hb|refine yy ?_|refine yy2 ?_ ?_<;>intro hcmp|refine at_call 175 ?_;refine y_call (hc:=(kd2 gl c)) ?_;try refine s_bu ?_ ?_<;>intro hb|refine at_call 200 ?_;refine y_call (hc:=(qg2 gl c)) ?_;try refine s_bu ?_ ?_<;>intro hb|refine at_nil ?_;refine z_nil qo6_0 ?_|refine tc_seq fun K hK=>?_|apply_assumption -exfalso -symm)
  ·refine⟨k+1,⟨by omega,?_⟩,by omega,v7⟩
   rw[hr,hrun,if_pos (by unfold Lx.wordB;rw[hb];simp)]
   omega
  ·refine⟨k+1,⟨by omega,?_⟩,by omega,v7⟩
   rw[hr,hrun,if_pos (by unfold Lx.wordB;rw[hb];simp)]
   omega
  ·(refine j0 (j6 ?_))
   have h46:¬c.toNat=46:=by omega
   rw[hr,hrun,if_neg (by simp only[Lx.wordB, *,decide_false,Bool.or_false,Bool.false_eq_true,not_false_eq_true])]
   simp[oneOf]
  ·refine⟨k+1,⟨by omega,?_⟩,by omega,v7⟩
   have h46:c.toNat=46:=by omega
   rw[hr,hrun,if_pos (by unfold Lx.wordB;rw[h46];simp)]
   omega
 ·(repeat' first|refine yyp ?_;try refine s_bu ?_ ?_<;>intro hb|refine yy ?_|refine at_nil ?_;refine z_nil qo6_0 ?_|refine tc_seq fun K hK=>?_|apply_assumption -exfalso -symm)
  (refine j0 (j6 ?_))
  have:k=s.size:=by omega
  rw[hr,this,<-hsz,List.drop_length]
  simp[oneOf,Lx.run]
end
end Go.Proofs.YtdopmfifmgkmoaaGreatDoor
