/- Parts: O4, O5, O6, S1, S2. -/
import Derived.Test.YtklklgfpkpglgaaGreatDoorP13
set_option linter.all false
set_option maxRecDepth 100000
set_option maxHeartbeats 16000000
namespace Go.Proofs.YtklklgfpkpglgaaGreatDoor
open Go.RowKit Go.Proofs.Tryz
section
namespace Lx
noncomputable def Ka (e:Ex):Bool:=eqB e ex0
def Iw (e:Ex):Bool:=(decide (e.kind=4) || decide (e.kind=5)) && Ja e
def Rf (t:Ty):Bool:=Pp t && decide (t.dim=0) && prim t.kind
noncomputable def Kn (r:Rp):Bool:=if r.name=ByteArray.empty then Ka r.base && Ka r.count else Dg r.name && Ja r.base && Ja r.count
def Px (f:Fo):Bool:=Dg f.name && Pp f.type && (!f.val || Rf f.type)
def hasB (a b:Int)(n:Nat):Bool:=decide (a<=n) && decide ((n:Int)<=b)
def Dj {α:Type}(l:List α)(a b:Int)(p:α->Bool):Bool:=hasB a b l.length && l.all p
noncomputable def Le (g:Gu):Bool:=
 decide (g.kind≠0) && decide (g.kind<=7) && decide (g.body.length=1) &&
 (if g.kind=1\/g.kind=2\/g.kind=3\/g.kind=4 then (Ja g.cond || ((decide (g.kind=3) || decide (g.kind=4)) && Ka g.cond)) else Ka g.cond) &&
 (if g.kind=7 then Dg g.name else decide (g.name=ByteArray.empty)) &&
 (if g.kind=3\/g.kind=4 then Iw g.chan else Ka g.chan) &&
 (if g.kind=4 then Ja g.time else Ka g.time) &&
 Dj g.targets (if g.kind=3 then 1 else 0) (if g.kind=3\/g.kind=7 then 8 else 0) Iw &&
 Dj g.values (if g.kind=5 then 1 else 0) (if g.kind=5 then 8 else 0) Ja
noncomputable def Kh (s:Sp):Bool:=
 if s.kind=1 then Pp s.type && Dj s.names 1 8 Dg && Ka s.e && eqB s.proto pt0 && decide (s.formals.length=0) && decide (s.body.length=0)
 else if s.kind=2 then Rf s.type && Ja s.e && Dj s.names 1 1 Dg && eqB s.proto pt0 && decide (s.formals.length=0) && decide (s.body.length=0)
 else if s.kind=3 then Rf s.type && Iw s.e && Dj s.names 1 1 Dg && eqB s.proto pt0 && decide (s.formals.length=0) && decide (s.body.length=0)
 else if s.kind=4 then Qm s.proto && Dj s.names 1 1 Dg && eqB s.type ty0 && Ka s.e && decide (s.formals.length=0) && decide (s.body.length=0)
 else if s.kind=5 then decide (s.body.length=1) && Dj s.formals 0 8 Px && Dj s.names 1 1 Dg && eqB s.type ty0 && Ka s.e && eqB s.proto pt0
 else false
structure Uses where
 rep:Bool
 name:Bool
 channel:Bool
 spec:Bool
 procs:Bool
 t0:Int
 t1:Int
 e0:Int
 e1:Int
 p0:Int
 p1:Int
 g0:Int
 g1:Int
 a:Int
 b:Int
def Gr:Uses:=⟨false,false,false,false,false,0,0,0,0,0,0,0,0,0,0⟩
def Hf (k:Int):Uses × Bool:=
 if k=1\/k=2 then (Gr,true)
 else if k=3 then ({Gr with t0:=1,t1:=8,e0:=1,e1:=8},true)
 else if k=4 then ({Gr with channel:=true,t0:=1,t1:=8},true)
 else if k=5 then ({Gr with channel:=true,e0:=1,e1:=9},true)
 else if k=6 then ({Gr with channel:=true,e0:=1,e1:=1},true)
 else if k=7 then ({Gr with channel:=true,g0:=1,g1:=16,a:=7,b:=7},true)
 else if k=8\/k=9 then ({Gr with rep:=true,p0:=0,p1:=2048},true)
 else if k=10 then ({Gr with p0:=2,p1:=2},true)
 else if k=11 then ({Gr with procs:=true,p0:=1,p1:=8},true)
 else if k=12\/k=13 then ({Gr with rep:=true,g0:=0,g1:=16,a:=2,b:=4},true)
 else if k=14 then ({Gr with rep:=true,g0:=0,g1:=16,a:=1,b:=1},true)
 else if k=15 then ({Gr with e0:=1,e1:=1,g0:=0,g1:=16,a:=5,b:=6},true)
 else if k=16 then ({Gr with e0:=1,e1:=1,p0:=1,p1:=1},true)
 else if k=17 then ({Gr with name:=true,e0:=0,e1:=8},true)
 else if k=18 then ({Gr with spec:=true,p0:=1,p1:=1},true)
 else (Gr,false)
def Ii (u:Uses)(r:ByteArray):Uses:=if r=ByteArray.empty then u else if u.p0=0/\u.p1=2048 then {u with p0:=1,p1:=1} else {u with g0:=1,g1:=1}
noncomputable def Gq (p:Pr):Bool:=
 (Hf p.kind).2 && Kn p.rep && (decide (p.rep.name=ByteArray.empty) || (Hf p.kind).1.rep) &&
 (let u:=Ii (Hf p.kind).1 p.rep.name
  hasB u.p0 u.p1 p.l.length && Dj p.guards u.g0 u.g1 (fun g=>decide (u.a<=g.kind) && decide (g.kind<=u.b) && Le g) &&
  (if u.name then Dg p.name else decide (p.name=ByteArray.empty)) &&
  (if u.channel then Iw p.chan else Ka p.chan) &&
  Dj p.targets u.t0 u.t1 Iw && Dj p.exprs u.e0 u.e1 Ja &&
  Dj p.procs (if u.procs then p.l.length else 0) (if u.procs then p.l.length else 0) (fun n=>decide (0<=n) && decide (n<8)) &&
  (if u.spec then Kh p.spec else eqB p.spec sp0))
mutual
noncomputable def Dh (depth left:Int)(placing:Bool):Pr->Bool × Int
 |.mk kind name chan targets exprs rep guards l procs (.mk sk st sn se spp sf sb)=>
  if left - 1<0\/32<depth\/Gq (.mk kind name chan targets exprs rep guards l procs (.mk sk st sn se spp sf sb))=false\/(kind=11/\placing=false) then (false,left - 1)
  else if kind=18/\spp.cases=true/\32<depth+2 then (false,left - 1)
  else
   let b:=if kind=18 then Co (depth+1) (left - 1) sb else (true,left - 1)
   if b.1=false then (false,b.2)
   else
    let m:=Di (if kind=11 then depth+2 else if kind=18 then depth else depth+1) b.2 (placing && decide (kind=18)) l
    if m.1=false then (false,m.2) else Gh (depth+2) m.2 guards
noncomputable def Co (depth left:Int):List Pr->Bool × Int
 |[]=>(true,left)
 |p::_=>Dh depth left false p
noncomputable def Di (depth left:Int)(placing:Bool):List Pr->Bool × Int
 |[]=>(true,left)
 |p::l=>if (Dh depth left placing p).1 then Di depth (Dh depth left placing p).2 placing l else Dh depth left placing p
noncomputable def Gh (depth left:Int):List Gu->Bool × Int
 |[]=>(true,left)
 |.mk _ _ _ _ _ _ _ body::l=>if (Co depth left body).1 then Gh depth (Co depth left body).2 l else Co depth left body
end
noncomputable def He (p:Pr):Bool:=(Dh 0 2048 true p).1
end Lx
end
section
namespace Lx
noncomputable def Io (p:Pr)(nm ch tg ex pc sp:Bool):Bool:=
 (nm || decide (p.name=ByteArray.empty)) && (ch || Ka p.chan) && (tg || decide (p.targets.length=0)) && (ex || decide (p.exprs.length=0)) && (pc || decide (p.procs.length=0)) && (sp || eqB p.spec sp0)
noncomputable def Ic (l:List Gu)(a b lo hi:Int):Bool:=Dj l a b fun g=>decide (lo<=g.kind) && decide (g.kind<=hi) && Le g
noncomputable def mx1 (p:Pr):Bool:=
 let rep:=!decide (p.rep.name=ByteArray.empty)
 let l0:=decide (p.l.length=0)
 let g0:=decide (p.guards.length=0)
 let least:Int:=if rep then 1 else 0
 let most:Int:=if rep then 1 else 16
 Kn p.rep &&
 (if p.kind=1\/p.kind=2 then !rep && l0 && g0 && Io p false false false false false false
 else if p.kind=3 then !rep && Dj p.targets 1 8 Iw && Dj p.exprs 1 8 Ja && l0 && g0 && Io p false false true true false false
 else if p.kind=4 then !rep && Iw p.chan && Dj p.targets 1 8 Iw && l0 && g0 && Io p false true true false false false
 else if p.kind=5 then !rep && Iw p.chan && Dj p.exprs 1 9 Ja && l0 && g0 && Io p false true false true false false
 else if p.kind=6 then !rep && Iw p.chan && Dj p.exprs 1 1 Ja && l0 && g0 && Io p false true false true false false
 else if p.kind=7 then !rep && Iw p.chan && l0 && Ic p.guards 1 16 7 7 && Io p false true false false false false
 else if p.kind=8\/p.kind=9 then (!rep || decide (p.l.length=1)) && g0 && Io p false false false false false false
 else if p.kind=10 then !rep && decide (p.l.length=2) && g0 && Io p false false false false false false
 else if p.kind=11 then !rep && decide (p.procs.length=p.l.length) && p.procs.all (fun n=>decide (0<=n) && decide (n<8)) && hasB 1 8 p.l.length && g0 && Io p false false false false true false
 else if p.kind=12\/p.kind=13 then l0 && Ic p.guards least most 2 4 && Io p false false false false false false
 else if p.kind=14 then l0 && Ic p.guards least most 1 1 && Io p false false false false false false
 else if p.kind=15 then !rep && Dj p.exprs 1 1 Ja && l0 && Ic p.guards 0 16 5 6 && Io p false false false true false false
 else if p.kind=16 then !rep && Dj p.exprs 1 1 Ja && decide (p.l.length=1) && g0 && Io p false false false true false false
 else if p.kind=17 then !rep && Dg p.name && Dj p.exprs 0 8 Ja && l0 && g0 && Io p true false false true false false
 else if p.kind=18 then !rep && Kh p.spec && decide (p.l.length=1) && g0 && Io p false false false false false true
 else false)
theorem ku5 (n:Nat):hasB 0 0 n=decide (n=0):=by
 unfold hasB;rw[Ez];simp only[Aa,Ak];omega
theorem mb8 (n:Nat):hasB 1 1 n=decide (n=1):=by
 unfold hasB;rw[Ez];simp only[Aa,Ak];omega
theorem mb9 (n:Nat):hasB 2 2 n=decide (n=2):=by
 unfold hasB;rw[Ez];simp only[Aa,Ak];omega
theorem jb1 (n:Nat):hasB 0 2048 n=decide (n<=2048):=by
 unfold hasB;rw[Ez];simp only[Aa,Ak];omega
theorem qu3 (a b:Nat):hasB b b a=decide (a=b):=by
 unfold hasB;rw[Ez];simp only[Aa,Ak];omega
theorem jf5 {α:Type}(l:List α)(p:α->Bool):Dj l 0 0 p=decide (l.length=0):=by
 unfold Dj;rw[ku5];cases l<;>simp
theorem y6 (procs:List Int)(b:Nat):Dj procs (b:Int) b (fun n=>decide (0<=n) && decide (n<8))=(decide (procs.length=b) && procs.all fun n=>decide (0<=n) && decide (n<8)):=by unfold Dj;rw[qu3]
theorem Iy (p:Pr):Gq p=(mx1 p && decide (p.l.length<=2048)):=by
 obtain⟨kind,name,chan,targets,exprs,rep,guards,l,procs,spec⟩:=p;unfold Gq mx1;simp only[Pr.kind,Pr.name,Pr.chan,Pr.targets,Pr.exprs,Pr.rep,Pr.guards,Pr.l,Pr.procs,Pr.spec];cases Kn rep with
 |false=>simp
 |true=>
  by_cases hr:rep.name=ByteArray.empty
  all_goals
   simp only[hr,decide_true,decide_false,Bool.not_true,Bool.not_false,Ii,if_true,if_false,Ek,Ef,Bw,Bi,Ba];by_cases h1:kind=1
   ·subst h1;simp only[Hf,Gr,if_true,if_false,Ba,Io,Ic,ku5,mb8,mb9,jb1,jf5,y6,Pr.name,Pr.chan,Pr.targets,Pr.exprs,Pr.procs,Pr.spec,Int.reduceEq,or_self,or_true,true_or,or_false,false_or,and_self,and_true,and_false,false_and,true_and,decide_true,decide_false,Bi,Bj,Bool.not_true,Bool.not_false,Ec,El,Ek,Ef,Bw,Bo,reduceCtorEq]<;>grind [hasB,Dj]
   by_cases h2:kind=2
   ·subst h2;simp only[Hf,Gr,if_true,if_false,Ba,Io,Ic,ku5,mb8,mb9,jb1,jf5,y6,Pr.name,Pr.chan,Pr.targets,Pr.exprs,Pr.procs,Pr.spec,Int.reduceEq,or_self,or_true,true_or,or_false,false_or,and_self,and_true,and_false,false_and,true_and,decide_true,decide_false,Bi,Bj,Bool.not_true,Bool.not_false,Ec,El,Ek,Ef,Bw,Bo,reduceCtorEq]<;>grind [hasB,Dj]
   by_cases h3:kind=3
   ·subst h3;simp only[Hf,Gr,if_true,if_false,Ba,Io,Ic,ku5,mb8,mb9,jb1,jf5,y6,Pr.name,Pr.chan,Pr.targets,Pr.exprs,Pr.procs,Pr.spec,Int.reduceEq,or_self,or_true,true_or,or_false,false_or,and_self,and_true,and_false,false_and,true_and,decide_true,decide_false,Bi,Bj,Bool.not_true,Bool.not_false,Ec,El,Ek,Ef,Bw,Bo,reduceCtorEq]<;>grind [hasB,Dj]
   by_cases h4:kind=4
   ·subst h4;simp only[Hf,Gr,if_true,if_false,Ba,Io,Ic,ku5,mb8,mb9,jb1,jf5,y6,Pr.name,Pr.chan,Pr.targets,Pr.exprs,Pr.procs,Pr.spec,Int.reduceEq,or_self,or_true,true_or,or_false,false_or,and_self,and_true,and_false,false_and,true_and,decide_true,decide_false,Bi,Bj,Bool.not_true,Bool.not_false,Ec,El,Ek,Ef,Bw,Bo,reduceCtorEq]<;>grind [hasB,Dj]
   by_cases h5:kind=5
   ·subst h5;simp only[Hf,Gr,if_true,if_false,Ba,Io,Ic,ku5,mb8,mb9,jb1,jf5,y6,Pr.name,Pr.chan,Pr.targets,Pr.exprs,Pr.procs,Pr.spec,Int.reduceEq,or_self,or_true,true_or,or_false,false_or,and_self,and_true,and_false,false_and,true_and,decide_true,decide_false,Bi,Bj,Bool.not_true,Bool.not_false,Ec,El,Ek,Ef,Bw,Bo,reduceCtorEq]<;>grind [hasB,Dj]
   by_cases h6:kind=6
   ·subst h6;simp only[Hf,Gr,if_true,if_false,Ba,Io,Ic,ku5,mb8,mb9,jb1,jf5,y6,Pr.name,Pr.chan,Pr.targets,Pr.exprs,Pr.procs,Pr.spec,Int.reduceEq,or_self,or_true,true_or,or_false,false_or,and_self,and_true,and_false,false_and,true_and,decide_true,decide_false,Bi,Bj,Bool.not_true,Bool.not_false,Ec,El,Ek,Ef,Bw,Bo,reduceCtorEq]<;>grind [hasB,Dj]
   by_cases h7:kind=7
   ·subst h7;simp only[Hf,Gr,if_true,if_false,Ba,Io,Ic,ku5,mb8,mb9,jb1,jf5,y6,Pr.name,Pr.chan,Pr.targets,Pr.exprs,Pr.procs,Pr.spec,Int.reduceEq,or_self,or_true,true_or,or_false,false_or,and_self,and_true,and_false,false_and,true_and,decide_true,decide_false,Bi,Bj,Bool.not_true,Bool.not_false,Ec,El,Ek,Ef,Bw,Bo,reduceCtorEq]<;>grind [hasB,Dj]
   by_cases h8:kind=8
   ·subst h8;simp only[Hf,Gr,if_true,if_false,Ba,Io,Ic,ku5,mb8,mb9,jb1,jf5,y6,Pr.name,Pr.chan,Pr.targets,Pr.exprs,Pr.procs,Pr.spec,Int.reduceEq,or_self,or_true,true_or,or_false,false_or,and_self,and_true,and_false,false_and,true_and,decide_true,decide_false,Bi,Bj,Bool.not_true,Bool.not_false,Ec,El,Ek,Ef,Bw,Bo,reduceCtorEq]<;>grind [hasB,Dj]
   by_cases h9:kind=9
   ·subst h9;simp only[Hf,Gr,if_true,if_false,Ba,Io,Ic,ku5,mb8,mb9,jb1,jf5,y6,Pr.name,Pr.chan,Pr.targets,Pr.exprs,Pr.procs,Pr.spec,Int.reduceEq,or_self,or_true,true_or,or_false,false_or,and_self,and_true,and_false,false_and,true_and,decide_true,decide_false,Bi,Bj,Bool.not_true,Bool.not_false,Ec,El,Ek,Ef,Bw,Bo,reduceCtorEq]<;>grind [hasB,Dj]
   by_cases h10:kind=10
   ·subst h10;simp only[Hf,Gr,if_true,if_false,Ba,Io,Ic,ku5,mb8,mb9,jb1,jf5,y6,Pr.name,Pr.chan,Pr.targets,Pr.exprs,Pr.procs,Pr.spec,Int.reduceEq,or_self,or_true,true_or,or_false,false_or,and_self,and_true,and_false,false_and,true_and,decide_true,decide_false,Bi,Bj,Bool.not_true,Bool.not_false,Ec,El,Ek,Ef,Bw,Bo,reduceCtorEq]<;>grind [hasB,Dj]
   by_cases h11:kind=11
   ·subst h11;simp only[Hf,Gr,if_true,if_false,Ba,Io,Ic,ku5,mb8,mb9,jb1,jf5,y6,Pr.name,Pr.chan,Pr.targets,Pr.exprs,Pr.procs,Pr.spec,Int.reduceEq,or_self,or_true,true_or,or_false,false_or,and_self,and_true,and_false,false_and,true_and,decide_true,decide_false,Bi,Bj,Bool.not_true,Bool.not_false,Ec,El,Ek,Ef,Bw,Bo,reduceCtorEq]<;>grind [hasB,Dj]
   by_cases h12:kind=12
   ·subst h12;simp only[Hf,Gr,if_true,if_false,Ba,Io,Ic,ku5,mb8,mb9,jb1,jf5,y6,Pr.name,Pr.chan,Pr.targets,Pr.exprs,Pr.procs,Pr.spec,Int.reduceEq,or_self,or_true,true_or,or_false,false_or,and_self,and_true,and_false,false_and,true_and,decide_true,decide_false,Bi,Bj,Bool.not_true,Bool.not_false,Ec,El,Ek,Ef,Bw,Bo,reduceCtorEq]<;>grind [hasB,Dj]
   by_cases h13:kind=13
   ·subst h13;simp only[Hf,Gr,if_true,if_false,Ba,Io,Ic,ku5,mb8,mb9,jb1,jf5,y6,Pr.name,Pr.chan,Pr.targets,Pr.exprs,Pr.procs,Pr.spec,Int.reduceEq,or_self,or_true,true_or,or_false,false_or,and_self,and_true,and_false,false_and,true_and,decide_true,decide_false,Bi,Bj,Bool.not_true,Bool.not_false,Ec,El,Ek,Ef,Bw,Bo,reduceCtorEq]<;>grind [hasB,Dj]
   by_cases h14:kind=14
   ·subst h14;simp only[Hf,Gr,if_true,if_false,Ba,Io,Ic,ku5,mb8,mb9,jb1,jf5,y6,Pr.name,Pr.chan,Pr.targets,Pr.exprs,Pr.procs,Pr.spec,Int.reduceEq,or_self,or_true,true_or,or_false,false_or,and_self,and_true,and_false,false_and,true_and,decide_true,decide_false,Bi,Bj,Bool.not_true,Bool.not_false,Ec,El,Ek,Ef,Bw,Bo,reduceCtorEq]<;>grind [hasB,Dj]
   by_cases h15:kind=15
   ·subst h15;simp only[Hf,Gr,if_true,if_false,Ba,Io,Ic,ku5,mb8,mb9,jb1,jf5,y6,Pr.name,Pr.chan,Pr.targets,Pr.exprs,Pr.procs,Pr.spec,Int.reduceEq,or_self,or_true,true_or,or_false,false_or,and_self,and_true,and_false,false_and,true_and,decide_true,decide_false,Bi,Bj,Bool.not_true,Bool.not_false,Ec,El,Ek,Ef,Bw,Bo,reduceCtorEq]<;>grind [hasB,Dj]
   by_cases h16:kind=16
   ·subst h16;simp only[Hf,Gr,if_true,if_false,Ba,Io,Ic,ku5,mb8,mb9,jb1,jf5,y6,Pr.name,Pr.chan,Pr.targets,Pr.exprs,Pr.procs,Pr.spec,Int.reduceEq,or_self,or_true,true_or,or_false,false_or,and_self,and_true,and_false,false_and,true_and,decide_true,decide_false,Bi,Bj,Bool.not_true,Bool.not_false,Ec,El,Ek,Ef,Bw,Bo,reduceCtorEq]<;>grind [hasB,Dj]
   by_cases h17:kind=17
   ·subst h17;simp only[Hf,Gr,if_true,if_false,Ba,Io,Ic,ku5,mb8,mb9,jb1,jf5,y6,Pr.name,Pr.chan,Pr.targets,Pr.exprs,Pr.procs,Pr.spec,Int.reduceEq,or_self,or_true,true_or,or_false,false_or,and_self,and_true,and_false,false_and,true_and,decide_true,decide_false,Bi,Bj,Bool.not_true,Bool.not_false,Ec,El,Ek,Ef,Bw,Bo,reduceCtorEq]<;>grind [hasB,Dj]
   by_cases h18:kind=18
   ·subst h18;simp only[Hf,Gr,if_true,if_false,Ba,Io,Ic,ku5,mb8,mb9,jb1,jf5,y6,Pr.name,Pr.chan,Pr.targets,Pr.exprs,Pr.procs,Pr.spec,Int.reduceEq,or_self,or_true,true_or,or_false,false_or,and_self,and_true,and_false,false_and,true_and,decide_true,decide_false,Bi,Bj,Bool.not_true,Bool.not_false,Ec,El,Ek,Ef,Bw,Bo,reduceCtorEq]<;>grind [hasB,Dj]
   simp only[Hf,h1,h2,h3,h4,h5,h6,h7,h8,h9,h10,h11,h12,h13,h14,h15,h16,h17,h18,or_self,Gr,if_false,Bj,Bo]
mutual
noncomputable def ki4 (depth left:Int)(placing:Bool):Pr->Int
 |.mk kind name chan targets exprs rep guards l procs (.mk sk st sn se spp sf sb)=>
  if 32<depth\/left=0\/mx1 (.mk kind name chan targets exprs rep guards l procs (.mk sk st sn se spp sf sb))=false\/(kind=11/\placing=false) then -1
  else if kind=18/\sk=4/\spp.cases=true/\32<depth+2 then -1
  else
   let b:=if kind=18/\sk=5 then jg6 (depth+1) (left - 1) sb else left - 1
   jp7 (depth+2) (jo1 (if kind=11 then depth+2 else if kind=18 then depth else depth+1) b (placing && decide (kind=18)) l) guards
noncomputable def jg6 (depth left:Int):List Pr->Int
 |[]=>left
 |p::_=>ki4 depth left false p
noncomputable def jo1 (depth left:Int)(placing:Bool):List Pr->Int
 |[]=>left
 |p::l=>if left<0 then left else jo1 depth (ki4 depth left placing p) placing l
noncomputable def jp7 (depth left:Int):List Gu->Int
 |[]=>left
 |.mk _ _ _ _ _ _ _ body::l=>if left<0 then left else jp7 depth (jg6 depth left body) l
end
theorem ki5 (depth left:Int)(placing:Bool)(h:left<0):∀ l,jo1 depth left placing l=left
 |[]=>by rw[jo1]
 |p::l=>by rw[jo1,Ad h]
theorem ju5 (depth left:Int)(h:left<0):∀ l,jp7 depth left l=left
 |[]=>by rw[jp7]
 |.mk _ _ _ _ _ _ _ body::l=>by rw[jp7,Ad h]
def agree (left:Int)(v:Bool × Int)(r:Int):Prop:=(v.1=true↔0<=r)/\(0<=r->v.2=r/\r<=left)
theorem ju6 (s:Sp)(h:Kh s=true):(s.proto.cases=true->s.kind=4)/\(s.kind=5->s.body.length=1)/\(s.kind≠5->s.body=[]):=by
 have hz:∀ q:Pt,eqB q pt0=true->q.cases=true->False:=fun q e c=>by
  rw[r8]at e;rw[e]at c;cases c
 unfold Kh at h;refine⟨fun hc=>?_,fun hk=>?_,fun hk=>?_⟩
 ·have:=hz s.proto
  grind
 ·simp only[hk,Int.reduceEq,if_false,if_true,Aa,Ak]at h;exact h.1.1.1.1.1
 ·have:s.body.length=0:=by grind
  exact Ar this
theorem Ol (p:Pr)(h:mx1 p=true)(hk:p.kind=18):Kh p.spec=true:=by
 unfold mx1 at h;simp only[hk,Int.reduceEq,or_self,if_false,if_true,Aa]at h;exact h.2.1.1.1.2
theorem js0 (p:Pr)(h:mx1 p=true):∀ g∈p.guards,g.body.length=1:=by
 have key:∀ a b lo hi,Ic p.guards a b lo hi=true->∀ g∈p.guards,g.body.length=1:=fun a b lo hi h g hg=>by
  unfold Ic Dj at h;have:=Bt.1 (Bool.and_eq_true_iff.1 h).2 g hg;unfold Le at this
  grind
 have k0:p.guards.length=0->∀ g∈p.guards,g.body.length=1:=fun e g hg=>by
  rw[Ar e]at hg;cases hg
 unfold mx1 at h;dsimp only at h;generalize (if (!decide (p.rep.name=ByteArray.empty))=true then (1:Int) else 0)=least at h;generalize (if (!decide (p.rep.name=ByteArray.empty))=true then (1:Int) else 16)=most at h;have h2:=(Bool.and_eq_true_iff.1 h).2;clear h;have g2:=key 1 16 7 7;have g3:=key 0 16 5 6;by_cases hk:p.kind=1\/p.kind=2
 ·rw[Ad hk]at h2;simp only[Aa,Ak]at h2
  first
   |exact k0 h2.1.2
   |exact g2 h2.1.2
   |exact g3 h2.1.2
   |exact key _ _ _ _ h2.1.2
 rw[Ae hk]at h2;clear hk;by_cases hk:p.kind=3
 ·rw[Ad hk]at h2;simp only[Aa,Ak]at h2
  first
   |exact k0 h2.1.2
   |exact g2 h2.1.2
   |exact g3 h2.1.2
   |exact key _ _ _ _ h2.1.2
 rw[Ae hk]at h2;clear hk;by_cases hk:p.kind=4
 ·rw[Ad hk]at h2;simp only[Aa,Ak]at h2
  first
   |exact k0 h2.1.2
   |exact g2 h2.1.2
   |exact g3 h2.1.2
   |exact key _ _ _ _ h2.1.2
 rw[Ae hk]at h2;clear hk;by_cases hk:p.kind=5
 ·rw[Ad hk]at h2;simp only[Aa,Ak]at h2
  first
   |exact k0 h2.1.2
   |exact g2 h2.1.2
   |exact g3 h2.1.2
   |exact key _ _ _ _ h2.1.2
 rw[Ae hk]at h2;clear hk;by_cases hk:p.kind=6
 ·rw[Ad hk]at h2;simp only[Aa,Ak]at h2
  first
   |exact k0 h2.1.2
   |exact g2 h2.1.2
   |exact g3 h2.1.2
   |exact key _ _ _ _ h2.1.2
 rw[Ae hk]at h2;clear hk;by_cases hk:p.kind=7
 ·rw[Ad hk]at h2;simp only[Aa,Ak]at h2
  first
   |exact k0 h2.1.2
   |exact g2 h2.1.2
   |exact g3 h2.1.2
   |exact key _ _ _ _ h2.1.2
 rw[Ae hk]at h2;clear hk;by_cases hk:p.kind=8\/p.kind=9
 ·rw[Ad hk]at h2;simp only[Aa,Ak]at h2
  first
   |exact k0 h2.1.2
   |exact g2 h2.1.2
   |exact g3 h2.1.2
   |exact key _ _ _ _ h2.1.2
 rw[Ae hk]at h2;clear hk;by_cases hk:p.kind=10
 ·rw[Ad hk]at h2;simp only[Aa,Ak]at h2
  first
   |exact k0 h2.1.2
   |exact g2 h2.1.2
   |exact g3 h2.1.2
   |exact key _ _ _ _ h2.1.2
 rw[Ae hk]at h2;clear hk;by_cases hk:p.kind=11
 ·rw[Ad hk]at h2;simp only[Aa,Ak]at h2
  first
   |exact k0 h2.1.2
   |exact g2 h2.1.2
   |exact g3 h2.1.2
   |exact key _ _ _ _ h2.1.2
 rw[Ae hk]at h2;clear hk;by_cases hk:p.kind=12\/p.kind=13
 ·rw[Ad hk]at h2;simp only[Aa,Ak]at h2
  first
   |exact k0 h2.1.2
   |exact g2 h2.1.2
   |exact g3 h2.1.2
   |exact key _ _ _ _ h2.1.2
 rw[Ae hk]at h2;clear hk;by_cases hk:p.kind=14
 ·rw[Ad hk]at h2;simp only[Aa,Ak]at h2
  first
   |exact k0 h2.1.2
   |exact g2 h2.1.2
   |exact g3 h2.1.2
   |exact key _ _ _ _ h2.1.2
 rw[Ae hk]at h2;clear hk;by_cases hk:p.kind=15
 ·rw[Ad hk]at h2;simp only[Aa,Ak]at h2
  first
   |exact k0 h2.1.2
   |exact g2 h2.1.2
   |exact g3 h2.1.2
   |exact key _ _ _ _ h2.1.2
 rw[Ae hk]at h2;clear hk;by_cases hk:p.kind=16
 ·rw[Ad hk]at h2;simp only[Aa,Ak]at h2
  first
   |exact k0 h2.1.2
   |exact g2 h2.1.2
   |exact g3 h2.1.2
   |exact key _ _ _ _ h2.1.2
 rw[Ae hk]at h2;clear hk;by_cases hk:p.kind=17
 ·rw[Ad hk]at h2;simp only[Aa,Ak]at h2
  first
   |exact k0 h2.1.2
   |exact g2 h2.1.2
   |exact g3 h2.1.2
   |exact key _ _ _ _ h2.1.2
 rw[Ae hk]at h2;clear hk;by_cases hk:p.kind=18
 ·rw[Ad hk]at h2;simp only[Aa,Ak]at h2
  first
   |exact k0 h2.1.2
   |exact g2 h2.1.2
   |exact g3 h2.1.2
   |exact key _ _ _ _ h2.1.2
 rw[Ae hk]at h2;clear hk;cases h2
mutual
theorem jh0:∀ (p:Pr) (depth left:Int) (placing:Bool),0<=left->left<=2048->agree (left - 1) (Dh depth left placing p) (ki4 depth left placing p)
 |.mk kind name chan targets exprs rep guards l procs (.mk sk st sn se spp sf sb),depth,left,placing,h0,h1=>by
  rw[Dh,ki4];have hpl:=Iy (.mk kind name chan targets exprs rep guards l procs (.mk sk st sn se spp sf sb));by_cases ho:mx1 (.mk kind name chan targets exprs rep guards l procs (.mk sk st sn se spp sf sb))=true
  ·have hbody:=js0 _ ho;have hspec:kind=18->_:=fun hk=>ju6 _ (Ol _ ho hk);simp only[Pr.spec,Sp.kind,Sp.proto,Sp.body]at hspec;rw[ho]at hpl ⊢;simp only[Bi,Pr.l]at hpl;by_cases hx:32<depth\/left=0\/(kind=11/\placing=false)
   ·rw[Ad (hx.elim (fun h=>.inr (.inl h)) fun h=>h.elim (fun h=>.inl (by omega)) fun h=>.inr (.inr (.inr h))),Ad (hx.elim .inl fun h=>h.elim (fun h=>.inr (.inl h)) fun h=>.inr (.inr (.inr h)))];simp[agree]
   ·rw[Ae (c:=32<depth\/left=0\/true=false\/(kind=11/\placing=false)) (fun h=>hx (h.elim .inl fun h=>h.elim (fun h=>.inr (.inl h)) fun h=>h.elim (fun h=>by cases h) fun h=>.inr (.inr h)))];have hc2:(kind=18/\sk=4/\spp.cases=true/\32<depth+2)↔(kind=18/\spp.cases=true/\32<depth+2):=⟨fun h=>⟨h.1,h.2.2⟩,fun h=>⟨h.1,(hspec h.1).1 h.2.1,h.2⟩⟩;by_cases hk2:kind=18/\spp.cases=true/\32<depth+2
    ·rw[Ad (hc2.2 hk2),Ad hk2,ite_self];simp[agree]
    ·rw[Ae (fun h=>hk2 (hc2.1 h)),Ae hk2];have hb:agree (left - 1) (if kind=18 then Co (depth+1) (left - 1) sb else (true,left - 1)) (if kind=18/\sk=5 then jg6 (depth+1) (left - 1) sb else left - 1):=by
      by_cases h18:kind=18
      ·by_cases h5:sk=5
       ·rw[Ad h18,Ad ⟨h18,h5⟩];exact Lm sb (depth+1) (left - 1) (by omega) (by omega)
       ·rw[Ad h18,Ae (fun h=>h5 h.2),(hspec h18).2.2 h5,Co];exact⟨⟨fun _=>by omega,fun _=>rfl⟩,fun _=>⟨rfl,Ed _⟩⟩
      ·rw[Ae h18,Ae (fun h=>h18 h.1)];exact⟨⟨fun _=>by omega,fun _=>rfl⟩,fun _=>⟨rfl,Ed _⟩⟩
     dsimp only;generalize (if kind=18 then Co (depth+1) (left - 1) sb else (true,left - 1))=bV at hb ⊢;generalize (if kind=18/\sk=5 then jg6 (depth+1) (left - 1) sb else left - 1)=bR at hb ⊢;generalize (if kind=11 then depth+2 else if kind=18 then depth else depth+1)=dep;have fls:∀ v:Bool × Int,∀ r:Int,(v.1=true↔0<=r)->¬0<=r->v.1=false:=fun v r h h2=>by
      cases h3:v.1 with
      |false=>rfl
      |true=>exact absurd (h.1 h3) h2
     by_cases hbr:0<=bR
     ·obtain⟨h2,h3⟩:=hb.2 hbr;have hm:=Mj l dep bR (placing && decide (kind=18)) hbr (by omega);by_cases hmr:0<=jo1 dep bR (placing && decide (kind=18)) l
      ·obtain⟨h4,h5⟩:=hm.2 hmr;have hl:l.length<=2048:=by omega
       rw[Ae (by rw[hpl];simp[hl];exact⟨by omega,Int.not_lt.1 fun h=>hx (.inl h),fun h=>by cases hq:placing with|true=>rfl|false=>exact absurd (.inr (.inr ⟨h,hq⟩)) hx⟩),Ae (by rw[hb.1.2 hbr];simp),h2,Ae (by rw[hm.1.2 hmr];simp),h4];have hg:=jw6 guards (depth+2) _ hmr (by omega);exact⟨hg.1,fun h=>⟨(hg.2 h).1,by have:=(hg.2 h).2;omega⟩⟩
      ·have hf:=fls _ _ hm.1 hmr;rw[ju5 _ _ (by omega)];refine⟨⟨fun h=>?_,fun h=>absurd h hmr⟩,fun h=>absurd h hmr⟩;rw[Ae (c:=bV.1=false) (by rw[hb.1.2 hbr];simp),h2,Ad hf]at h;split at h<;>cases h
     ·have hf:=fls _ _ hb.1 hbr;rw[ki5 _ _ _ (by omega),ju5 _ _ (by omega)];refine⟨⟨fun h=>?_,fun h=>absurd h hbr⟩,fun h=>absurd h hbr⟩;rw[Ad hf]at h;split at h<;>cases h
  ·have ho':=Bool.eq_false_iff.2 ho;rw[Ad (by rw[hpl,ho'];simp),Ad (by rw[ho'];simp)];simp[agree]
theorem Lm:∀ (l:List Pr) (depth left:Int),0<=left->left<=2048->agree left (Co depth left l) (jg6 depth left l)
 |[],depth,left,h0,h1=>by simp[Co,jg6,agree,h0]
 |p::l,depth,left,h0,h1=>by
  have:=jh0 p depth left false h0 h1;unfold agree at this ⊢;rw[Co,jg6];exact⟨this.1,fun h=>⟨(this.2 h).1,by have:=(this.2 h).2;omega⟩⟩
theorem Mj:∀ (l:List Pr) (depth left:Int) (placing:Bool),0<=left->left<=2048->agree (left - l.length) (Di depth left placing l) (jo1 depth left placing l)
 |[],depth,left,placing,h0,h1=>by simp[Di,jo1,agree,h0]
 |p::l,depth,left,placing,h0,h1=>by
  have hp:=jh0 p depth left placing h0 h1;unfold agree at hp ⊢;rw[Di,jo1,Ae (show ¬left<0 by omega)];by_cases hr:0<=ki4 depth left placing p
  ·obtain⟨h2,h3⟩:=hp.2 hr;have ih:=Mj l depth (ki4 depth left placing p) placing hr (by omega);unfold agree at ih;rw[Ad (hp.1.2 hr),h2];refine⟨ih.1,fun h=>⟨(ih.2 h).1,?_⟩⟩;have:=(ih.2 h).2;simp only[An];omega
  ·have:(Dh depth left placing p).1=false:=by
    cases h:(Dh depth left placing p).1 with
    |false=>rfl
    |true=>exact absurd (hp.1.1 h) hr
   rw[Ae (by rw[this];simp),this,ki5 _ _ _ (show ki4 depth left placing p<0 by omega)];exact⟨⟨fun h=>(by cases h),fun h=>absurd h hr⟩,fun h=>absurd h hr⟩
theorem jw6:∀ (l:List Gu) (depth left:Int),0<=left->left<=2048->agree left (Gh depth left l) (jp7 depth left l)
 |[],depth,left,h0,h1=>by simp[Gh,jp7,agree,h0]
 |.mk _ _ _ _ _ _ _ body::l,depth,left,h0,h1=>by
  have hp:=Lm body depth left h0 h1;unfold agree at hp ⊢;rw[Gh,jp7,Ae (show ¬left<0 by omega)];by_cases hr:0<=jg6 depth left body
  ·obtain⟨h2,h3⟩:=hp.2 hr;have ih:=jw6 l depth (jg6 depth left body) hr (by omega);unfold agree at ih;rw[Ad (hp.1.2 hr),h2];refine⟨ih.1,fun h=>⟨(ih.2 h).1,?_⟩⟩;have:=(ih.2 h).2;omega
  ·have:(Co depth left body).1=false:=by
    cases h:(Co depth left body).1 with
    |false=>rfl
    |true=>exact absurd (hp.1.1 h) hr
   rw[Ae (by rw[this];simp),this,ju5 _ _ (show jg6 depth left body<0 by omega)];exact⟨⟨fun h=>(by cases h),fun h=>absurd h hr⟩,fun h=>absurd h hr⟩
end
end Lx
end
section
def Wq:List Nat:=[0,2,3,4,5,6,7,26]
theorem qd6 (e:Ex):dE e=.agg [.int .u8 e.kind,.int .u8 e.op,.int .u8 e.ty,.int .i32 e.n,.str e.s,.list 6 (e.l.map dE)]:=by
 rw[dE,k9]
theorem FnE.ofD {P:Program}{gl:List (Nat × List D)}{f:FuncId}{args:List V}{x:D}(h:FnD P gl f args (fun v=>v=.d x))(hp:Pures args):FnE P gl f args [] (fun v H1=>v=.d x/\H1=[]):=fun w M β us h1 h2 h3 h4=>by
 have hlow:∀ b o,Mut M β [] b o->b<w.heap.size:=by
  rintro b o (hm|⟨n,ob,hl,_⟩)
  ·exact h1 b o hm
  ·cases hl
 refine(h w (Mut M β []) us hlow (Cv.pure (fun v hv u hu=>(hp.all v hv).keep (Keeps.refl _ _) u hu) h2) h4).mono ?_;rintro e w' ⟨v,y,rfl,hpv,rfl,hb,hv⟩;exact⟨_,y,[],β,⟨rfl,rfl⟩,rfl,rfl,Frm.of_below hb _,fun _ _=>rfl,fun n ob b hl=>(by cases hl),⟨fun n ob hl=>(by cases hl),fun n m b ob ob' _ hl=>(by cases hl),fun n ob b o hl=>(by cases hl)⟩,hpv.keep (Keeps.refl _ _) y hv⟩
attribute [local irreducible] TR TC
theorem ki6 (gl:List (Nat × List D))(a b:Int)(n:Nat):FnD prog gl 122 [.d (.agg [.int .i64 a,.int .i64 b]),.d (.int .i64 n)] (fun v=>v=.d (.bool (Lx.hasB a b n))):=by
 (refine j7 func122 ntmps122 results122 fun w M=>?_)
 (repeat' first|refine Ca 2 ?_;(refine Cq 2 ?_)|refine yyp ?_;try refine Ce ?_ ?_<;>intro hb|refine yy ?_|refine yy2 ?_ ?_<;>intro hcmp|refine at_nil ?_;refine Cc [0,1,2,4,5,6,7] ?_|refine Cb fun K hK=>?_|apply_assumption -exfalso -symm)
 all_goals
  (refine j1 (k7 ?_))
  simp only[oneOf,Lx.hasB, *,decide_true,decide_false,Bw,Bo,Bi,Bj]
theorem mc7 (gl:List (Nat × List D))(a b c:Bool):FnD prog gl 124 [.d (.bool a),.d (.bool b),.d (.bool c)] (fun v=>v=.d (.bool (if a then b else c))):=by
 (refine j7 func124 ntmps124 results124 fun w M=>?_)
 (repeat' first|refine yyp ?_;try refine Ce ?_ ?_<;>intro hb|refine yy ?_|refine at_nil ?_;refine Cc [0,1,2,6,7,8] ?_|refine Cb fun K hK=>?_|apply_assumption -exfalso -symm)
 all_goals
  (refine j1 (k7 ?_))
  simp only[oneOf, *,if_true,if_false,Ba]
theorem ki7 (gl:List (Nat × List D))(c:UInt8):FnD prog gl 162 [.d (.int .u8 c.toNat)] (fun v=>v=.d (.bool (Lx.letter c))):=by
 (refine j7 func162 ntmps162 results162 fun w M=>?_)
 (repeat' first|refine yyp ?_;try refine Ce ?_ ?_<;>intro hb|refine yy ?_|refine yy2 ?_ ?_<;>intro hcmp|refine at_nil ?_;refine Cc [0,2,3,4,5,6] ?_|refine Cb fun K hK=>?_|apply_assumption -exfalso -symm)
 all_goals
  (refine j1 (k7 ?_))
  simp only[oneOf,Bk,Be,Lx.letter]
  first|(symm;simp only[Bm,Ak];omega)|(symm;simp only[Bool.or_eq_false_iff,decide_eq_false_iff_not];omega)
theorem qu4 (gl:List (Nat × List D))(c:UInt8):FnD prog gl 193 [.d (.int .u8 c.toNat)] (fun v=>v=.d (.bool (Lx.digit c))):=by
 (refine j7 func193 ntmps193 results193 fun w M=>?_)
 (repeat' first|refine yyp ?_;try refine Ce ?_ ?_<;>intro hb|refine yy ?_|refine yy2 ?_ ?_<;>intro hcmp|refine at_nil ?_;refine Cc [0,2,3,4,5,6] ?_|refine Cb fun K hK=>?_|apply_assumption -exfalso -symm)
 all_goals
  (refine j1 (k7 ?_))
  simp only[oneOf,Bk,Be,Lx.digit]
  first|(symm;simp only[Ak];omega)|(symm;simp only[decide_eq_false_iff_not];omega)
theorem ru2 (l:List UInt8)(k:Nat)(hk:k<l.length):Lx.run (l.drop k)=if Lx.Ma l[k] then Lx.run (l.drop (k+1))+1 else 0:=by
 rw[By hk];rfl
theorem rf4 (gl:List (Nat × List D))(s:ByteArray)(hs:s.size<=1000000000000):FnD prog gl 163 [.d (.str s)] (fun v=>v=.d (.int .i64 (Lx.run s.data.toList))):=by
 have hsz:s.data.toList.length=s.size:=by simp
 (refine j7 func163 ntmps163 results163 fun w M=>?_)
 (repeat' first|refine yyp ?_;try refine Ce ?_ ?_<;>intro hb|refine yy ?_|refine at_nil ?_;refine Cc Wq ?_|refine Cb fun K hK=>?_|apply_assumption -exfalso -symm)
 refine j6 [2,3,6,7,8,9,10,11,12,13,14,15,16,17,18,19,20,21,22,23,24,25,26,27,28] [] (fun k:Nat=>[(6,.d (.int .i64 k))]) (fun _=>[]) (fun k=>k<=s.size/\Lx.run s.data.toList=Lx.run (s.data.toList.drop k)+k) (fun k=>s.size - k) 0 ⟨by simp,by simp⟩ fun k ⟨hk,hr⟩=>?_;dsimp only[Ac,Af];by_cases hk2:k<s.size
 ·have hat:s.data.toList[k]? =some (s.data.toList[k]'(by omega)):=At (by omega);generalize hc:s.data.toList[k]'(by omega)=c at hat;have hrun:=ru2 s.data.toList k (by omega);rw[hc]at hrun
  (repeat' first|refine yyp ?_;try refine Ce ?_ ?_<;>intro hb|refine yy ?_|refine yy2 ?_ ?_<;>intro hcmp|refine Ch 162 ?_;refine Ck (hc:=(ki7 gl c)) ?_;try refine Ce ?_ ?_<;>intro hb|refine Ch 193 ?_;refine Ck (hc:=(qu4 gl c)) ?_;try refine Ce ?_ ?_<;>intro hb|refine at_nil ?_;refine Cc Wq ?_|refine Cb fun K hK=>?_|apply_assumption -exfalso -symm)
  ·refine⟨k+1,⟨by omega,?_⟩,by omega,k8⟩;rw[hr,hrun,Ad (by unfold Lx.Ma;rw[hb];simp)];omega
  ·refine⟨k+1,⟨by omega,?_⟩,by omega,k8⟩;rw[hr,hrun,Ad (by unfold Lx.Ma;rw[hb];simp)];omega
  ·(refine j1 (k7 ?_))
   have h46:¬c.toNat=46:=by omega
   rw[hr,hrun,Ae (by simp only[Lx.Ma, *,decide_false,Ec,Ba,not_false_eq_true])];simp[oneOf]
  ·refine⟨k+1,⟨by omega,?_⟩,by omega,k8⟩;have h46:c.toNat=46:=by omega
   rw[hr,hrun,Ad (by unfold Lx.Ma;rw[h46];simp)];omega
 ·(repeat' first|refine yyp ?_;try refine Ce ?_ ?_<;>intro hb|refine yy ?_|refine at_nil ?_;refine Cc Wq ?_|refine Cb fun K hK=>?_|apply_assumption -exfalso -symm)
  (refine j1 (k7 ?_))
  have:k=s.size:=by omega
  rw[hr,this,<-hsz,Fk];simp[oneOf,Lx.run]
end
section
namespace Sc
structure Ent where
 fresh:ByteArray
 proto:Bool
 tags:List ByteArray
inductive Kind where
 |free
 |check (names:List ByteArray)
 |none
structure W where
 env:ByteArray->List Ent
 tk:List (ByteArray × Int)
 count:Int
 ev:List (ByteArray × Bool)
open Classical in
noncomputable def isB (y x:ByteArray):Bool:=decide (x=y)
theorem Mi {x y:ByteArray}:isB y x=true↔x=y:=by simp[isB]
def Hw:List (ByteArray × Bool)->List ByteArray
 |[]=>[]
 |x::l=>if x.2 then Hw l else x.1::Hw l
theorem Qk:∀ l m:List (ByteArray × Bool),Hw (l++m)=Hw l++Hw m
 |[],m=>rfl
 |x::l,m=>by simp only[Ac,Hw,Qk l m];split<;>rfl
theorem La:∀ l:List (ByteArray × Bool),(Hw l).length<=l.length
 |[]=>Au _
 |x::l=>by have:=La l;simp only[Hw,An];split<;>(try simp only[An])<;>omega
noncomputable def Ih (ns:List ByteArray):List (ByteArray × Bool)->ByteArray × Int
 |[]=>(ByteArray.empty,0)
 |x::l=>if x.2 then (x.1,121) else if ns.any (isB x.1) then Ih ns l else (x.1,120)
theorem Pw (ns:List ByteArray)(x:ByteArray × Bool):∀ l:List (ByteArray × Bool),Ih ns (l++[x])=if (Ih ns l).2=0 then (if x.2 then (x.1,121) else if ns.any (isB x.1) then Ih ns l else (x.1,120)) else Ih ns l
 |[]=>by simp[Ih]
 |y::l=>by
  simp only[Ac,Ih,Pw ns x l];split
  ·simp
  ·split
   ·rfl
   ·simp
def tkK (l:List (ByteArray × Int)):List D:=l.map fun x=>.str x.1
def tkV (l:List (ByteArray × Int)):List D:=l.map fun x=>.int .i64 x.2
end Sc
def Gd (x:Sc.Ent):D:=.agg [.str x.fresh,.bool x.proto,.list 1 (x.tags.map .str)]
abbrev Hu (f:ByteArray->List Sc.Ent)(s:ByteArray):List D:=(f s).map Gd
def ja0:Sc.Kind->V
 |.free=>.clo (.func 30) [] [.ptr 903 0]
 |.check _=>.clo (.func 61) [] [.ptr 905 0,.ptr 904 0,.ptr 903 0]
 |.none=>.clo (.func 35) [] []
noncomputable def z6 (k:Sc.Kind)(σ:Sc.W):List (Nat × Ob):=match k with
 |.free=>[(903,.hbox 9 1 ((Sc.Hw σ.ev).map .str) 0 [.nils 0])]
 |.check ns=>[(903,.box [.d (.list 1 (ns.map .str))]),(904,.box [.d (.str (Sc.Ih ns σ.ev).1)]),(905,.box [.d (.int .i64 (Sc.Ih ns σ.ev).2)])]
 |.none=>[]
noncomputable def HW (k:Sc.Kind)(σ:Sc.W):List (Nat × Ob):=(900,.box [.map 901,.map 902,.d (.int .i64 σ.count),ja0 k])::(901,.smap 112 3 (Hu σ.env) none)::(902,.map (Sc.tkK σ.tk) (Sc.tkV σ.tk))::z6 k σ
theorem rk0 {α:Type}(l:List α)(d:α)(i:Nat)(hi:i<l.length)(e:i+1=l.length):l.getLast?.getD d=l[i]:=by
 rw[List.getLast?_eq_getElem?,show l.length - 1=i by omega,At hi];rfl
attribute [local irreducible] TR TC
theorem mk8 (gl:List (Nat × List D))(k:Sc.Kind)(σ:Sc.W)(s:ByteArray):FnE prog gl 78 [.ptr 900 0,.d (.str s)] (HW k σ)
 (fun v H1=>v=.tup [.d (Gd ((σ.env s).getLast?.getD ⟨ByteArray.empty,false,[]⟩)),.d (.bool (!(σ.env s).isEmpty))]/\H1=HW k σ):=by
 obtain⟨env,tk,c,ev⟩:=σ;cases k
 all_goals dsimp only[HW,ja0,z6]
 all_goals (refine j2 func78 ntmps78 results78 fun w M E b0=>?_)
 all_goals (repeat' first|refine Ca 4 ?_;(refine j3 4 ?_)|refine Ca 12 ?_;(refine jg1 950 ?_;refine jd0 950 rfl fun hsm=>?_;simp only[Ab]at hsm)|refine Ca 16 ?_;refine z_p Dk ?_|refine yyp ?_;try refine Ce ?_ ?_<;>intro hb|refine yy ?_|refine yy2 ?_ ?_<;>intro hcmp|refine at_nil ?_;refine Cc [0,1,4,5,6,7,15,112] ?_|refine Cb fun K hK=>?_|apply_assumption -exfalso -symm)
 all_goals (refine jm4 (rj6 (n:=901) (q:=950)) ?_)
 all_goals (refine j1 (j4 ⟨?_,rfl⟩))
 all_goals first
  |(have h0:env s=[]:=Ar (by omega)
    rw[h0];rfl)
  |(have hne:env s≠[]:=fun e=>hcmp (by rw[e];rfl)
    have hpos:0<(env s).length:=List.length_pos_iff.2 hne;rw[rk0 (env s) ⟨ByteArray.empty,false,[]⟩ ((env s).length - 1:Int).toNat (by omega) (by omega)];have he:(env s).isEmpty=false:=by simpa using hne
    rw[he];rfl)
end
section
open Sc (isB Mi)
def Sc.step (σ:Sc.W)(s:ByteArray)(tw:Bool):Sc.W:={σ with ev:=σ.ev++[(s,tw)]}
attribute [local irreducible] TR TC
theorem ku6 (gl:List (Nat × List D))(σ:Sc.W)(s:ByteArray)(tw:Bool)(hl:σ.ev.length<=1000000000):FnE prog gl 30 [.d (.str s),.d (.bool tw),.ptr 903 0] (z6 .free σ)
 (fun v H1=>v=.tup []/\H1=z6 .free (Sc.step σ s tw)):=by
 have hlf:=Sc.La σ.ev;dsimp only[z6,Sc.step]
 (refine j2 func30 ntmps30 results30 fun w M E b0=>?_)
 refine qu1 ?_;refine jm4 (ju3 (n:=903) (q:=950) rfl rfl) ?_
 (repeat' first|refine Ca 9 ?_;(refine Dn 9 ?_)|refine yyp ?_;try refine Ce ?_ ?_<;>intro hb|refine yy ?_|(refine Da ?_;first|(refine Df (fun kv=>?_))|(refine z_append_suf (fun sx sp kv hsx hsp hsl=>?_)))|refine at_nil ?_;refine Cc [0,1,2,5,6,7] ?_|refine Cb fun K hK=>?_|apply_assumption -exfalso -symm)
 all_goals refine vc0 (kb0 (n:=903) (q:=950) (i:=0) rfl rfl rfl rfl (by(repeat (first|exact Drop.nil|apply Drop.drop rfl|apply Drop.take rfl));fail_if_success intros) rfl) ?_
 all_goals simp only[Sc.Qk,Sc.Hw,Ea,hb,if_true,if_false,Ba,As,Aq,Ax,List.set_cons_zero]
 all_goals exact g8 ⟨rfl,rfl⟩
theorem kb3 (gl:List (Nat × List D))(s:ByteArray)(tw:Bool):FnE prog gl 35 [.d (.str s),.d (.bool tw)] [] (fun v H1=>v=.tup []/\H1=[]):=by
 (refine j2 func35 ntmps35 results35 fun w M E b0=>?_)
 (repeat' first|refine yy ?_|refine Cb fun K hK=>?_|apply_assumption -exfalso -symm)
 exact g8 ⟨rfl,rfl⟩
end
end Go.Proofs.YtklklgfpkpglgaaGreatDoor
