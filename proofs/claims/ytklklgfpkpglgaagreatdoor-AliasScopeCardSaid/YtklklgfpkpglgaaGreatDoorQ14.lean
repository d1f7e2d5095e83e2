/- Parts. -/
import Derived.Test.YtklklgfpkpglgaaGreatDoorQ13
set_option linter.all false
set_option maxRecDepth 100000
set_option maxHeartbeats 0
namespace Go.Proofs.YtklklgfpkpglgaaGreatDoor
open Go.RowKit Go.Proofs.Tryz Lx
variable (gl:List (Nat × List D))
section
namespace Lx
noncomputable def Ip (e:Ex):Bool:=eqB e ex0
def Ga (e:Ex):Bool:=(decide (e.kind=4) || decide (e.kind=5)) && Gd e
def Qe (t:Ty):Bool:=Oe t && decide (t.dim=0) && prim t.kind
noncomputable def Hw (r:Rp):Bool:=if r.name=ByteArray.empty then Ip r.base && Ip r.count else Cw r.name && Gd r.base && Gd r.count
def Lr (f:Fo):Bool:=Cw f.name && Oe f.type && (!f.val || Qe f.type)
def hasB (a b:Int)(n:Nat):Bool:=decide (a<=n) && decide ((n:Int)<=b)
def Cq {α:Type}(l:List α)(a b:Int)(p:α->Bool):Bool:=hasB a b l.length && l.all p
noncomputable def Jr (g:Gu):Bool:=
 decide (g.kind≠0) && decide (g.kind<=7) && decide (g.body.length=1) &&
 (if g.kind=1\/g.kind=2\/g.kind=3\/g.kind=4 then (Gd g.cond || ((decide (g.kind=3) || decide (g.kind=4)) && Ip g.cond)) else Ip g.cond) &&
 (if g.kind=7 then Cw g.name else decide (g.name=ByteArray.empty)) &&
 (if g.kind=3\/g.kind=4 then Ga g.av else Ip g.av) &&
 (if g.kind=4 then Gd g.time else Ip g.time) &&
 Cq g.aj (if g.kind=3 then 1 else 0) (if g.kind=3\/g.kind=7 then 8 else 0) Ga &&
 Cq g.values (if g.kind=5 then 1 else 0) (if g.kind=5 then 8 else 0) Gd
noncomputable def Hr (s:Sp):Bool:=
 if s.kind=1 then Oe s.type && Cq s.names 1 8 Cw && Ip s.e && eqB s.aN pt0 && decide (s.ax.length=0) && decide (s.body.length=0)
 else if s.kind=2 then Qe s.type && Gd s.e && Cq s.names 1 1 Cw && eqB s.aN pt0 && decide (s.ax.length=0) && decide (s.body.length=0)
 else if s.kind=3 then Qe s.type && Ga s.e && Cq s.names 1 1 Cw && eqB s.aN pt0 && decide (s.ax.length=0) && decide (s.body.length=0)
 else if s.kind=4 then Ns s.aN && Cq s.names 1 1 Cw && eqB s.type ty0 && Ip s.e && decide (s.ax.length=0) && decide (s.body.length=0)
 else if s.kind=5 then decide (s.body.length=1) && Cq s.ax 0 8 Lr && Cq s.names 1 1 Cw && eqB s.type ty0 && Ip s.e && eqB s.aN pt0
 else false
structure Uses where
 rep:Bool
 name:Bool
 channel:Bool
 spec:Bool
 ay:Bool
 t0:Int
 t1:Int
 e0:Int
 e1:Int
 p0:Int
 p1:Int
 g0:Int
 g1:Int
 a:Int
 b:Int
def Gi:Uses:=⟨false,false,false,false,false,0,0,0,0,0,0,0,0,0,0⟩
def Hf (k:Int):Uses × Bool:=
 if k=1\/k=2 then (Gi,true)
 else if k=3 then ({Gi with t0:=1,t1:=8,e0:=1,e1:=8},true)
 else if k=4 then ({Gi with channel:=true,t0:=1,t1:=8},true)
 else if k=5 then ({Gi with channel:=true,e0:=1,e1:=9},true)
 else if k=6 then ({Gi with channel:=true,e0:=1,e1:=1},true)
 else if k=7 then ({Gi with channel:=true,g0:=1,g1:=16,a:=7,b:=7},true)
 else if k=8\/k=9 then ({Gi with rep:=true,p0:=0,p1:=2048},true)
 else if k=10 then ({Gi with p0:=2,p1:=2},true)
 else if k=11 then ({Gi with ay:=true,p0:=1,p1:=8},true)
 else if k=12\/k=13 then ({Gi with rep:=true,g0:=0,g1:=16,a:=2,b:=4},true)
 else if k=14 then ({Gi with rep:=true,g0:=0,g1:=16,a:=1,b:=1},true)
 else if k=15 then ({Gi with e0:=1,e1:=1,g0:=0,g1:=16,a:=5,b:=6},true)
 else if k=16 then ({Gi with e0:=1,e1:=1,p0:=1,p1:=1},true)
 else if k=17 then ({Gi with name:=true,e0:=0,e1:=8},true)
 else if k=18 then ({Gi with spec:=true,p0:=1,p1:=1},true)
 else (Gi,false)
def Ht (u:Uses)(r:ByteArray):Uses:=if r=ByteArray.empty then u else if u.p0=0/\u.p1=2048 then {u with p0:=1,p1:=1} else {u with g0:=1,g1:=1}
noncomputable def Gy (p:Pr):Bool:=
 (Hf p.kind).2 && Hw p.rep && (decide (p.rep.name=ByteArray.empty) || (Hf p.kind).1.rep) &&
 (let u:=Ht (Hf p.kind).1 p.rep.name
  hasB u.p0 u.p1 p.l.length && Cq p.ak u.g0 u.g1 (λg=>decide (u.a<=g.kind) && decide (g.kind<=u.b) && Jr g) &&
  (if u.name then Cw p.name else decide (p.name=ByteArray.empty)) &&
  (if u.channel then Ga p.av else Ip p.av) &&
  Cq p.aj u.t0 u.t1 Ga && Cq p.au u.e0 u.e1 Gd &&
  Cq p.ay (if u.ay then p.l.length else 0) (if u.ay then p.l.length else 0) (λn=>decide (0<=n) && decide (n<8)) &&
  (if u.spec then Hr p.spec else eqB p.spec sp0))
mutual
noncomputable def Du (depth left:Int)(placing:Bool):Pr->Bool × Int
 |.mk kind name av aj au rep ak l ay (.mk sk st sn se spp sf sb)=>
  if left - 1<0\/32<depth\/Gy (.mk kind name av aj au rep ak l ay (.mk sk st sn se spp sf sb))=false\/(kind=11/\placing=false) then (false,left - 1)
  else if kind=18/\spp.cases=true/\32<depth+2 then (false,left - 1)
  else
   let b:=if kind=18 then Ct (depth+1) (left - 1) sb else (true,left - 1)
   if b.1=false then (false,b.2)
   else
    let m:=Dy (if kind=11 then depth+2 else if kind=18 then depth else depth+1) b.2 (placing && decide (kind=18)) l
    if m.1=false then (false,m.2) else He (depth+2) m.2 ak
noncomputable def Ct (depth left:Int):List Pr->Bool × Int
 |[]=>(true,left)
 |p::_=>Du depth left false p
noncomputable def Dy (depth left:Int)(placing:Bool):List Pr->Bool × Int
 |[]=>(true,left)
 |p::l=>if (Du depth left placing p).1 then Dy depth (Du depth left placing p).2 placing l else Du depth left placing p
noncomputable def He (depth left:Int):List Gu->Bool × Int
 |[]=>(true,left)
 |.mk _ _ _ _ _ _ _ body::l=>if (Ct depth left body).1 then He depth (Ct depth left body).2 l else Ct depth left body
end
noncomputable def Gq (p:Pr):Bool:=(Du 0 2048 true p).1
end Lx
end
section
namespace Lx
noncomputable def Ia (p:Pr)(nm ch tg ex pc sp:Bool):Bool:=
 (nm || decide (p.name=ByteArray.empty)) && (ch || Ip p.av) && (tg || decide (p.aj.length=0)) && (ex || decide (p.au.length=0)) && (pc || decide (p.ay.length=0)) && (sp || eqB p.spec sp0)
noncomputable def Dq (l:List Gu)(a b lo hi:Int):Bool:=Cq l a b λg=>decide (lo<=g.kind) && decide (g.kind<=hi) && Jr g
noncomputable def ownB (p:Pr):Bool:=
 let rep:=!decide (p.rep.name=ByteArray.empty)
 let l0:=decide (p.l.length=0)
 let g0:=decide (p.ak.length=0)
 let least:Int:=if rep then 1 else 0
 let most:Int:=if rep then 1 else 16
 Hw p.rep &&
 (if p.kind=1\/p.kind=2 then !rep && l0 && g0 && Ia p false false false false false false
 else if p.kind=3 then !rep && Cq p.aj 1 8 Ga && Cq p.au 1 8 Gd && l0 && g0 && Ia p false false true true false false
 else if p.kind=4 then !rep && Ga p.av && Cq p.aj 1 8 Ga && l0 && g0 && Ia p false true true false false false
 else if p.kind=5 then !rep && Ga p.av && Cq p.au 1 9 Gd && l0 && g0 && Ia p false true false true false false
 else if p.kind=6 then !rep && Ga p.av && Cq p.au 1 1 Gd && l0 && g0 && Ia p false true false true false false
 else if p.kind=7 then !rep && Ga p.av && l0 && Dq p.ak 1 16 7 7 && Ia p false true false false false false
 else if p.kind=8\/p.kind=9 then (!rep || decide (p.l.length=1)) && g0 && Ia p false false false false false false
 else if p.kind=10 then !rep && decide (p.l.length=2) && g0 && Ia p false false false false false false
 else if p.kind=11 then !rep && decide (p.ay.length=p.l.length) && p.ay.all (λn=>decide (0<=n) && decide (n<8)) && hasB 1 8 p.l.length && g0 && Ia p false false false false true false
 else if p.kind=12\/p.kind=13 then l0 && Dq p.ak least most 2 4 && Ia p false false false false false false
 else if p.kind=14 then l0 && Dq p.ak least most 1 1 && Ia p false false false false false false
 else if p.kind=15 then !rep && Cq p.au 1 1 Gd && l0 && Dq p.ak 0 16 5 6 && Ia p false false false true false false
 else if p.kind=16 then !rep && Cq p.au 1 1 Gd && decide (p.l.length=1) && g0 && Ia p false false false true false false
 else if p.kind=17 then !rep && Cw p.name && Cq p.au 0 8 Gd && l0 && g0 && Ia p true false false true false false
 else if p.kind=18 then !rep && Hr p.spec && decide (p.l.length=1) && g0 && Ia p false false false false false true
 else false)
theorem kv8 (n:Nat):hasB 0 0 n=decide (n=0):=by
 unfold hasB;rw[Ej];simp only[Aa,Ah];omega
theorem mc8 (n:Nat):hasB 1 1 n=decide (n=1):=by
 unfold hasB;rw[Ej];simp only[Aa,Ah];omega
theorem mc9 (n:Nat):hasB 2 2 n=decide (n=2):=by
 unfold hasB;rw[Ej];simp only[Aa,Ah];omega
theorem jb2 (n:Nat):hasB 0 2048 n=decide (n<=2048):=by
 unfold hasB;rw[Ej];simp only[Aa,Ah];omega
theorem rb3 (a b:Nat):hasB b b a=decide (a=b):=by
 unfold hasB;rw[Ej];simp only[Aa,Ah];omega
theorem Jz {α:Type}(l:List α)(p:α->Bool):Cq l 0 0 p=decide (l.length=0):=by
 unfold Cq;rw[kv8];cases l<;>simp
theorem l8 (ay:List Int)(b:Nat):Cq ay (b:Int) b (λn=>decide (0<=n) && decide (n<8))=(decide (ay.length=b) && ay.all λn=>decide (0<=n) && decide (n<8)):=by unfold Cq;rw[rb3]
theorem Je (p:Pr):Gy p=(ownB p && decide (p.l.length<=2048)):=by
 obtain⟨kind,name,av,aj,au,rep,ak,l,ay,spec⟩:=p;unfold Gy ownB;simp only[Pr.kind,Pr.name,Pr.av,Pr.aj,Pr.au,Pr.rep,Pr.ak,Pr.l,Pr.ay,Pr.spec];cases Hw rep with
 |false=>simp
 |true=>
  by_cases hr:rep.name=ByteArray.empty
  all_goals
   simp only[hr,decide_true,decide_false,Bool.not_true,Bool.not_false,Ht,if_true,if_false,Ef,Ee,Bu,Bf,Bb];by_cases h1:kind=1
   ·subst h1;simp only[Hf,Gi,if_true,if_false,Bb,Ia,Dq,kv8,mc8,mc9,jb2,Jz,l8,Pr.name,Pr.av,Pr.aj,Pr.au,Pr.ay,Pr.spec,Int.reduceEq,or_self,or_true,true_or,or_false,false_or,and_self,and_true,and_false,false_and,true_and,decide_true,decide_false,Bf,As,Bool.not_true,Bool.not_false,Ec,Eh,Ef,Ee,Bu,Be,reduceCtorEq]<;>grind [hasB,Cq]
   by_cases h2:kind=2
   ·subst h2;simp only[Hf,Gi,if_true,if_false,Bb,Ia,Dq,kv8,mc8,mc9,jb2,Jz,l8,Pr.name,Pr.av,Pr.aj,Pr.au,Pr.ay,Pr.spec,Int.reduceEq,or_self,or_true,true_or,or_false,false_or,and_self,and_true,and_false,false_and,true_and,decide_true,decide_false,Bf,As,Bool.not_true,Bool.not_false,Ec,Eh,Ef,Ee,Bu,Be,reduceCtorEq]<;>grind [hasB,Cq]
   by_cases h3:kind=3
   ·subst h3;simp only[Hf,Gi,if_true,if_false,Bb,Ia,Dq,kv8,mc8,mc9,jb2,Jz,l8,Pr.name,Pr.av,Pr.aj,Pr.au,Pr.ay,Pr.spec,Int.reduceEq,or_self,or_true,true_or,or_false,false_or,and_self,and_true,and_false,false_and,true_and,decide_true,decide_false,Bf,As,Bool.not_true,Bool.not_false,Ec,Eh,Ef,Ee,Bu,Be,reduceCtorEq]<;>grind [hasB,Cq]
   by_cases h4:kind=4
   ·subst h4;simp only[Hf,Gi,if_true,if_false,Bb,Ia,Dq,kv8,mc8,mc9,jb2,Jz,l8,Pr.name,Pr.av,Pr.aj,Pr.au,Pr.ay,Pr.spec,Int.reduceEq,or_self,or_true,true_or,or_false,false_or,and_self,and_true,and_false,false_and,true_and,decide_true,decide_false,Bf,As,Bool.not_true,Bool.not_false,Ec,Eh,Ef,Ee,Bu,Be,reduceCtorEq]<;>grind [hasB,Cq]
   by_cases h5:kind=5
   ·subst h5;simp only[Hf,Gi,if_true,if_false,Bb,Ia,Dq,kv8,mc8,mc9,jb2,Jz,l8,Pr.name,Pr.av,Pr.aj,Pr.au,Pr.ay,Pr.spec,Int.reduceEq,or_self,or_true,true_or,or_false,false_or,and_self,and_true,and_false,false_and,true_and,decide_true,decide_false,Bf,As,Bool.not_true,Bool.not_false,Ec,Eh,Ef,Ee,Bu,Be,reduceCtorEq]<;>grind [hasB,Cq]
   by_cases h6:kind=6
   ·subst h6;simp only[Hf,Gi,if_true,if_false,Bb,Ia,Dq,kv8,mc8,mc9,jb2,Jz,l8,Pr.name,Pr.av,Pr.aj,Pr.au,Pr.ay,Pr.spec,Int.reduceEq,or_self,or_true,true_or,or_false,false_or,and_self,and_true,and_false,false_and,true_and,decide_true,decide_false,Bf,As,Bool.not_true,Bool.not_false,Ec,Eh,Ef,Ee,Bu,Be,reduceCtorEq]<;>grind [hasB,Cq]
   by_cases h7:kind=7
   ·subst h7;simp only[Hf,Gi,if_true,if_false,Bb,Ia,Dq,kv8,mc8,mc9,jb2,Jz,l8,Pr.name,Pr.av,Pr.aj,Pr.au,Pr.ay,Pr.spec,Int.reduceEq,or_self,or_true,true_or,or_false,false_or,and_self,and_true,and_false,false_and,true_and,decide_true,decide_false,Bf,As,Bool.not_true,Bool.not_false,Ec,Eh,Ef,Ee,Bu,Be,reduceCtorEq]<;>grind [hasB,Cq]
   by_cases h8:kind=8
   ·subst h8;simp only[Hf,Gi,if_true,if_false,Bb,Ia,Dq,kv8,mc8,mc9,jb2,Jz,l8,Pr.name,Pr.av,Pr.aj,Pr.au,Pr.ay,Pr.spec,Int.reduceEq,or_self,or_true,true_or,or_false,false_or,and_self,and_true,and_false,false_and,true_and,decide_true,decide_false,Bf,As,Bool.not_true,Bool.not_false,Ec,Eh,Ef,Ee,Bu,Be,reduceCtorEq]<;>grind [hasB,Cq]
   by_cases h9:kind=9
   ·subst h9;simp only[Hf,Gi,if_true,if_false,Bb,Ia,Dq,kv8,mc8,mc9,jb2,Jz,l8,Pr.name,Pr.av,Pr.aj,Pr.au,Pr.ay,Pr.spec,Int.reduceEq,or_self,or_true,true_or,or_false,false_or,and_self,and_true,and_false,false_and,true_and,decide_true,decide_false,Bf,As,Bool.not_true,Bool.not_false,Ec,Eh,Ef,Ee,Bu,Be,reduceCtorEq]<;>grind [hasB,Cq]
   by_cases h10:kind=10
   ·subst h10;simp only[Hf,Gi,if_true,if_false,Bb,Ia,Dq,kv8,mc8,mc9,jb2,Jz,l8,Pr.name,Pr.av,Pr.aj,Pr.au,Pr.ay,Pr.spec,Int.reduceEq,or_self,or_true,true_or,or_false,false_or,and_self,and_true,and_false,false_and,true_and,decide_true,decide_false,Bf,As,Bool.not_true,Bool.not_false,Ec,Eh,Ef,Ee,Bu,Be,reduceCtorEq]<;>grind [hasB,Cq]
   by_cases h11:kind=11
   ·subst h11;simp only[Hf,Gi,if_true,if_false,Bb,Ia,Dq,kv8,mc8,mc9,jb2,Jz,l8,Pr.name,Pr.av,Pr.aj,Pr.au,Pr.ay,Pr.spec,Int.reduceEq,or_self,or_true,true_or,or_false,false_or,and_self,and_true,and_false,false_and,true_and,decide_true,decide_false,Bf,As,Bool.not_true,Bool.not_false,Ec,Eh,Ef,Ee,Bu,Be,reduceCtorEq]<;>grind [hasB,Cq]
   by_cases h12:kind=12
   ·subst h12;simp only[Hf,Gi,if_true,if_false,Bb,Ia,Dq,kv8,mc8,mc9,jb2,Jz,l8,Pr.name,Pr.av,Pr.aj,Pr.au,Pr.ay,Pr.spec,Int.reduceEq,or_self,or_true,true_or,or_false,false_or,and_self,and_true,and_false,false_and,true_and,decide_true,decide_false,Bf,As,Bool.not_true,Bool.not_false,Ec,Eh,Ef,Ee,Bu,Be,reduceCtorEq]<;>grind [hasB,Cq]
   by_cases h13:kind=13
   ·subst h13;simp only[Hf,Gi,if_true,if_false,Bb,Ia,Dq,kv8,mc8,mc9,jb2,Jz,l8,Pr.name,Pr.av,Pr.aj,Pr.au,Pr.ay,Pr.spec,Int.reduceEq,or_self,or_true,true_or,or_false,false_or,and_self,and_true,and_false,false_and,true_and,decide_true,decide_false,Bf,As,Bool.not_true,Bool.not_false,Ec,Eh,Ef,Ee,Bu,Be,reduceCtorEq]<;>grind [hasB,Cq]
   by_cases h14:kind=14
   ·subst h14;simp only[Hf,Gi,if_true,if_false,Bb,Ia,Dq,kv8,mc8,mc9,jb2,Jz,l8,Pr.name,Pr.av,Pr.aj,Pr.au,Pr.ay,Pr.spec,Int.reduceEq,or_self,or_true,true_or,or_false,false_or,and_self,and_true,and_false,false_and,true_and,decide_true,decide_false,Bf,As,Bool.not_true,Bool.not_false,Ec,Eh,Ef,Ee,Bu,Be,reduceCtorEq]<;>grind [hasB,Cq]
   by_cases h15:kind=15
   ·subst h15;simp only[Hf,Gi,if_true,if_false,Bb,Ia,Dq,kv8,mc8,mc9,jb2,Jz,l8,Pr.name,Pr.av,Pr.aj,Pr.au,Pr.ay,Pr.spec,Int.reduceEq,or_self,or_true,true_or,or_false,false_or,and_self,and_true,and_false,false_and,true_and,decide_true,decide_false,Bf,As,Bool.not_true,Bool.not_false,Ec,Eh,Ef,Ee,Bu,Be,reduceCtorEq]<;>grind [hasB,Cq]
   by_cases h16:kind=16
   ·subst h16;simp only[Hf,Gi,if_true,if_false,Bb,Ia,Dq,kv8,mc8,mc9,jb2,Jz,l8,Pr.name,Pr.av,Pr.aj,Pr.au,Pr.ay,Pr.spec,Int.reduceEq,or_self,or_true,true_or,or_false,false_or,and_self,and_true,and_false,false_and,true_and,decide_true,decide_false,Bf,As,Bool.not_true,Bool.not_false,Ec,Eh,Ef,Ee,Bu,Be,reduceCtorEq]<;>grind [hasB,Cq]
   by_cases h17:kind=17
   ·subst h17;simp only[Hf,Gi,if_true,if_false,Bb,Ia,Dq,kv8,mc8,mc9,jb2,Jz,l8,Pr.name,Pr.av,Pr.aj,Pr.au,Pr.ay,Pr.spec,Int.reduceEq,or_self,or_true,true_or,or_false,false_or,and_self,and_true,and_false,false_and,true_and,decide_true,decide_false,Bf,As,Bool.not_true,Bool.not_false,Ec,Eh,Ef,Ee,Bu,Be,reduceCtorEq]<;>grind [hasB,Cq]
   by_cases h18:kind=18
   ·subst h18;simp only[Hf,Gi,if_true,if_false,Bb,Ia,Dq,kv8,mc8,mc9,jb2,Jz,l8,Pr.name,Pr.av,Pr.aj,Pr.au,Pr.ay,Pr.spec,Int.reduceEq,or_self,or_true,true_or,or_false,false_or,and_self,and_true,and_false,false_and,true_and,decide_true,decide_false,Bf,As,Bool.not_true,Bool.not_false,Ec,Eh,Ef,Ee,Bu,Be,reduceCtorEq]<;>grind [hasB,Cq]
   simp only[Hf,h1,h2,h3,h4,h5,h6,h7,h8,h9,h10,h11,h12,h13,h14,h15,h16,h17,h18,or_self,Gi,if_false,As,Be]
mutual
noncomputable def Kr (depth left:Int)(placing:Bool):Pr->Int
 |.mk kind name av aj au rep ak l ay (.mk sk st sn se spp sf sb)=>
  if 32<depth\/left=0\/ownB (.mk kind name av aj au rep ak l ay (.mk sk st sn se spp sf sb))=false\/(kind=11/\placing=false) then -1
  else if kind=18/\sk=4/\spp.cases=true/\32<depth+2 then -1
  else
   let b:=if kind=18/\sk=5 then Iw (depth+1) (left - 1) sb else left - 1
   Kl (depth+2) (Jh (if kind=11 then depth+2 else if kind=18 then depth else depth+1) b (placing && decide (kind=18)) l) ak
noncomputable def Iw (depth left:Int):List Pr->Int
 |[]=>left
 |p::_=>Kr depth left false p
noncomputable def Jh (depth left:Int)(placing:Bool):List Pr->Int
 |[]=>left
 |p::l=>if left<0 then left else Jh depth (Kr depth left placing p) placing l
noncomputable def Kl (depth left:Int):List Gu->Int
 |[]=>left
 |.mk _ _ _ _ _ _ _ body::l=>if left<0 then left else Kl depth (Iw depth left body) l
end
theorem Qf (depth left:Int)(placing:Bool)(h:left<0):∀ l,Jh depth left placing l=left
 |[]=>by rw[Jh]
 |p::l=>by rw[Jh,Ad h]
theorem Nz (depth left:Int)(h:left<0):∀ l,Kl depth left l=left
 |[]=>by rw[Kl]
 |.mk _ _ _ _ _ _ _ body::l=>by rw[Kl,Ad h]
def agree (left:Int)(v:Bool × Int)(r:Int):Prop:=(v.1=true↔0<=r)/\(0<=r->v.2=r/\r<=left)
theorem jm7 (s:Sp)(h:Hr s=true):(s.aN.cases=true->s.kind=4)/\(s.kind=5->s.body.length=1)/\(s.kind≠5->s.body=[]):=by
 have hz:∀ q:Pt,eqB q pt0=true->q.cases=true->False:=λq e c=>by
  rw[j9]at e;rw[e]at c;cases c
 unfold Hr at h;refine⟨λhc=>?_,λhk=>?_,λhk=>?_⟩
 ·have:=hz s.aN
  grind
 ·simp only[hk,Int.reduceEq,if_false,if_true,Aa,Ah]at h;exact h.1.1.1.1.1
 ·have:s.body.length=0:=by grind
  exact Bg this
theorem Nr (p:Pr)(h:ownB p=true)(hk:p.kind=18):Hr p.spec=true:=by
 unfold ownB at h;simp only[hk,Int.reduceEq,or_self,if_false,if_true,Aa]at h;exact h.2.1.1.1.2
theorem Oz (p:Pr)(h:ownB p=true):∀ g∈p.ak,g.body.length=1:=by
 have key:∀ a b lo hi,Dq p.ak a b lo hi=true->∀ g∈p.ak,g.body.length=1:=λa b lo hi h g hg=>by
  unfold Dq Cq at h;have:=By.1 (Bool.and_eq_true_iff.1 h).2 g hg;unfold Jr at this
  grind
 have k0:p.ak.length=0->∀ g∈p.ak,g.body.length=1:=λe g hg=>by
  rw[Bg e]at hg;cases hg
 unfold ownB at h;dsimp only at h;generalize (if (!decide (p.rep.name=ByteArray.empty))=true then (1:Int) else 0)=least at h;generalize (if (!decide (p.rep.name=ByteArray.empty))=true then (1:Int) else 16)=most at h;have h2:=(Bool.and_eq_true_iff.1 h).2;clear h;have g2:=key 1 16 7 7;have g3:=key 0 16 5 6;by_cases hk:p.kind=1\/p.kind=2
 ·rw[Ad hk]at h2;simp only[Aa,Ah]at h2
  first
   |exact k0 h2.1.2
   |exact g2 h2.1.2
   |exact g3 h2.1.2
   |exact key _ _ _ _ h2.1.2
 rw[Af hk]at h2;clear hk;by_cases hk:p.kind=3
 ·rw[Ad hk]at h2;simp only[Aa,Ah]at h2
  first
   |exact k0 h2.1.2
   |exact g2 h2.1.2
   |exact g3 h2.1.2
   |exact key _ _ _ _ h2.1.2
 rw[Af hk]at h2;clear hk;by_cases hk:p.kind=4
 ·rw[Ad hk]at h2;simp only[Aa,Ah]at h2
  first
   |exact k0 h2.1.2
   |exact g2 h2.1.2
   |exact g3 h2.1.2
   |exact key _ _ _ _ h2.1.2
 rw[Af hk]at h2;clear hk;by_cases hk:p.kind=5
 ·rw[Ad hk]at h2;simp only[Aa,Ah]at h2
  first
   |exact k0 h2.1.2
   |exact g2 h2.1.2
   |exact g3 h2.1.2
   |exact key _ _ _ _ h2.1.2
 rw[Af hk]at h2;clear hk;by_cases hk:p.kind=6
 ·rw[Ad hk]at h2;simp only[Aa,Ah]at h2
  first
   |exact k0 h2.1.2
   |exact g2 h2.1.2
   |exact g3 h2.1.2
   |exact key _ _ _ _ h2.1.2
 rw[Af hk]at h2;clear hk;by_cases hk:p.kind=7
 ·rw[Ad hk]at h2;simp only[Aa,Ah]at h2
  first
   |exact k0 h2.1.2
   |exact g2 h2.1.2
   |exact g3 h2.1.2
   |exact key _ _ _ _ h2.1.2
 rw[Af hk]at h2;clear hk;by_cases hk:p.kind=8\/p.kind=9
 ·rw[Ad hk]at h2;simp only[Aa,Ah]at h2
  first
   |exact k0 h2.1.2
   |exact g2 h2.1.2
   |exact g3 h2.1.2
   |exact key _ _ _ _ h2.1.2
 rw[Af hk]at h2;clear hk;by_cases hk:p.kind=10
 ·rw[Ad hk]at h2;simp only[Aa,Ah]at h2
  first
   |exact k0 h2.1.2
   |exact g2 h2.1.2
   |exact g3 h2.1.2
   |exact key _ _ _ _ h2.1.2
 rw[Af hk]at h2;clear hk;by_cases hk:p.kind=11
 ·rw[Ad hk]at h2;simp only[Aa,Ah]at h2
  first
   |exact k0 h2.1.2
   |exact g2 h2.1.2
   |exact g3 h2.1.2
   |exact key _ _ _ _ h2.1.2
 rw[Af hk]at h2;clear hk;by_cases hk:p.kind=12\/p.kind=13
 ·rw[Ad hk]at h2;simp only[Aa,Ah]at h2
  first
   |exact k0 h2.1.2
   |exact g2 h2.1.2
   |exact g3 h2.1.2
   |exact key _ _ _ _ h2.1.2
 rw[Af hk]at h2;clear hk;by_cases hk:p.kind=14
 ·rw[Ad hk]at h2;simp only[Aa,Ah]at h2
  first
   |exact k0 h2.1.2
   |exact g2 h2.1.2
   |exact g3 h2.1.2
   |exact key _ _ _ _ h2.1.2
 rw[Af hk]at h2;clear hk;by_cases hk:p.kind=15
 ·rw[Ad hk]at h2;simp only[Aa,Ah]at h2
  first
   |exact k0 h2.1.2
   |exact g2 h2.1.2
   |exact g3 h2.1.2
   |exact key _ _ _ _ h2.1.2
 rw[Af hk]at h2;clear hk;by_cases hk:p.kind=16
 ·rw[Ad hk]at h2;simp only[Aa,Ah]at h2
  first
   |exact k0 h2.1.2
   |exact g2 h2.1.2
   |exact g3 h2.1.2
   |exact key _ _ _ _ h2.1.2
 rw[Af hk]at h2;clear hk;by_cases hk:p.kind=17
 ·rw[Ad hk]at h2;simp only[Aa,Ah]at h2
  first
   |exact k0 h2.1.2
   |exact g2 h2.1.2
   |exact g3 h2.1.2
   |exact key _ _ _ _ h2.1.2
 rw[Af hk]at h2;clear hk;by_cases hk:p.kind=18
 ·rw[Ad hk]at h2;simp only[Aa,Ah]at h2
  first
   |exact k0 h2.1.2
   |exact g2 h2.1.2
   |exact g3 h2.1.2
   |exact key _ _ _ _ h2.1.2
 rw[Af hk]at h2;clear hk;cases h2
mutual
theorem Ky:∀ (p:Pr) (depth left:Int) (placing:Bool),0<=left->left<=2048->agree (left - 1) (Du depth left placing p) (Kr depth left placing p)
 |.mk kind name av aj au rep ak l ay (.mk sk st sn se spp sf sb),depth,left,placing,h0,h1=>by
  rw[Du,Kr];have hpl:=Je (.mk kind name av aj au rep ak l ay (.mk sk st sn se spp sf sb));by_cases ho:ownB (.mk kind name av aj au rep ak l ay (.mk sk st sn se spp sf sb))=true
  ·have hbody:=Oz _ ho;have hspec:kind=18->_:=λhk=>jm7 _ (Nr _ ho hk);simp only[Pr.spec,Sp.kind,Sp.aN,Sp.body]at hspec;rw[ho]at hpl ⊢;simp only[Bf,Pr.l]at hpl;by_cases hx:32<depth\/left=0\/(kind=11/\placing=false)
   ·rw[Ad (hx.elim (λh=>.inr (.inl h)) λh=>h.elim (λh=>.inl (by omega)) λh=>.inr (.inr (.inr h))),Ad (hx.elim .inl λh=>h.elim (λh=>.inr (.inl h)) λh=>.inr (.inr (.inr h)))];simp[agree]
   ·rw[Af (c:=32<depth\/left=0\/true=false\/(kind=11/\placing=false)) (λh=>hx (h.elim .inl λh=>h.elim (λh=>.inr (.inl h)) λh=>h.elim (λh=>by cases h) λh=>.inr (.inr h)))];have hc2:(kind=18/\sk=4/\spp.cases=true/\32<depth+2)↔(kind=18/\spp.cases=true/\32<depth+2):=⟨λh=>⟨h.1,h.2.2⟩,λh=>⟨h.1,(hspec h.1).1 h.2.1,h.2⟩⟩;by_cases hk2:kind=18/\spp.cases=true/\32<depth+2
    ·rw[Ad (hc2.2 hk2),Ad hk2,ite_self];simp[agree]
    ·rw[Af (λh=>hk2 (hc2.1 h)),Af hk2];have hb:agree (left - 1) (if kind=18 then Ct (depth+1) (left - 1) sb else (true,left - 1)) (if kind=18/\sk=5 then Iw (depth+1) (left - 1) sb else left - 1):=by
      by_cases h18:kind=18
      ·by_cases h5:sk=5
       ·rw[Ad h18,Ad ⟨h18,h5⟩];exact Nq sb (depth+1) (left - 1) (by omega) (by omega)
       ·rw[Ad h18,Af (λh=>h5 h.2),(hspec h18).2.2 h5,Ct];exact⟨⟨λ_=>by omega,λ_=>rfl⟩,λ_=>⟨rfl,Eu _⟩⟩
      ·rw[Af h18,Af (λh=>h18 h.1)];exact⟨⟨λ_=>by omega,λ_=>rfl⟩,λ_=>⟨rfl,Eu _⟩⟩
     dsimp only;generalize (if kind=18 then Ct (depth+1) (left - 1) sb else (true,left - 1))=bV at hb ⊢;generalize (if kind=18/\sk=5 then Iw (depth+1) (left - 1) sb else left - 1)=bR at hb ⊢;generalize (if kind=11 then depth+2 else if kind=18 then depth else depth+1)=dep;have fls:∀ v:Bool × Int,∀ r:Int,(v.1=true↔0<=r)->¬0<=r->v.1=false:=λv r h h2=>by
      cases h3:v.1 with
      |false=>rfl
      |true=>exact absurd (h.1 h3) h2
     by_cases hbr:0<=bR
     ·obtain⟨h2,h3⟩:=hb.2 hbr;have hm:=Og l dep bR (placing && decide (kind=18)) hbr (by omega);by_cases hmr:0<=Jh dep bR (placing && decide (kind=18)) l
      ·obtain⟨h4,h5⟩:=hm.2 hmr;have hl:l.length<=2048:=by omega
       rw[Af (by rw[hpl];simp[hl];exact⟨by omega,Int.not_lt.1 λh=>hx (.inl h),λh=>by cases hq:placing with|true=>rfl|false=>exact absurd (.inr (.inr ⟨h,hq⟩)) hx⟩),Af (by rw[hb.1.2 hbr];simp),h2,Af (by rw[hm.1.2 hmr];simp),h4];have hg:=jv8 ak (depth+2) _ hmr (by omega);exact⟨hg.1,λh=>⟨(hg.2 h).1,by have:=(hg.2 h).2;omega⟩⟩
      ·have hf:=fls _ _ hm.1 hmr;rw[Nz _ _ (by omega)];refine⟨⟨λh=>?_,λh=>absurd h hmr⟩,λh=>absurd h hmr⟩;rw[Af (c:=bV.1=false) (by rw[hb.1.2 hbr];simp),h2,Ad hf]at h;split at h<;>cases h
     ·have hf:=fls _ _ hb.1 hbr;rw[Qf _ _ _ (by omega),Nz _ _ (by omega)];refine⟨⟨λh=>?_,λh=>absurd h hbr⟩,λh=>absurd h hbr⟩;rw[Ad hf]at h;split at h<;>cases h
  ·have ho':=Bool.eq_false_iff.2 ho;rw[Ad (by rw[hpl,ho'];simp),Ad (by rw[ho'];simp)];simp[agree]
theorem Nq:∀ (l:List Pr) (depth left:Int),0<=left->left<=2048->agree left (Ct depth left l) (Iw depth left l)
 |[],depth,left,h0,h1=>by simp[Ct,Iw,agree,h0]
 |p::l,depth,left,h0,h1=>by
  have:=Ky p depth left false h0 h1;unfold agree at this ⊢;rw[Ct,Iw];exact⟨this.1,λh=>⟨(this.2 h).1,by have:=(this.2 h).2;omega⟩⟩
theorem Og:∀ (l:List Pr) (depth left:Int) (placing:Bool),0<=left->left<=2048->agree (left - l.length) (Dy depth left placing l) (Jh depth left placing l)
 |[],depth,left,placing,h0,h1=>by simp[Dy,Jh,agree,h0]
 |p::l,depth,left,placing,h0,h1=>by
  have hp:=Ky p depth left placing h0 h1;unfold agree at hp ⊢;rw[Dy,Jh,Af (show ¬left<0 by omega)];by_cases hr:0<=Kr depth left placing p
  ·obtain⟨h2,h3⟩:=hp.2 hr;have ih:=Og l depth (Kr depth left placing p) placing hr (by omega);unfold agree at ih;rw[Ad (hp.1.2 hr),h2];refine⟨ih.1,λh=>⟨(ih.2 h).1,?_⟩⟩;have:=(ih.2 h).2;simp only[Aj];omega
  ·have:(Du depth left placing p).1=false:=by
    cases h:(Du depth left placing p).1 with
    |false=>rfl
    |true=>exact absurd (hp.1.1 h) hr
   rw[Af (by rw[this];simp),this,Qf _ _ _ (show Kr depth left placing p<0 by omega)];exact⟨⟨λh=>(by cases h),λh=>absurd h hr⟩,λh=>absurd h hr⟩
theorem jv8:∀ (l:List Gu) (depth left:Int),0<=left->left<=2048->agree left (He depth left l) (Kl depth left l)
 |[],depth,left,h0,h1=>by simp[He,Kl,agree,h0]
 |.mk _ _ _ _ _ _ _ body::l,depth,left,h0,h1=>by
  have hp:=Nq body depth left h0 h1;unfold agree at hp ⊢;rw[He,Kl,Af (show ¬left<0 by omega)];by_cases hr:0<=Iw depth left body
  ·obtain⟨h2,h3⟩:=hp.2 hr;have ih:=jv8 l depth (Iw depth left body) hr (by omega);unfold agree at ih;rw[Ad (hp.1.2 hr),h2];refine⟨ih.1,λh=>⟨(ih.2 h).1,?_⟩⟩;have:=(ih.2 h).2;omega
  ·have:(Ct depth left body).1=false:=by
    cases h:(Ct depth left body).1 with
    |false=>rfl
    |true=>exact absurd (hp.1.1 h) hr
   rw[Af (by rw[this];simp),this,Nz _ _ (show Iw depth left body<0 by omega)];exact⟨⟨λh=>(by cases h),λh=>absurd h hr⟩,λh=>absurd h hr⟩
end
end Lx
end
section
def Yf:List Nat:=[0,2,3,4,5,6,7,26]
theorem kq7 (e:Ex):dE e=.agg [.int .u8 e.kind,.int .u8 e.op,.int .u8 e.ty,.int .i32 e.n,.str e.s,.list 6 (e.l.map dE)]:=by
 rw[dE,r8]
theorem FnE.ofD {P:Program}{gl:List (Nat × List D)}{f:FuncId}{args:List V}{x:D}(h:FnD P gl f args (λv=>v=.d x))(hp:aM args):FnE P gl f args [] (λv H1=>v=.d x/\H1=[]):=λw M β us h1 h2 h3 h4=>by
 have hlow:∀ b o,Mut M β [] b o->b<w.heap.size:=by
  rintro b o (hm|⟨n,ob,hl,_⟩)
  ·exact h1 b o hm
  ·cases hl
 refine(h w (Mut M β []) us hlow (Cs.pure (λv hv u hu=>(hp.all v hv).keep (aI.refl _ _) u hu) h2) h4).mono ?_;rintro e w' ⟨v,y,rfl,hpv,rfl,hb,hv⟩;exact⟨_,y,[],β,⟨rfl,rfl⟩,rfl,rfl,Frm.of_below hb _,λ_ _=>rfl,λn ob b hl=>(by cases hl),⟨λn ob hl=>(by cases hl),λn m b ob ob' _ hl=>(by cases hl),λn ob b o hl=>(by cases hl)⟩,hpv.keep (aI.refl _ _) y hv⟩
attribute [local irreducible] TR TC
theorem kh6 (a b:Int)(n:Nat):FnD prog gl 122 [.d (.agg [.int .i64 a,.int .i64 b]),.d (.int .i64 n)] (λv=>v=.d (.bool (Lx.hasB a b n))):=by
 (refine j4 func122 ntmps122 results122 λw M=>?_)
 (repeat' first|apply Ca 2;(refine Ck 2 ?_)|refine yyp ?_;try refine Ce ?_ ?_<;>intro hb|refine yy ?_|refine yy2 ?_ ?_<;>intro hcmp|apply ah;refine Cc [0,1,2,4,5,6,7] ?_|refine Cb λK hK=>?_|apply_assumption -exfalso -symm)
 all_goals
  (refine j1 (j7 ?_))
  simp only[aF,Lx.hasB, *,decide_true,decide_false,Bu,Be,Bf,As]
theorem md7 (a b c:Bool):FnD prog gl 124 [.d (.bool a),.d (.bool b),.d (.bool c)] (λv=>v=.d (.bool (if a then b else c))):=by
 (refine j4 func124 ntmps124 results124 λw M=>?_)
 (repeat' first|refine yyp ?_;try refine Ce ?_ ?_<;>intro hb|refine yy ?_|apply ah;refine Cc [0,1,2,6,7,8] ?_|refine Cb λK hK=>?_|apply_assumption -exfalso -symm)
 all_goals
  (refine j1 (j7 ?_))
  simp only[aF, *,if_true,if_false,Bb]
theorem kh7 (c:UInt8):FnD prog gl 162 [.d (.int .u8 c.toNat)] (λv=>v=.d (.bool (Lx.letter c))):=by
 (refine j4 func162 ntmps162 results162 λw M=>?_)
 (repeat' first|refine yyp ?_;try refine Ce ?_ ?_<;>intro hb|refine yy ?_|refine yy2 ?_ ?_<;>intro hcmp|apply ah;refine Cc [0,2,3,4,5,6] ?_|refine Cb λK hK=>?_|apply_assumption -exfalso -symm)
 all_goals
  (refine j1 (j7 ?_))
  simp only[aF,At,Am,Lx.letter]
  first|(symm;simp only[Bn,Ah];omega)|(symm;simp only[Bool.or_eq_false_iff,decide_eq_false_iff_not];omega)
theorem rb4 (c:UInt8):FnD prog gl 193 [.d (.int .u8 c.toNat)] (λv=>v=.d (.bool (Lx.digit c))):=by
 (refine j4 func193 ntmps193 results193 λw M=>?_)
 (repeat' first|refine yyp ?_;try refine Ce ?_ ?_<;>intro hb|refine yy ?_|refine yy2 ?_ ?_<;>intro hcmp|apply ah;refine Cc [0,2,3,4,5,6] ?_|refine Cb λK hK=>?_|apply_assumption -exfalso -symm)
 all_goals
  (refine j1 (j7 ?_))
  simp only[aF,At,Am,Lx.digit]
  first|(symm;simp only[Ah];omega)|(symm;simp only[decide_eq_false_iff_not];omega)
theorem ve9 (l:List UInt8)(k:Nat)(hk:k<l.length):Lx.run (l.drop k)=if Kv l[k] then Lx.run (l.drop (k+1))+1 else 0:=by
 rw[Bk hk];rfl
theorem rn9 (s:ByteArray)(hs:s.size<=1000000000000):FnD prog gl 163 [.d (.str s)] (λv=>v=.d (.int .i64 (Lx.run s.data.toList))):=by
 have hsz:s.data.toList.length=s.size:=by simp
 (refine j4 func163 ntmps163 results163 λw M=>?_)
 (repeat' first|refine yyp ?_;try refine Ce ?_ ?_<;>intro hb|refine yy ?_|apply ah;refine Cc Yf ?_|refine Cb λK hK=>?_|apply_assumption -exfalso -symm)
 refine k9 [2,3,6,7,8,9,10,11,12,13,14,15,16,17,18,19,20,21,22,23,24,25,26,27,28] [] (λk:Nat=>[(6,.d (.int .i64 k))]) (λ_=>[]) (λk=>k<=s.size/\Lx.run s.data.toList=Lx.run (s.data.toList.drop k)+k) (λk=>s.size - k) 0 ⟨by simp,by simp⟩ λk ⟨hk,hr⟩=>?_;dsimp only[Ac,Ae];by_cases hk2:k<s.size
 ·have hat:s.data.toList[k]? =some (s.data.toList[k]'(by omega)):=Ar (by omega);generalize hc:s.data.toList[k]'(by omega)=c at hat;have hrun:=ve9 s.data.toList k (by omega);rw[hc]at hrun
  (repeat' first|refine yyp ?_;try refine Ce ?_ ?_<;>intro hb|refine yy ?_|refine yy2 ?_ ?_<;>intro hcmp|apply Cf 162;refine Ci (hc:=(kh7 gl c)) ?_;try refine Ce ?_ ?_<;>intro hb|apply Cf 193;refine Ci (hc:=(rb4 gl c)) ?_;try refine Ce ?_ ?_<;>intro hb|apply ah;refine Cc Yf ?_|refine Cb λK hK=>?_|apply_assumption -exfalso -symm)
  ·refine⟨k+1,⟨by omega,?_⟩,by omega,v6⟩;rw[hr,hrun,Ad (by unfold Kv;rw[hb];simp)];omega
  ·refine⟨k+1,⟨by omega,?_⟩,by omega,v6⟩;rw[hr,hrun,Ad (by unfold Kv;rw[hb];simp)];omega
  ·(refine j1 (j7 ?_))
   have h46:¬c.toNat=46:=by omega
   rw[hr,hrun,Af (by simp only[Kv, *,decide_false,Ec,Bb,not_false_eq_true])];simp[aF]
  ·refine⟨k+1,⟨by omega,?_⟩,by omega,v6⟩;have h46:c.toNat=46:=by omega
   rw[hr,hrun,Ad (by unfold Kv;rw[h46];simp)];omega
 ·(repeat' first|refine yyp ?_;try refine Ce ?_ ?_<;>intro hb|refine yy ?_|apply ah;refine Cc Yf ?_|refine Cb λK hK=>?_|apply_assumption -exfalso -symm)
  (refine j1 (j7 ?_))
  have:k=s.size:=by omega
  rw[hr,this,<-hsz,Fl];simp[aF,Lx.run]
end
section
namespace Sc
structure Ent where
 aD:ByteArray
 aN:Bool
 tags:List ByteArray
inductive Kind where
 |free
 |check (names:List ByteArray)
 |none
structure W where
 env:ByteArray->List Ent
 tk:List (ByteArray × Int)
 count:Int
 ev:List (ByteArray × Bool)
open Classical in
noncomputable def isB (y x:ByteArray):Bool:=decide (x=y)
theorem Ml {x y:ByteArray}:isB y x=true↔x=y:=by simp[isB]
def Ho:List (ByteArray × Bool)->List ByteArray
 |[]=>[]
 |x::l=>if x.2 then Ho l else x.1::Ho l
theorem Qq:∀ l m:List (ByteArray × Bool),Ho (l++m)=Ho l++Ho m
 |[],m=>rfl
 |x::l,m=>by simp only[Ac,Ho,Qq l m];split<;>rfl
theorem Le:∀ l:List (ByteArray × Bool),(Ho l).length<=l.length
 |[]=>Ap _
 |x::l=>by have:=Le l;simp only[Ho,Aj];split<;>(try simp only[Aj])<;>omega
noncomputable def Hq (ns:List ByteArray):List (ByteArray × Bool)->ByteArray × Int
 |[]=>(ByteArray.empty,0)
 |x::l=>if x.2 then (x.1,121) else if ns.any (isB x.1) then Hq ns l else (x.1,120)
theorem Qa (ns:List ByteArray)(x:ByteArray × Bool):∀ l:List (ByteArray × Bool),Hq ns (l++[x])=if (Hq ns l).2=0 then (if x.2 then (x.1,121) else if ns.any (isB x.1) then Hq ns l else (x.1,120)) else Hq ns l
 |[]=>by simp[Hq]
 |y::l=>by
  simp only[Ac,Hq,Qa ns x l];split
  ·simp
  ·split
   ·rfl
   ·simp
def tkK (l:List (ByteArray × Int)):List D:=l.map λx=>.str x.1
def tkV (l:List (ByteArray × Int)):List D:=l.map λx=>.int .i64 x.2
end Sc
def Lj (x:Sc.Ent):D:=.agg [.str x.aD,.bool x.aN,.list 1 (x.tags.map .str)]
abbrev Rf (f:ByteArray->List Sc.Ent)(s:ByteArray):List D:=(f s).map Lj
def je0:Sc.Kind->V
 |.free=>.clo (.func 30) [] [.ptr 903 0]
 |.check _=>.clo (.func 61) [] [.ptr 905 0,.ptr 904 0,.ptr 903 0]
 |.none=>.clo (.func 35) [] []
noncomputable def jb3 (k:Sc.Kind)(σ:Sc.W):List (Nat × Ob):=match k with
 |.free=>[(903,.hbox 9 1 ((Sc.Ho σ.ev).map .str) 0 [.nils 0])]
 |.check ns=>[(903,.box [.d (.list 1 (ns.map .str))]),(904,.box [.d (.str (Sc.Hq ns σ.ev).1)]),(905,.box [.d (.int .i64 (Sc.Hq ns σ.ev).2)])]
 |.none=>[]
abbrev kof {k:Sc.Kind}(_:k=k):Sc.Kind:=k
noncomputable def HW (k:Sc.Kind)(σ:Sc.W):List (Nat × Ob):=(900,.box [.map 901,.map 902,.d (.int .i64 σ.count),je0 k])::(901,.smap 112 3 (Rf σ.env) none)::(902,.map (Sc.tkK σ.tk) (Sc.tkV σ.tk))::jb3 k σ
theorem rt4 {α:Type}(l:List α)(d:α)(i:Nat)(hi:i<l.length)(e:i+1=l.length):l.getLast?.getD d=l[i]:=by
 rw[List.getLast?_eq_getElem?,show l.length - 1=i by omega,Ar hi];rfl
attribute [local irreducible] TR TC
theorem mm4 (k:Sc.Kind)(σ:Sc.W)(s:ByteArray):FnE prog gl 78 [.ptr 900 0,.d (.str s)] (HW k σ)
 (λv H1=>v=.tup [.d (Lj ((σ.env s).getLast?.getD ⟨ByteArray.empty,false,[]⟩)),.d (.bool (!(σ.env s).isEmpty))]/\H1=HW k σ):=by
 obtain⟨env,tk,c,ev⟩:=σ;cases k
 all_goals dsimp only[HW,je0,jb3]
 all_goals (refine j3 func78 ntmps78 results78 λw M E b0=>?_)
 all_goals (repeat' first|apply Ca 4;(refine j2 4 ?_)|apply Ca 12;(refine mm3 950 ?_;refine kh5 950 rfl λhsm=>?_;simp only[Ab]at hsm)|apply Ca 16;refine z_p Cu ?_|refine yyp ?_;try refine Ce ?_ ?_<;>intro hb|refine yy ?_|refine yy2 ?_ ?_<;>intro hcmp|apply ah;refine Cc [0,1,4,5,6,7,15,112] ?_|refine Cb λK hK=>?_|apply_assumption -exfalso -symm)
 all_goals (refine jl3 (rs9 (n:=901) (q:=950)) ?_)
 all_goals (refine j1 (j8 ⟨?_,rfl⟩))
 all_goals first
  |(have h0:env s=[]:=Bg (by omega)
    rw[h0];rfl)
  |(have hne:env s≠[]:=λe=>hcmp (by rw[e];rfl)
    have hpos:0<(env s).length:=List.length_pos_iff.2 hne;rw[rt4 (env s) ⟨ByteArray.empty,false,[]⟩ ((env s).length - 1:Int).toNat (by omega) (by omega)];have he:(env s).isEmpty=false:=by simpa using hne
    rw[he];rfl)
end
section
open Sc (isB Ml)
def Sc.step (σ:Sc.W)(s:ByteArray)(tw:Bool):Sc.W:={σ with ev:=σ.ev++[(s,tw)]}
attribute [local irreducible] TR TC
theorem mr8 (σ:Sc.W)(s:ByteArray)(tw:Bool)(hl:σ.ev.length<=1000000000):FnE prog gl 30 [.d (.str s),.d (.bool tw),.ptr 903 0] (jb3 .free σ)
 (λv H1=>v=.tup []/\H1=jb3 .free (Sc.step σ s tw)):=by
 have hlf:=Sc.Le σ.ev;dsimp only[jb3,Sc.step]
 (refine j3 func30 ntmps30 results30 λw M E b0=>?_)
 refine rb2 ?_;refine jl3 (jt8 (n:=903) (q:=950) rfl rfl) ?_
 (repeat' first|apply Ca 9;(refine Fu 9 ?_)|refine yyp ?_;try refine Ce ?_ ?_<;>intro hb|refine yy ?_|(apply Dw;first|(refine Gj (λkv=>?_))|(refine ai (λsx sp kv hsx hsp hsl=>?_)))|apply ah;refine Cc [0,1,2,5,6,7] ?_|refine Cb λK hK=>?_|apply_assumption -exfalso -symm)
 all_goals refine vp3 (ka2 (n:=903) (q:=950) (i:=0) rfl rfl rfl rfl (by(repeat (first|exact Drop.nil|apply Drop.drop rfl|apply Drop.take rfl));fail_if_success intros) rfl) ?_
 all_goals simp only[Sc.Qq,Sc.Ho,Ey,hb,if_true,if_false,Bb,Av,List.map_cons,Bj,List.set_cons_zero]
 all_goals exact ji3 ⟨rfl,rfl⟩
theorem kq8 (s:ByteArray)(tw:Bool):FnE prog gl 35 [.d (.str s),.d (.bool tw)] [] (λv H1=>v=.tup []/\H1=[]):=by
 (refine j3 func35 ntmps35 results35 λw M E b0=>?_)
 (repeat' first|refine yy ?_|refine Cb λK hK=>?_|apply_assumption -exfalso -symm)
 exact ji3 ⟨rfl,rfl⟩
end
end Go.Proofs.YtklklgfpkpglgaaGreatDoor
