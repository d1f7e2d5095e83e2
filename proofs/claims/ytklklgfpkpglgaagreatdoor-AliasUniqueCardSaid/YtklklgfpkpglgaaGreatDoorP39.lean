/- Parts: R1, L2, L3, L4. -/
import Derived.Test.YtklklgfpkpglgaaGreatDoorP31
set_option linter.all false
set_option maxRecDepth 100000
set_option maxHeartbeats 16000000
namespace Go.Proofs.YtklklgfpkpglgaaGreatDoor
open Go.RowKit Go.Proofs.Tryz
section
def Wt:List Nat:=[0,1,4,5,6,7,9,17]
section
variable {E:Set}{S:Sd}{dst:Option Tmp}{ty:TypeId}{pos:String}{af:Array Edge}{gd:Option (Nat × Bool)}
end
section
variable {E:Set}{Q:Exit->Sd->Prop}{ops:Array Oper}{draw:Bool}{rest:Todo}{way:Jh}{ty:TypeId}{pos:String}{af:Array Edge}{gd:Option (Nat × Bool)}
variable {env:List (Nat × V)}{H:List (Nat × Ob)}{gl:List (Nat × List D)}{d:Nat}
end
attribute [local irreducible] TR TC
theorem rw9 (gl:List (Nat × List D))(l:List ByteArray)(s:ByteArray):FnD prog gl 11 [.d (.list 1 (l.map .str)),.d (.str s)] (fun v=>v=.d (.bool (l.any (Sc.isB s)))):=by
 (refine j7 func11 ntmps11 results11 fun w M=>?_)
 refine j8 0 rfl fun hn=>?_;simp only[Ab]at hn
 (repeat' first|refine yyp ?_;try refine Ce ?_ ?_<;>intro hb|refine yy ?_|refine at_nil ?_;refine Cc Wt ?_|refine Cb fun K hK=>?_|apply_assumption -exfalso -symm)
 refine j6 [4,5,6,7,8,9,10,11,12,13,14,15,16,17] [] (fun k:Nat=>[(5,.d (.int .i64 k))]) (fun _=>[]) (fun k=>k<=l.length/\l.any (Sc.isB s)=(l.drop k).any (Sc.isB s)) (fun k=>l.length - k) 0 ⟨by omega,rfl⟩ fun k ⟨hk,hi⟩=>?_;dsimp only[Ac,Af];rcases Ah k l.length with hk2|hk2
 ·rw[By hk2,List.any_cons]at hi
  (repeat' first|refine yyp ?_;try refine Ce ?_ ?_<;>intro hb|refine yy ?_|refine yy2 ?_ ?_<;>intro hcmp|refine at_nil ?_;refine Cc Wt ?_|refine Cb fun K hK=>?_|apply_assumption -exfalso -symm)
  ·(refine j1 (k7 ?_))
   rw[hi,Sc.Mi.2 hcmp];rfl
  ·refine⟨k+1,⟨by omega,?_⟩,by omega,k8⟩;have:Sc.isB s l[k]=false:=by
    cases h:Sc.isB s l[k]with
    |false=>rfl
    |true=>exact absurd (Sc.Mi.1 h) hcmp
   rw[hi,this];rfl
 ·(repeat' first|refine yyp ?_;try refine Ce ?_ ?_<;>intro hb|refine yy ?_|refine at_nil ?_;refine Cc Wt ?_|refine Cb fun K hK=>?_|apply_assumption -exfalso -symm)
  (refine j1 (k7 ?_))
  rw[hi,Bz hk2];rfl
end
section
def Cz (s:ByteArray):Ex:=.mk 4 0 0 0 s []
def jy6 (x y:ByteArray):Pr:=.mk 3 ByteArray.empty ex0 [Cz x] [Cz y] rp0 [] [] [] sp0
end
section
theorem np:Lx.prim 1=true:=by decide
theorem ra2:Lx.He pr0=false:=by
 simp[Lx.He,pr0,Lx.Dh,Lx.Gq,Lx.Hf,Lx.Gr,rp0,ex0,sp0,pt0,Pr.kind]
end
section
namespace Sc
open Lx
theorem vh8:newName 1=⟨#[110,49]⟩:=by unfold newName;rw[dec,dif_pos (by omega)];rfl
theorem vh9:newName 2=⟨#[110,50]⟩:=by unfold newName;rw[dec,dif_pos (by omega)];rfl
theorem mu3 (σ:W)(n:Nat)(hc:σ.count=n)(h:¬σ.has (newName (n+1))):Cu σ=(newName (n+1),{σ with count:=(n+1:Nat)}):=by
 unfold Cu;dsimp only;rw[hc,Int.toNat_natCast,skip,Ae h]
theorem mg3 (σ:W)(u v:ByteArray):Fx σ (jy6 u v)=(jy6 (nameOf σ u).1 (nameOf (nameOf σ u).2 v).1,(nameOf (nameOf σ u).2 v).2):=by
 have h0:∀ σ:W,Cj σ ex0=(ex0,σ):=fun σ=>by simp[ex0,Cj,Dl,x6]
 have h1:∀ (σ:W) s,Cj σ (Cz s)=(Cz (nameOf σ s).1,(nameOf σ s).2):=fun σ s=>by simp[Cz,Cj,Dl,x6]
 have hr:∀ σ:W,Jc σ ⟨ByteArray.empty,ex0,ex0⟩=((⟨ByteArray.empty,ex0,ex0⟩,[]),σ):=fun σ=>by simp[Jc]
 have he:(nameOf (nameOf σ u).2 v).2.env=σ.env:=by rw[(Ia _ _).env,(Ia _ _).env]
 simp only[jy6,sp0,Fx,Ga,Gm,Fz,v7,kb6,Db,h0,h1,hr,Int.reduceEq,if_false,if_true,rp0];simp only[<-he]
end Sc
end
end Go.Proofs.YtklklgfpkpglgaaGreatDoor
