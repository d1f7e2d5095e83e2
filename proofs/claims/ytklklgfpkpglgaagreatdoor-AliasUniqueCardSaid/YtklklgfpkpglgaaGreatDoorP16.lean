/- Parts: O8, O9, O10, Shelf. -/
import Derived.Test.YtklklgfpkpglgaaGreatDoorP15
import Derived.Shelf.Small.Bits
import Derived.Shelf.Strconv.Itoa0
import Derived.Shelf.Strconv.Itoa1
import Derived.Shelf.LaysM
import Derived.Shelf.Strconv.Itoa2
import Derived.Shelf.Strconv.Itoa3
import Derived.Shelf.Strings.Search1
import Derived.Shelf.Strings.Search2
import Derived.Shelf.Strings.Search3
import Derived.Shelf.Strings.Shaped
import Derived.Shelf.Sort.Plain
import Derived.Shelf.Slices.CompactS
import Derived.Shelf.Slices.Cells
import Derived.Shelf.Slices.In.SortNone
set_option linter.all false
set_option maxRecDepth 100000
set_option maxHeartbeats 16000000
namespace Go.Proofs.YtklklgfpkpglgaaGreatDoor
open Go.RowKit Go.Proofs.Tryz
section
def Pn:List Nat:=[0,1,4,5,6,7,10,12,13,14,24]
def qu7:List Nat:=[4,5,13,14,15,16,17,18,19,20,21,22,23,24,25]
def Po:List Nat:=[0,1,2,6,7,8,9,14,15,16,17,18,30]
def qu8:List Nat:=[6,7,8,9,17,18,19,20,21,22,23,24,25,26,27,28,29,30,31]
def vi6:List Nat:=[0,1,4,5,6,7,10,14,26]
def vi7:List Nat:=[4,5,11,12,13,14,15,16,17,18,19,20,21,22,23,24,25,26]
def Ws:List Nat:=[0,1,4,5,6,7,10,14,25]
def vc8:List Nat:=[4,5,11,12,13,14,15,16,17,18,19,20,21,22,23,24,25]
def ju7:Plan:=lin [0,4,8,16,20,24,13,29,32]
def vi8:Plan:=lin [0,4,8,16,20,24,13,29,34,36]
theorem z8 {α:Type}{a b:List α}{k:Nat}(ha:k<a.length)(hb:k<b.length)(h:a.take k=b.take k)(e:a[k]=b[k]):a.take (k+1)=b.take (k+1):=by
 rw[Ao ha,Ao hb,h,e]
theorem ja6 {α:Type}{a b:List α}{k:Nat}(ha:k<a.length)(hb:k<b.length)(e:a[k]≠b[k]):a≠b:=fun h=>by
 subst h;exact e rfl
theorem p8 {α:Type}{a b:List α}{k:Nat}(ha:a.length<=k)(hb:b.length<=k)(h:a.take k=b.take k):a=b:=by
 rwa [Am ha,Am hb]at h
theorem vc9 {a b:Ex}:a=b↔a.kind=b.kind/\a.op=b.op/\a.ty=b.ty/\a.n=b.n/\a.s=b.s/\a.l=b.l:=by
 cases a;cases b;simp only[Ex.mk.injEq,Ex.kind,Ex.op,Ex.ty,Ex.n,Ex.s,Ex.l];constructor
 ·rintro⟨h1,h2,h3,h4,h5,h6⟩;exact⟨h1,by rw[h2],h3,h4,h5,h6⟩
 ·rintro⟨h1,h2,h3,h4,h5,h6⟩;exact⟨h1,UInt8.toNat_inj.1 (by omega),h3,h4,h5,h6⟩
theorem qu9 {a b:Fo}:a=b↔a.val=b.val/\a.type.kind=b.type.kind/\a.type.dim=b.type.dim/\a.type.item=b.type.item/\a.type.proto=b.type.proto/\a.name=b.name/\True:=by
 obtain⟨v,⟨k,d,i,p⟩,n⟩:=a;obtain⟨v',⟨k',d',i',p'⟩,n'⟩:=b;simp only[Fo.mk.injEq,Ty.mk.injEq,and_true];constructor
 ·rintro⟨h1,⟨h2,h3,h4,h5⟩,h6⟩;exact⟨h1,h2,h3,h4,h5,h6⟩
 ·rintro⟨h1,h2,h3,h4,h5,h6⟩;exact⟨h1,⟨h2,h3,h4,h5⟩,h6⟩
theorem vd0 {a b:Va}:a=b↔a.tag=b.tag/\a.items=b.items:=by
 cases a;cases b;simp
attribute [local irreducible] TR TC
theorem qd7 (gl:List (Nat × List D))(a b:List Int):FnD prog gl 210 [.d (.list 1 (a.map (fun x=>.int .i64 (x)))),.d (.list 1 (b.map (fun x=>.int .i64 (x))))] (fun v=>v=.d (.bool (eqB a b))):=by
 (refine j7 func210 ntmps210 results210 fun w M=>?_)
 refine j8 0 rfl fun hna=>?_;refine j8 1 rfl fun hnb=>?_;simp only[Ab]at hna hnb
 (repeat' first|refine yyp ?_;try refine Ce ?_ ?_<;>intro hb|refine yy ?_|refine yy2 ?_ ?_<;>intro hcmp|refine at_nil ?_;refine Cc Pn ?_|refine Cb fun K hK=>?_|refine Cf 6 ?_;refine j0 [] ju7 ?_|apply_assumption -exfalso -symm)
 ·(refine j1 (k7 ?_))
  simp only[oneOf,Bk,Be];exact(x4.2 fun e=>hcmp (by rw[e])).symm
 have hlen:a.length=b.length:=by omega
 refine j6 qu7 [] (fun k:Nat=>[(13,.d (.int .i64 k))]) (fun _=>[]) (fun k=>k<=a.length/\a.take k=b.take k) (fun k=>a.length - k) 0 ⟨Ai _,rfl⟩ fun k ⟨hk,hi⟩=>?_;dsimp only[Ac,Af];rcases Ah k a.length with hk2|hk2
 ·have hk3:k<b.length:=by omega
  (repeat' first|refine yyp ?_;try refine Ce ?_ ?_<;>intro hb|refine yy ?_|refine yy2 ?_ ?_<;>intro hcmp|refine at_nil ?_;refine Cc Pn ?_|refine Cb fun K hK=>?_|refine Cf 6 ?_;refine j0 [] ju7 ?_|apply_assumption -exfalso -symm)
  all_goals try simp only[Ei,ne_eq]at hcmp
  all_goals first
   |(refine⟨k+1,⟨by omega,z8 hk2 hk3 hi (by first|exact r8.1 hb|exact hcmp|exact hcmp)⟩,by omega,k8⟩)
   |((refine j1 (k7 ?_))
     simp only[oneOf,Bk,Be];exact(x4.2 (ja6 hk2 hk3 (by first|exact x4.1 hb|exact hcmp|exact hcmp))).symm)
 ·(repeat' first|refine yyp ?_;try refine Ce ?_ ?_<;>intro hb|refine yy ?_|refine at_nil ?_;refine Cc Pn ?_|refine Cb fun K hK=>?_|refine Cf 6 ?_;refine j0 [] ju7 ?_|apply_assumption -exfalso -symm)
  (refine j1 (k7 ?_))
  simp only[oneOf,Bk,Be];exact(r8.2 (p8 hk2 (by omega) hi)).symm
theorem qv0 (gl:List (Nat × List D))(a b:List Int):FnD prog gl 205 [.d (.list 1 (a.map (fun x=>.int .u8 (x)))),.d (.list 1 (b.map (fun x=>.int .u8 (x))))] (fun v=>v=.d (.bool (eqB a b))):=by
 (refine j7 func205 ntmps205 results205 fun w M=>?_)
 refine j8 0 rfl fun hna=>?_;refine j8 1 rfl fun hnb=>?_;simp only[Ab]at hna hnb
 (repeat' first|refine yyp ?_;try refine Ce ?_ ?_<;>intro hb|refine yy ?_|refine yy2 ?_ ?_<;>intro hcmp|refine at_nil ?_;refine Cc Pn ?_|refine Cb fun K hK=>?_|refine Cf 6 ?_;refine j0 [] ju7 ?_|apply_assumption -exfalso -symm)
 ·(refine j1 (k7 ?_))
  simp only[oneOf,Bk,Be];exact(x4.2 fun e=>hcmp (by rw[e])).symm
 have hlen:a.length=b.length:=by omega
 refine j6 qu7 [] (fun k:Nat=>[(13,.d (.int .i64 k))]) (fun _=>[]) (fun k=>k<=a.length/\a.take k=b.take k) (fun k=>a.length - k) 0 ⟨Ai _,rfl⟩ fun k ⟨hk,hi⟩=>?_;dsimp only[Ac,Af];rcases Ah k a.length with hk2|hk2
 ·have hk3:k<b.length:=by omega
  (repeat' first|refine yyp ?_;try refine Ce ?_ ?_<;>intro hb|refine yy ?_|refine yy2 ?_ ?_<;>intro hcmp|refine at_nil ?_;refine Cc Pn ?_|refine Cb fun K hK=>?_|refine Cf 6 ?_;refine j0 [] ju7 ?_|apply_assumption -exfalso -symm)
  all_goals try simp only[Ei,ne_eq]at hcmp
  all_goals first
   |(refine⟨k+1,⟨by omega,z8 hk2 hk3 hi (by first|exact r8.1 hb|exact hcmp|exact hcmp)⟩,by omega,k8⟩)
   |((refine j1 (k7 ?_))
     simp only[oneOf,Bk,Be];exact(x4.2 (ja6 hk2 hk3 (by first|exact x4.1 hb|exact hcmp|exact hcmp))).symm)
 ·(repeat' first|refine yyp ?_;try refine Ce ?_ ?_<;>intro hb|refine yy ?_|refine at_nil ?_;refine Cc Pn ?_|refine Cb fun K hK=>?_|refine Cf 6 ?_;refine j0 [] ju7 ?_|apply_assumption -exfalso -symm)
  (refine j1 (k7 ?_))
  simp only[oneOf,Bk,Be];exact(r8.2 (p8 hk2 (by omega) hi)).symm
theorem qd8 (gl:List (Nat × List D))(a b:List ByteArray):FnD prog gl 206 [.d (.list 1 (a.map (fun x=>.str (x)))),.d (.list 1 (b.map (fun x=>.str (x))))] (fun v=>v=.d (.bool (eqB a b))):=by
 (refine j7 func206 ntmps206 results206 fun w M=>?_)
 refine j8 0 rfl fun hna=>?_;refine j8 1 rfl fun hnb=>?_;simp only[Ab]at hna hnb
 (repeat' first|refine yyp ?_;try refine Ce ?_ ?_<;>intro hb|refine yy ?_|refine yy2 ?_ ?_<;>intro hcmp|refine at_nil ?_;refine Cc Pn ?_|refine Cb fun K hK=>?_|refine Cf 6 ?_;refine j0 [] ju7 ?_|apply_assumption -exfalso -symm)
 ·(refine j1 (k7 ?_))
  simp only[oneOf,Bk,Be];exact(x4.2 fun e=>hcmp (by rw[e])).symm
 have hlen:a.length=b.length:=by omega
 refine j6 qu7 [] (fun k:Nat=>[(13,.d (.int .i64 k))]) (fun _=>[]) (fun k=>k<=a.length/\a.take k=b.take k) (fun k=>a.length - k) 0 ⟨Ai _,rfl⟩ fun k ⟨hk,hi⟩=>?_;dsimp only[Ac,Af];rcases Ah k a.length with hk2|hk2
 ·have hk3:k<b.length:=by omega
  (repeat' first|refine yyp ?_;try refine Ce ?_ ?_<;>intro hb|refine yy ?_|refine yy2 ?_ ?_<;>intro hcmp|refine at_nil ?_;refine Cc Pn ?_|refine Cb fun K hK=>?_|refine Cf 6 ?_;refine j0 [] ju7 ?_|apply_assumption -exfalso -symm)
  all_goals try simp only[Ei,ne_eq]at hcmp
  all_goals first
   |(refine⟨k+1,⟨by omega,z8 hk2 hk3 hi (by first|exact r8.1 hb|exact hcmp|exact hcmp)⟩,by omega,k8⟩)
   |((refine j1 (k7 ?_))
     simp only[oneOf,Bk,Be];exact(x4.2 (ja6 hk2 hk3 (by first|exact x4.1 hb|exact hcmp|exact hcmp))).symm)
 ·(repeat' first|refine yyp ?_;try refine Ce ?_ ?_<;>intro hb|refine yy ?_|refine at_nil ?_;refine Cc Pn ?_|refine Cb fun K hK=>?_|refine Cf 6 ?_;refine j0 [] ju7 ?_|apply_assumption -exfalso -symm)
  (refine j1 (k7 ?_))
  simp only[oneOf,Bk,Be];exact(r8.2 (p8 hk2 (by omega) hi)).symm
theorem qv1 (gl:List (Nat × List D))(a b:List Fo):FnD prog gl 208 [.d (.list 6 (a.map (fun x=>dFo (x)))),.d (.list 6 (b.map (fun x=>dFo (x))))] (fun v=>v=.d (.bool (eqB a b))):=by
 (refine j7 func208 ntmps208 results208 fun w M=>?_)
 refine j8 0 rfl fun hna=>?_;refine j8 1 rfl fun hnb=>?_;simp only[Ab]at hna hnb
 (repeat' first|refine yyp ?_;try refine Ce ?_ ?_<;>intro hb|refine yy ?_|refine yy2 ?_ ?_<;>intro hcmp|refine at_nil ?_;refine Cc Pn ?_|refine Cb fun K hK=>?_|refine Cf 6 ?_;refine j0 [] ju7 ?_|apply_assumption -exfalso -symm)
 ·(refine j1 (k7 ?_))
  simp only[oneOf,Bk,Be];exact(x4.2 fun e=>hcmp (by rw[e])).symm
 have hlen:a.length=b.length:=by omega
 refine j6 qu7 [] (fun k:Nat=>[(13,.d (.int .i64 k))]) (fun _=>[]) (fun k=>k<=a.length/\a.take k=b.take k) (fun k=>a.length - k) 0 ⟨Ai _,rfl⟩ fun k ⟨hk,hi⟩=>?_;dsimp only[Ac,Af];rcases Ah k a.length with hk2|hk2
 ·have hk3:k<b.length:=by omega
  (repeat' first|refine yyp ?_;try refine Ce ?_ ?_<;>intro hb|refine yy ?_|refine yy2 ?_ ?_<;>intro hcmp|refine at_nil ?_;refine Cc Pn ?_|refine Cb fun K hK=>?_|refine Cf 6 ?_;refine j0 [] ju7 ?_|apply_assumption -exfalso -symm)
  all_goals try simp only[Ei,ne_eq]at hcmp
  all_goals first
   |(refine⟨k+1,⟨by omega,z8 hk2 hk3 hi (by first|exact r8.1 hb|exact hcmp|exact qu9.2 hcmp|exact fun e=>hcmp (qu9.1 e))⟩,by omega,k8⟩)
   |((refine j1 (k7 ?_))
     simp only[oneOf,Bk,Be];exact(x4.2 (ja6 hk2 hk3 (by first|exact x4.1 hb|exact hcmp|exact qu9.2 hcmp|exact fun e=>hcmp (qu9.1 e)))).symm)
 ·(repeat' first|refine yyp ?_;try refine Ce ?_ ?_<;>intro hb|refine yy ?_|refine at_nil ?_;refine Cc Pn ?_|refine Cb fun K hK=>?_|refine Cf 6 ?_;refine j0 [] ju7 ?_|apply_assumption -exfalso -symm)
  (refine j1 (k7 ?_))
  simp only[oneOf,Bk,Be];exact(r8.2 (p8 hk2 (by omega) hi)).symm
theorem qd9 (gl:List (Nat × List D))(a b:List Ex)(h:∀ x∈a,∀ y:Ex,FnD prog gl 165 [.d (dEx (x)),.d (dEx (y))] (fun v=>v=.d (.bool (eqB x y)))):FnD prog gl 224 [.d (.list 6 (a.map (fun x=>dEx (x)))),.d (.list 6 (b.map (fun x=>dEx (x)))),.clo (.func 165) [] []] (fun v=>v=.d (.bool (eqB a b))):=by
 simp only[k9]at h ⊢
 (refine j7 func224 ntmps224 results224 fun w M=>?_)
 refine j8 0 rfl fun hna=>?_;refine j8 1 rfl fun hnb=>?_;simp only[Ab]at hna hnb
 (repeat' first|refine yyp ?_;try refine Ce ?_ ?_<;>intro hb|refine yy ?_|refine yy2 ?_ ?_<;>intro hcmp|refine at_nil ?_;refine Cc Po ?_|refine Cb fun K hK=>?_|apply_assumption -exfalso -symm)
 ·(refine j1 (k7 ?_))
  simp only[oneOf,Bk,Be];exact(x4.2 fun e=>hcmp (by rw[e])).symm
 have hlen:a.length=b.length:=by omega
 refine j6 qu8 [] (fun k:Nat=>[(17,.d (.int .i64 k))]) (fun _=>[]) (fun k=>k<=a.length/\a.take k=b.take k) (fun k=>a.length - k) 0 ⟨Ai _,rfl⟩ fun k ⟨hk,hi⟩=>?_;dsimp only[Ac,Af];rcases Ah k a.length with hk2|hk2
 ·have hk3:k<b.length:=by omega
  have hone:=FnE.ofD (h a[k] (Aw _) b[k]) (by(repeat (first|exact Pures.nil|apply Pures.cons (Pure.d _)|apply Pures.cons (Pure.nils _)));fail_if_success intros)
  (repeat' first|refine Ca 8 ?_;(refine j3 8 ?_)|refine Ca 9 ?_;(refine j3 9 ?_)|refine Ca 29 ?_;refine Cg (hc:=hone) ?_;try refine Ce ?_ ?_<;>intro hb|refine yyp ?_;try refine Ce ?_ ?_<;>intro hb|refine yy ?_|refine at_nil ?_;refine Cc Po ?_|refine Cb fun K hK=>?_|apply_assumption -exfalso -symm)
  all_goals try simp only[Ei,ne_eq]at hcmp
  all_goals first
   |(refine⟨k+1,⟨by omega,z8 hk2 hk3 hi (by first|exact r8.1 hb|exact hcmp|exact hcmp)⟩,by omega,k8⟩)
   |((refine j1 (k7 ?_))
     simp only[oneOf,Bk,Be];exact(x4.2 (ja6 hk2 hk3 (by first|exact x4.1 hb|exact hcmp|exact hcmp))).symm)
 ·(repeat' first|refine yyp ?_;try refine Ce ?_ ?_<;>intro hb|refine yy ?_|refine at_nil ?_;refine Cc Po ?_|refine Cb fun K hK=>?_|apply_assumption -exfalso -symm)
  (refine j1 (k7 ?_))
  simp only[oneOf,Bk,Be];exact(r8.2 (p8 hk2 (by omega) hi)).symm
theorem qe0 (gl:List (Nat × List D))(a b:List Va)(h:∀ x∈a,∀ y:Va,FnD prog gl 204 [.d (dVa (x)),.d (dVa (y))] (fun v=>v=.d (.bool (eqB x y)))):FnD prog gl 207 [.d (.list 2 (a.map (fun x=>dVa (x)))),.d (.list 2 (b.map (fun x=>dVa (x)))),.clo (.func 204) [] []] (fun v=>v=.d (.bool (eqB a b))):=by
 (refine j7 func207 ntmps207 results207 fun w M=>?_)
 refine j8 0 rfl fun hna=>?_;refine j8 1 rfl fun hnb=>?_;simp only[Ab]at hna hnb
 (repeat' first|refine yyp ?_;try refine Ce ?_ ?_<;>intro hb|refine yy ?_|refine yy2 ?_ ?_<;>intro hcmp|refine at_nil ?_;refine Cc Po ?_|refine Cb fun K hK=>?_|apply_assumption -exfalso -symm)
 ·(refine j1 (k7 ?_))
  simp only[oneOf,Bk,Be];exact(x4.2 fun e=>hcmp (by rw[e])).symm
 have hlen:a.length=b.length:=by omega
 refine j6 qu8 [] (fun k:Nat=>[(17,.d (.int .i64 k))]) (fun _=>[]) (fun k=>k<=a.length/\a.take k=b.take k) (fun k=>a.length - k) 0 ⟨Ai _,rfl⟩ fun k ⟨hk,hi⟩=>?_;dsimp only[Ac,Af];rcases Ah k a.length with hk2|hk2
 ·have hk3:k<b.length:=by omega
  have hone:=FnE.ofD (h a[k] (Aw _) b[k]) (by(repeat (first|exact Pures.nil|apply Pures.cons (Pure.d _)|apply Pures.cons (Pure.nils _)));fail_if_success intros)
  (repeat' first|refine Ca 8 ?_;(refine j3 8 ?_)|refine Ca 9 ?_;(refine j3 9 ?_)|refine Ca 29 ?_;refine Cg (hc:=hone) ?_;try refine Ce ?_ ?_<;>intro hb|refine yyp ?_;try refine Ce ?_ ?_<;>intro hb|refine yy ?_|refine at_nil ?_;refine Cc Po ?_|refine Cb fun K hK=>?_|apply_assumption -exfalso -symm)
  all_goals try simp only[Ei,ne_eq]at hcmp
  all_goals first
   |(refine⟨k+1,⟨by omega,z8 hk2 hk3 hi (by first|exact r8.1 hb|exact hcmp|exact hcmp)⟩,by omega,k8⟩)
   |((refine j1 (k7 ?_))
     simp only[oneOf,Bk,Be];exact(x4.2 (ja6 hk2 hk3 (by first|exact x4.1 hb|exact hcmp|exact hcmp))).symm)
 ·(repeat' first|refine yyp ?_;try refine Ce ?_ ?_<;>intro hb|refine yy ?_|refine at_nil ?_;refine Cc Po ?_|refine Cb fun K hK=>?_|apply_assumption -exfalso -symm)
  (refine j1 (k7 ?_))
  simp only[oneOf,Bk,Be];exact(r8.2 (p8 hk2 (by omega) hi)).symm
theorem qe1 (gl:List (Nat × List D))(a b:List Gu)(h:∀ x∈a,∀ y:Gu,FnD prog gl 212 [.d (dGu (x)),.d (dGu (y))] (fun v=>v=.d (.bool (eqB x y)))):FnD prog gl 211 [.d (.list 23 (a.map (fun x=>dGu (x)))),.d (.list 23 (b.map (fun x=>dGu (x)))),.clo (.func 212) [] []] (fun v=>v=.d (.bool (eqB a b))):=by
 simp only[jd7]at h ⊢
 (refine j7 func211 ntmps211 results211 fun w M=>?_)
 refine j8 0 rfl fun hna=>?_;refine j8 1 rfl fun hnb=>?_;simp only[Ab]at hna hnb
 (repeat' first|refine yyp ?_;try refine Ce ?_ ?_<;>intro hb|refine yy ?_|refine yy2 ?_ ?_<;>intro hcmp|refine at_nil ?_;refine Cc Po ?_|refine Cb fun K hK=>?_|apply_assumption -exfalso -symm)
 ·(refine j1 (k7 ?_))
  simp only[oneOf,Bk,Be];exact(x4.2 fun e=>hcmp (by rw[e])).symm
 have hlen:a.length=b.length:=by omega
 refine j6 qu8 [] (fun k:Nat=>[(17,.d (.int .i64 k))]) (fun _=>[]) (fun k=>k<=a.length/\a.take k=b.take k) (fun k=>a.length - k) 0 ⟨Ai _,rfl⟩ fun k ⟨hk,hi⟩=>?_;dsimp only[Ac,Af];rcases Ah k a.length with hk2|hk2
 ·have hk3:k<b.length:=by omega
  have hone:=FnE.ofD (h a[k] (Aw _) b[k]) (by(repeat (first|exact Pures.nil|apply Pures.cons (Pure.d _)|apply Pures.cons (Pure.nils _)));fail_if_success intros)
  (repeat' first|refine Ca 8 ?_;(refine j3 8 ?_)|refine Ca 9 ?_;(refine j3 9 ?_)|refine Ca 29 ?_;refine Cg (hc:=hone) ?_;try refine Ce ?_ ?_<;>intro hb|refine yyp ?_;try refine Ce ?_ ?_<;>intro hb|refine yy ?_|refine at_nil ?_;refine Cc Po ?_|refine Cb fun K hK=>?_|apply_assumption -exfalso -symm)
  all_goals try simp only[Ei,ne_eq]at hcmp
  all_goals first
   |(refine⟨k+1,⟨by omega,z8 hk2 hk3 hi (by first|exact r8.1 hb|exact hcmp|exact hcmp)⟩,by omega,k8⟩)
   |((refine j1 (k7 ?_))
     simp only[oneOf,Bk,Be];exact(x4.2 (ja6 hk2 hk3 (by first|exact x4.1 hb|exact hcmp|exact hcmp))).symm)
 ·(repeat' first|refine yyp ?_;try refine Ce ?_ ?_<;>intro hb|refine yy ?_|refine at_nil ?_;refine Cc Po ?_|refine Cb fun K hK=>?_|apply_assumption -exfalso -symm)
  (refine j1 (k7 ?_))
  simp only[oneOf,Bk,Be];exact(r8.2 (p8 hk2 (by omega) hi)).symm
theorem ki9 (gl:List (Nat × List D))(a b:List Pr)(h:∀ x∈a,∀ y:Pr,FnD prog gl 180 [.d (dPr (x)),.d (dPr (y))] (fun v=>v=.d (.bool (eqB x y)))):FnD prog gl 179 [.d (.list 42 (a.map (fun x=>dPr (x)))),.d (.list 42 (b.map (fun x=>dPr (x)))),.clo (.func 180) [] []] (fun v=>v=.d (.bool (eqB a b))):=by
 simp only[j9]at h ⊢
 (refine j7 func179 ntmps179 results179 fun w M=>?_)
 refine j8 0 rfl fun hna=>?_;refine j8 1 rfl fun hnb=>?_;simp only[Ab]at hna hnb
 (repeat' first|refine yyp ?_;try refine Ce ?_ ?_<;>intro hb|refine yy ?_|refine yy2 ?_ ?_<;>intro hcmp|refine at_nil ?_;refine Cc Po ?_|refine Cb fun K hK=>?_|apply_assumption -exfalso -symm)
 ·(refine j1 (k7 ?_))
  simp only[oneOf,Bk,Be];exact(x4.2 fun e=>hcmp (by rw[e])).symm
 have hlen:a.length=b.length:=by omega
 refine j6 qu8 [] (fun k:Nat=>[(17,.d (.int .i64 k))]) (fun _=>[]) (fun k=>k<=a.length/\a.take k=b.take k) (fun k=>a.length - k) 0 ⟨Ai _,rfl⟩ fun k ⟨hk,hi⟩=>?_;dsimp only[Ac,Af];rcases Ah k a.length with hk2|hk2
 ·have hk3:k<b.length:=by omega
  have hone:=FnE.ofD (h a[k] (Aw _) b[k]) (by(repeat (first|exact Pures.nil|apply Pures.cons (Pure.d _)|apply Pures.cons (Pure.nils _)));fail_if_success intros)
  (repeat' first|refine Ca 8 ?_;(refine j3 8 ?_)|refine Ca 9 ?_;(refine j3 9 ?_)|refine Ca 29 ?_;refine Cg (hc:=hone) ?_;try refine Ce ?_ ?_<;>intro hb|refine yyp ?_;try refine Ce ?_ ?_<;>intro hb|refine yy ?_|refine at_nil ?_;refine Cc Po ?_|refine Cb fun K hK=>?_|apply_assumption -exfalso -symm)
  all_goals try simp only[Ei,ne_eq]at hcmp
  all_goals first
   |(refine⟨k+1,⟨by omega,z8 hk2 hk3 hi (by first|exact r8.1 hb|exact hcmp|exact hcmp)⟩,by omega,k8⟩)
   |((refine j1 (k7 ?_))
     simp only[oneOf,Bk,Be];exact(x4.2 (ja6 hk2 hk3 (by first|exact x4.1 hb|exact hcmp|exact hcmp))).symm)
 ·(repeat' first|refine yyp ?_;try refine Ce ?_ ?_<;>intro hb|refine yy ?_|refine at_nil ?_;refine Cc Po ?_|refine Cb fun K hK=>?_|apply_assumption -exfalso -symm)
  (refine j1 (k7 ?_))
  simp only[oneOf,Bk,Be];exact(r8.2 (p8 hk2 (by omega) hi)).symm
theorem kb4 (gl:List (Nat × List D))(a b:List ByteArray):FnD prog gl 14 [.d (.list 1 (a.map (fun x=>.str (x)))),.d (.list 1 (b.map (fun x=>.str (x))))] (fun v=>v=.d (.bool (eqB a b))):=by
 (refine j7 func14 ntmps14 results14 fun w M=>?_)
 refine j8 0 rfl fun hna=>?_;refine j8 1 rfl fun hnb=>?_;simp only[Ab]at hna hnb
 (repeat' first|refine yyp ?_;try refine Ce ?_ ?_<;>intro hb|refine yy ?_|refine yy2 ?_ ?_<;>intro hcmp|refine at_nil ?_;refine Cc Ws ?_|refine Cb fun K hK=>?_|refine Cf 6 ?_;refine j0 [] ju7 ?_|apply_assumption -exfalso -symm)
 ·(refine j1 (k7 ?_))
  simp only[oneOf,Bk,Be];exact(x4.2 fun e=>hcmp (by rw[e])).symm
 have hlen:a.length=b.length:=by omega
 refine j6 vc8 [] (fun k:Nat=>[(5,.d (.int .i64 k))]) (fun _=>[]) (fun k=>k<=a.length/\a.take k=b.take k) (fun k=>a.length - k) 0 ⟨Ai _,rfl⟩ fun k ⟨hk,hi⟩=>?_;dsimp only[Ac,Af];rcases Ah k a.length with hk2|hk2
 ·have hk3:k<b.length:=by omega
  (repeat' first|refine yyp ?_;try refine Ce ?_ ?_<;>intro hb|refine yy ?_|refine yy2 ?_ ?_<;>intro hcmp|refine at_nil ?_;refine Cc Ws ?_|refine Cb fun K hK=>?_|refine Cf 6 ?_;refine j0 [] ju7 ?_|apply_assumption -exfalso -symm)
  all_goals try simp only[Ei,ne_eq]at hcmp
  all_goals first
   |(refine⟨k+1,⟨by omega,z8 hk2 hk3 hi (by first|exact r8.1 hb|exact hcmp|exact hcmp)⟩,by omega,k8⟩)
   |((refine j1 (k7 ?_))
     simp only[oneOf,Bk,Be];exact(x4.2 (ja6 hk2 hk3 (by first|exact x4.1 hb|exact hcmp|exact hcmp))).symm)
 ·(repeat' first|refine yyp ?_;try refine Ce ?_ ?_<;>intro hb|refine yy ?_|refine at_nil ?_;refine Cc Ws ?_|refine Cb fun K hK=>?_|refine Cf 6 ?_;refine j0 [] ju7 ?_|apply_assumption -exfalso -symm)
  (refine j1 (k7 ?_))
  simp only[oneOf,Bk,Be];exact(r8.2 (p8 hk2 (by omega) hi)).symm
end
section
def Un:List Nat:=[0,2,3,4,6,7,8,9,14]
def qe2:Plan:=lin [0,8,5,16,13,20,24]
def glS (mm:Int):List (Nat × List D):=[(5,[.int .i64 mm]),(0,[.int .i64 0,.int .i64 2048]),(1,[.int .i64 1,.int .i64 1]),(2,[.int .i64 1,.int .i64 8]),
 (4,[.int .u8 1,.str ⟨#[73,78,84]⟩,.int .i64 4,.int .u8 2,.str ⟨#[66,89,84,69]⟩,.int .i64 1,.int .u8 3,.str ⟨#[66,79,79,76]⟩,.int .i64 1]),
 (3,[1,10,100,1000,10000,100000,1000000,10000000,100000000,1000000000,10000000000,100000000000,1000000000000,10000000000000,100000000000000,1000000000000000,10000000000000000,100000000000000000,1000000000000000000,10000000000000000000].map fun z=>.int .u64 z)]
def Lx.Kw (k:Int):ByteArray × Int × Bool:=if k=1 then (⟨#[73,78,84]⟩,4,true) else if k=2 then (⟨#[66,89,84,69]⟩,1,true) else if k=3 then (⟨#[66,79,79,76]⟩,1,true) else (ByteArray.empty,0,false)
variable {mm:Int}
attribute [local irreducible] TR TC
theorem qv2 (k:Int):FnD prog (glS mm) 219 [.d (.int .u8 k)] (fun v=>v=.tup [.d (.str (Lx.Kw k).1),.d (.int .i64 (Lx.Kw k).2.1),.d (.bool (Lx.Kw k).2.2)]):=by
 unfold Lx.Kw
 (refine j7 func219 ntmps219 results219 fun w M=>?_)
 (repeat' first|refine yyp ?_;try refine Ce ?_ ?_<;>intro hb|refine yy ?_|refine at_nil ?_;refine Cc Un ?_|refine Cb fun K hK=>?_|refine Cf 5 ?_;refine j0 [] qe2 ?_|apply_assumption -exfalso -symm)
 refine j6 [2,3,4,6,8,9,10,11,12,13,14,15,16,17,18,19] [] (fun j:Nat=>[(8,.d (.int .i64 j))]) (fun _=>[]) (fun j=>j<=3/\(0<j->k≠1)/\(1<j->k≠2)/\(2<j->k≠3)) (fun j=>3 - j) 0 ⟨by omega,by omega,by omega,by omega⟩ fun j ⟨hj,h1,h2,h3⟩=>?_;dsimp only[Ac,Af];rcases(by omega:j=0\/j=1\/j=2\/j=3) with rfl|rfl|rfl|rfl
 ·(repeat' first|refine Ca 10 ?_;(refine z_p (ju4 (i:=0) rfl rfl rfl rfl rfl (by decide) (by(repeat (first|exact Cut.done _|apply Cut.take|apply Cut.skip));fail_if_success intros)) ?_)|refine Ca 6 ?_;(refine j3 6 ?_)|refine yyp ?_;try refine Ce ?_ ?_<;>intro hb|refine yy ?_|refine yy2 ?_ ?_<;>intro hcmp|refine at_nil ?_;refine Cc Un ?_|refine Cb fun K hK=>?_|refine Cf 5 ?_;refine j0 [] qe2 ?_|apply_assumption -exfalso -symm)
  ·(refine j1 (k7 ?_))
   rw[Ad (by omega)];rfl
  ·refine⟨1,⟨by omega,by omega,by omega,by omega⟩,by omega,k8⟩
 ·(repeat' first|refine Ca 10 ?_;(refine z_p (ju4 (i:=1) rfl rfl rfl rfl rfl (by decide) (by(repeat (first|exact Cut.done _|apply Cut.take|apply Cut.skip));fail_if_success intros)) ?_)|refine Ca 6 ?_;(refine j3 6 ?_)|refine yyp ?_;try refine Ce ?_ ?_<;>intro hb|refine yy ?_|refine yy2 ?_ ?_<;>intro hcmp|refine at_nil ?_;refine Cc Un ?_|refine Cb fun K hK=>?_|refine Cf 5 ?_;refine j0 [] qe2 ?_|apply_assumption -exfalso -symm)
  ·(refine j1 (k7 ?_))
   rw[Ae (by omega),Ad (by omega)];rfl
  ·refine⟨2,⟨by omega,by omega,by omega,by omega⟩,by omega,k8⟩
 ·(repeat' first|refine Ca 10 ?_;(refine z_p (ju4 (i:=2) rfl rfl rfl rfl rfl (by decide) (by(repeat (first|exact Cut.done _|apply Cut.take|apply Cut.skip));fail_if_success intros)) ?_)|refine Ca 6 ?_;(refine j3 6 ?_)|refine yyp ?_;try refine Ce ?_ ?_<;>intro hb|refine yy ?_|refine yy2 ?_ ?_<;>intro hcmp|refine at_nil ?_;refine Cc Un ?_|refine Cb fun K hK=>?_|refine Cf 5 ?_;refine j0 [] qe2 ?_|apply_assumption -exfalso -symm)
  ·(refine j1 (k7 ?_))
   rw[Ae (by omega),Ae (by omega),Ad (by omega)];rfl
  ·refine⟨3,⟨by omega,by omega,by omega,by omega⟩,by omega,k8⟩
 ·(repeat' first|refine yyp ?_;try refine Ce ?_ ?_<;>intro hb|refine yy ?_|refine at_nil ?_;refine Cc Un ?_|refine Cb fun K hK=>?_|refine Cf 5 ?_;refine j0 [] qe2 ?_|apply_assumption -exfalso -symm)
  (refine j1 (k7 ?_))
  rw[Ae (by omega),Ae (by omega),Ae (by omega)];rfl
theorem rk5 (k:Int):FnD prog (glS mm) 197 [.d (.int .u8 k)] (fun v=>v=.d (.bool (Lx.prim k))):=by
 have hw:=qv2 (mm:=mm) k;have hp:(Lx.Kw k).2.2=Lx.prim k:=by
  unfold Lx.Kw Lx.prim;by_cases h1:k=1
  ·simp[h1]
  ·by_cases h2:k=2
   ·simp[h2]
   ·by_cases h3:k=3<;>simp[h1,h2,h3]
 rw[hp]at hw
 (refine j7 func197 ntmps197 results197 fun w M=>?_)
 (repeat' first|refine yyp ?_;try refine Ce ?_ ?_<;>intro hb|refine yy ?_|refine Ch 219 ?_;refine Ck (hc:=hw) ?_|refine at_nil ?_;refine Cc [0,2,3,4,5,6] ?_|refine Cb fun K hK=>?_|apply_assumption -exfalso -symm)
 all_goals
  (refine j1 (k7 ?_))
  simp only[oneOf, *]
theorem qe3 (k:Int):FnD prog (glS mm) 221 [.d (.int .u8 k)] (fun v=>v=.d (.bool (!Lx.prim k))):=by
 (refine j7 func221 ntmps221 results221 fun w M=>?_)
 (repeat' first|refine yyp ?_;try refine Ce ?_ ?_<;>intro hb|refine yy ?_|refine Ch 197 ?_;refine Ck (hc:=(rk5 k)) ?_;try refine Ce ?_ ?_<;>intro hb|refine at_nil ?_;refine Cc [0,2,3,4,5] ?_|refine Cb fun K hK=>?_|apply_assumption -exfalso -symm)
 all_goals
  (refine j1 (k7 ?_))
  simp only[oneOf, *,Bool.not_true,Bool.not_false]
theorem mq5 (l:List Int)(least:Int):FnD prog (glS mm) 198 [.d (.list 1 (l.map (.int .u8))),.d (.int .i64 least)] (fun v=>v=.d (.bool (Lx.Nu l least))):=by
 have hcf:=vc5 (glS mm) (fun k=>!Lx.prim k) l fun k hk=>FnE.ofD (qe3 (mm:=mm) l[k]) (by(repeat (first|exact Pures.nil|apply Pures.cons (Pure.d _)|apply Pures.cons (Pure.nils _)));fail_if_success intros);rw[jp8]at hcf
 (refine j7 func198 ntmps198 results198 fun w M=>?_)
 (repeat' first|refine Ca 16 ?_;refine Cg (hc:=hcf) ?_;try refine Ce ?_ ?_<;>intro hb|refine yyp ?_;try refine Ce ?_ ?_<;>intro hb|refine yy ?_|refine yy2 ?_ ?_<;>intro hcmp|refine at_nil ?_;refine Cc [0,1,4,5,6,7] ?_|refine Cb fun K hK=>?_|apply_assumption -exfalso -symm)
 all_goals
  (refine j1 (k7 ?_))
  simp only[oneOf,Bk,Be,Lx.Nu]
  grind
theorem md0 (tag:ByteArray)(items:List D)(v:Va):FnE prog (glS mm) 200 [.d (dVa v),.ptr 4 0] [(4,.box [.d (.str tag),.d (.list 1 items)])] (fun u H1=>u=.d (.bool (decide (v.tag=tag)))/\H1=[(4,.box [.d (.str tag),.d (.list 1 items)])]):=by
 (refine j2 func200 ntmps200 results200 fun w M E b0=>?_)
 (repeat' first|refine Ca 2 ?_;(refine Cq 2 ?_)|refine yyp ?_;try refine Ce ?_ ?_<;>intro hb|refine yy ?_|refine yy2 ?_ ?_<;>intro hcmp|refine at_nil ?_;refine Cc [0,1,2,3,4,5,6] ?_|refine Cb fun K hK=>?_|apply_assumption -exfalso -symm)
 all_goals (refine j1 (j4 ⟨?_,rfl⟩))
 all_goals simp only[oneOf, *,decide_true,decide_false]
end
section
def vg2:List Nat:=[0,2,3,4,5,6]
def vg3:List Nat:=[0,1,4,5,6,7,9,17]
def vg4:List Nat:=[4,5,6,7,8,9,10,11,12,13,14,15,16,17]
def vg5:List Nat:=[0,2,3,4,5,6,21,25,32]
theorem jp2:ByteArray.empty=⟨#[]⟩:=rfl
attribute [local irreducible] TR TC
theorem qe4 (s:ByteArray)(c:UInt8)(l:List UInt8)(h:s.data.toList=c::l):Lx.Dg s=(decide (l.length<32) && Lx.letter c && l.all Lx.Ma && !Lx.isKey s):=by
 unfold Lx.Dg;rw[h]
theorem ml0 (c:UInt8)(h:Lx.letter c=true):Lx.Ma c=true:=by
 unfold Lx.Ma;rw[h];rfl
end
end Go.Proofs.YtklklgfpkpglgaaGreatDoor
namespace Go.Proofs
open Go.Shelf
def Tryz.Tn:Go.Shelf.Ren:=⟨fun|171=>79|243=>134|246=>181|283=>213|284=>214|285=>215|286=>216|129=>102|317=>225|318=>226|319=>227|320=>228|337=>231|338=>232|n=>n,fun|3=>3|9=>9|2=>2|4=>4|171=>236|0=>0|53=>162|37=>238|5=>5|173=>239|212=>250|51=>160|20=>20|213=>251|46=>121|232=>256|233=>257|n=>n,fun|17=>3|18=>6|19=>7|n=>n⟩
theorem Tryz.Wh:Go.Proofs.LaysM.n171 Tryz.prog Tryz.Tn:={
 mixed:=by kernel_rfl
 f129:=Tryz.func102.trans (congrArg some (by kernel_rfl))
 f171:=Tryz.func79.trans (congrArg some (by kernel_rfl))
 f243:=Tryz.func134.trans (congrArg some (by kernel_rfl))
 f246:=Tryz.func181.trans (congrArg some (by kernel_rfl))
 f283:=Tryz.func213.trans (congrArg some (by kernel_rfl))
 f284:=Tryz.func214.trans (congrArg some (by kernel_rfl))
 f285:=Tryz.func215.trans (congrArg some (by kernel_rfl))
 f286:=Tryz.func216.trans (congrArg some (by kernel_rfl))
 f317:=Tryz.func225.trans (congrArg some (by kernel_rfl))
 f318:=Tryz.func226.trans (congrArg some (by kernel_rfl))
 f319:=Tryz.func227.trans (congrArg some (by kernel_rfl))
 f320:=Tryz.func228.trans (congrArg some (by kernel_rfl))
 f337:=Tryz.func231.trans (congrArg some (by kernel_rfl))
 f338:=Tryz.func232.trans (congrArg some (by kernel_rfl))
 t0:=Tryz.underlying0
 a0:=Tryz.isAgg0
 z0:=Tryz.sizeOf0
 v0:=Tryz.zeroValue0
 t2:=Tryz.underlying2
 a2:=Tryz.isAgg2
 z2:=Tryz.sizeOf2
 v2:=Tryz.zeroValue2
 t3:=Tryz.underlying3
 a3:=Tryz.isAgg3
 z3:=Tryz.sizeOf3
 v3:=Tryz.zeroValue3
 t4:=Tryz.underlying4
 a4:=Tryz.isAgg4
 z4:=Tryz.sizeOf4
 v4:=Tryz.zeroValue4
 t5:=Tryz.underlying5
 a5:=Tryz.isAgg5
 z5:=Tryz.sizeOf5
 v5:=Tryz.zeroValue5
 t9:=Tryz.underlying9
 a9:=Tryz.isAgg9
 z9:=Tryz.sizeOf9
 v9:=Tryz.zeroValue9
 t20:=Tryz.underlying20
 a20:=Tryz.isAgg20
 z20:=Tryz.sizeOf20
 v20:=Tryz.zeroValue20
 t37:=Tryz.underlying238
 a37:=Tryz.isAgg238
 z37:=Tryz.sizeOf238
 v37:=Tryz.zeroValue238
 t46:=Tryz.underlying121
 a46:=Tryz.isAgg121
 z46:=Tryz.sizeOf121
 v46:=Tryz.zeroValue121
 t51:=Tryz.underlying160
 a51:=Tryz.isAgg160
 z51:=Tryz.sizeOf160
 v51:=Tryz.zeroValue160
 t53:=Tryz.underlying162
 a53:=Tryz.isAgg162
 z53:=Tryz.sizeOf162
 v53:=Tryz.zeroValue162
 t171:=Tryz.underlying236
 a171:=Tryz.isAgg236
 z171:=Tryz.sizeOf236
 v171:=Tryz.zeroValue236
 t173:=Tryz.underlying239
 a173:=Tryz.isAgg239
 z173:=Tryz.sizeOf239
 v173:=Tryz.zeroValue239
 t212:=Tryz.underlying250
 a212:=Tryz.isAgg250
 z212:=Tryz.sizeOf250
 v212:=Tryz.zeroValue250
 t213:=Tryz.underlying251
 a213:=Tryz.isAgg251
 z213:=Tryz.sizeOf251
 t232:=Tryz.underlying256
 a232:=Tryz.isAgg256
 z232:=Tryz.sizeOf256
 v232:=Tryz.zeroValue256
 t233:=Tryz.underlying257
 a233:=Tryz.isAgg257
 z233:=Tryz.sizeOf257
 v233:=Tryz.zeroValue257
 g17:=by kernel_rfl
 g18:=by kernel_rfl
 g19:=by kernel_rfl
 i0:=by kernel_rfl
 i2:=by kernel_rfl
 i3:=by kernel_rfl
 i4:=by kernel_rfl
 i5:=by kernel_rfl
 i9:=by kernel_rfl
 i20:=by kernel_rfl
 i37:=by kernel_rfl
 i46:=by kernel_rfl
 i51:=by kernel_rfl
 i53:=by kernel_rfl
 i171:=by kernel_rfl
 i173:=by kernel_rfl
 i212:=by kernel_rfl
 i232:=by kernel_rfl
 i233:=by kernel_rfl
 m17:=by kernel_rfl
 m18:=by kernel_rfl
 m19:=by kernel_rfl}
open Go.RowKit Go.Sort Go.Lib in
theorem Tryz.strconv_Itoa (n:Int)(h0:-9223372036854775808<=n)(h1:n<=9223372036854775807)(w:World)(htab:Lib.TabIs Tryz.prog w "internal/strconv.uint64pow10" .u64 Lib.pow10Tab):
 Calls Tryz.prog 79 #[.int .i64 n] w fun e w'=>e=.returned (.string ⟨(Lib.itoa n).toArray⟩)/\∃ k os,w'=grow (w.drewN k) os:=Any.strconv_Itoa Tryz.Wh n h0 h1 w htab
def Tryz.Ui:Go.Shelf.Ren:=⟨fun|144=>194|143=>218|219=>229|217=>233|225=>234|224=>235|267=>236|266=>237|314=>238|n=>n,fun|9=>9|4=>4|3=>3|5=>5|46=>121|146=>258|51=>160|n=>n,fun|1=>5|n=>n⟩
theorem Tryz.lays144:Go.Proofs.Lays.n144 Tryz.prog Tryz.Ui:={
 mixed:=by kernel_rfl
 f143:=Tryz.func218.trans (congrArg some (by kernel_rfl))
 f144:=Tryz.func194.trans (congrArg some (by kernel_rfl))
 f217:=Tryz.func233.trans (congrArg some (by kernel_rfl))
 f219:=Tryz.func229.trans (congrArg some (by kernel_rfl))
 f224:=Tryz.func235.trans (congrArg some (by kernel_rfl))
 f225:=Tryz.func234.trans (congrArg some (by kernel_rfl))
 f266:=Tryz.func237.trans (congrArg some (by kernel_rfl))
 f267:=Tryz.func236.trans (congrArg some (by kernel_rfl))
 f314:=Tryz.func238.trans (congrArg some (by kernel_rfl))
 t3:=Tryz.underlying3
 a3:=Tryz.isAgg3
 z3:=Tryz.sizeOf3
 v3:=Tryz.zeroValue3
 t4:=Tryz.underlying4
 a4:=Tryz.isAgg4
 z4:=Tryz.sizeOf4
 v4:=Tryz.zeroValue4
 t5:=Tryz.underlying5
 a5:=Tryz.isAgg5
 z5:=Tryz.sizeOf5
 v5:=Tryz.zeroValue5
 t9:=Tryz.underlying9
 a9:=Tryz.isAgg9
 z9:=Tryz.sizeOf9
 v9:=Tryz.zeroValue9
 t46:=Tryz.underlying121
 a46:=Tryz.isAgg121
 z46:=Tryz.sizeOf121
 v46:=Tryz.zeroValue121
 t51:=Tryz.underlying160
 a51:=Tryz.isAgg160
 z51:=Tryz.sizeOf160
 v51:=Tryz.zeroValue160
 t146:=Tryz.underlying258
 a146:=Tryz.isAgg258
 z146:=Tryz.sizeOf258
 v146:=Tryz.zeroValue258
 g1:=by kernel_rfl}
open Go.RowKit Go.Lib in
theorem Tryz.strings_Contains (s sub:ByteArray)(m:Int)(w:World)(hs:s.size<4294967281)(hm:w.cell? ⟨5,0,none⟩=some (.int .i64 m)):
 Calls Tryz.prog 194 #[.string s,.string sub] w fun e w'=>e=.returned (.bool (Lib.contains s.data.toList sub.data.toList))/\w'=w:=Any.strings_Contains Tryz.lays144 s sub m w hs hm
def Tryz.Uj:Go.Shelf.Ren:=⟨fun|190=>32|125=>60|258=>59|128=>101|129=>102|302=>92|303=>93|304=>94|305=>95|306=>96|307=>97|308=>98|309=>99|310=>100|333=>135|329=>136|330=>137|334=>138|335=>139|336=>140|344=>182|n=>n,fun|31=>37|9=>9|3=>3|46=>121|0=>0|51=>160|53=>162|4=>4|183=>152|182=>151|131=>157|5=>5|218=>188|222=>192|228=>215|229=>216|n=>n,fun|n=>n⟩
theorem Tryz.Vj:Go.Proofs.Lays.n190 Tryz.prog Tryz.Uj:={
 mixed:=by kernel_rfl
 f125:=Tryz.func60.trans (congrArg some (by kernel_rfl))
 f128:=Tryz.func101.trans (congrArg some (by kernel_rfl))
 f129:=Tryz.func102.trans (congrArg some (by kernel_rfl))
 f190:=Tryz.func32.trans (congrArg some (by kernel_rfl))
 f258:=Tryz.func59.trans (congrArg some (by kernel_rfl))
 f302:=Tryz.func92.trans (congrArg some (by kernel_rfl))
 f303:=Tryz.func93.trans (congrArg some (by kernel_rfl))
 f304:=Tryz.func94.trans (congrArg some (by kernel_rfl))
 f305:=Tryz.func95.trans (congrArg some (by kernel_rfl))
 f306:=Tryz.func96.trans (congrArg some (by kernel_rfl))
 f307:=Tryz.func97.trans (congrArg some (by kernel_rfl))
 f308:=Tryz.func98.trans (congrArg some (by kernel_rfl))
 f309:=Tryz.func99.trans (congrArg some (by kernel_rfl))
 f310:=Tryz.func100.trans (congrArg some (by kernel_rfl))
 f329:=Tryz.func136.trans (congrArg some (by kernel_rfl))
 f330:=Tryz.func137.trans (congrArg some (by kernel_rfl))
 f333:=Tryz.func135.trans (congrArg some (by kernel_rfl))
 f334:=Tryz.func138.trans (congrArg some (by kernel_rfl))
 f335:=Tryz.func139.trans (congrArg some (by kernel_rfl))
 f336:=Tryz.func140.trans (congrArg some (by kernel_rfl))
 f344:=Tryz.func182.trans (congrArg some (by kernel_rfl))
 t0:=Tryz.underlying0
 a0:=Tryz.isAgg0
 z0:=Tryz.sizeOf0
 v0:=Tryz.zeroValue0
 t3:=Tryz.underlying3
 a3:=Tryz.isAgg3
 z3:=Tryz.sizeOf3
 v3:=Tryz.zeroValue3
 t4:=Tryz.underlying4
 a4:=Tryz.isAgg4
 z4:=Tryz.sizeOf4
 v4:=Tryz.zeroValue4
 t5:=Tryz.underlying5
 a5:=Tryz.isAgg5
 z5:=Tryz.sizeOf5
 v5:=Tryz.zeroValue5
 t9:=Tryz.underlying9
 a9:=Tryz.isAgg9
 z9:=Tryz.sizeOf9
 v9:=Tryz.zeroValue9
 t31:=Tryz.underlying37
 a31:=Tryz.isAgg37
 z31:=Tryz.sizeOf37
 v31:=Tryz.zeroValue37
 t46:=Tryz.underlying121
 a46:=Tryz.isAgg121
 z46:=Tryz.sizeOf121
 v46:=Tryz.zeroValue121
 t51:=Tryz.underlying160
 a51:=Tryz.isAgg160
 z51:=Tryz.sizeOf160
 v51:=Tryz.zeroValue160
 t53:=Tryz.underlying162
 a53:=Tryz.isAgg162
 z53:=Tryz.sizeOf162
 v53:=Tryz.zeroValue162
 t131:=Tryz.underlying157
 a131:=Tryz.isAgg157
 z131:=Tryz.sizeOf157
 v131:=Tryz.zeroValue157
 t182:=Tryz.underlying151
 a182:=Tryz.isAgg151
 z182:=Tryz.sizeOf151
 v182:=Tryz.zeroValue151
 t183:=Tryz.underlying152
 a183:=Tryz.isAgg152
 z183:=Tryz.sizeOf152
 v183:=Tryz.zeroValue152
 t218:=Tryz.underlying188
 a218:=Tryz.isAgg188
 z218:=Tryz.sizeOf188
 v218:=Tryz.zeroValue188
 t222:=Tryz.underlying192
 a222:=Tryz.isAgg192
 z222:=Tryz.sizeOf192
 v222:=Tryz.zeroValue192
 t228:=Tryz.underlying215
 a228:=Tryz.isAgg215
 z228:=Tryz.sizeOf215
 v228:=Tryz.zeroValue215
 t229:=Tryz.underlying216
 a229:=Tryz.isAgg216
 z229:=Tryz.sizeOf216
 v229:=Tryz.zeroValue216}
open Go.Sort Go.RowKit in
theorem Tryz.slices_Sort_string (blk off cap:Nat)(ss:List (List UInt8))(w:World)(hH:Holds encStr w blk off ss.toArray)(hblk:blk<w.heap.size)(hsz:ss.length<4611686018427387904):
 Calls Tryz.prog 32 #[.slice (some ⟨blk,off,none⟩) ss.length cap] w fun e w'=>
  e=.returned (.tuple #[])/\∃ n os,w'=grow (putRow encStr (Sort.ahead w n) blk off (ss.mergeSort fun x y=>decide (x<=y)).toArray) os:=Any.slices_Sort_string Tryz.Vj blk off cap ss w hH hblk hsz
def Tryz.Uk:Go.Shelf.Ren:=⟨fun|194=>33|n=>n,fun|31=>37|9=>9|3=>3|4=>4|0=>0|n=>n,fun|n=>n⟩
theorem Tryz.Vk:Go.Proofs.Lays.n194 Tryz.prog Tryz.Uk:={
 mixed:=by kernel_rfl
 f194:=Tryz.func33.trans (congrArg some (by kernel_rfl))
 t0:=Tryz.underlying0
 a0:=Tryz.isAgg0
 z0:=Tryz.sizeOf0
 v0:=Tryz.zeroValue0
 t3:=Tryz.underlying3
 a3:=Tryz.isAgg3
 z3:=Tryz.sizeOf3
 v3:=Tryz.zeroValue3
 t4:=Tryz.underlying4
 a4:=Tryz.isAgg4
 z4:=Tryz.sizeOf4
 v4:=Tryz.zeroValue4
 t9:=Tryz.underlying9
 a9:=Tryz.isAgg9
 z9:=Tryz.sizeOf9
 v9:=Tryz.zeroValue9
 t31:=Tryz.underlying37
 a31:=Tryz.isAgg37
 z31:=Tryz.sizeOf37
 v31:=Tryz.zeroValue37}
open Go.RowKit Go.Lib Go.Sort in
theorem Tryz.slices_Compact_string (blk off cap:Nat)(zs:List (List UInt8))(w:World)(hH:Holds encStr w blk off zs.toArray)(hsz:zs.length<=9223372036854775807)(hcap:zs.length<=cap):
 Calls Tryz.prog 33 #[.slice (some ⟨blk,off,none⟩) zs.length cap] w fun e w'=>e=.returned (.slice (some ⟨blk,off,none⟩) (Lib.compact zs).length cap)/\∃ q,w'=putRow encStr (Sort.ahead w q) blk off (Lib.compact zs++List.replicate (zs.length - (Lib.compact zs).length) []).toArray:=Any.slices_Compact_string Tryz.Vk blk off cap zs w hH hsz hcap
open Go.RowKit Go.Lib Go.Sort in
theorem Tryz.slices_Compact_string_empty (a:Option Addr)(cap:Nat)(w:World):
 Calls Tryz.prog 33 #[.slice a 0 cap] w fun e w'=>e=.returned (.slice a 0 cap)/\w'=w:=Any.slices_Compact_string_empty Tryz.Vk a cap w
open Go.RowKit Go.Sort in
theorem Tryz.slices_Sort_string_none (p:Option Addr)(cap:Nat)(w:World):
 Calls Tryz.prog 32 #[.slice p 0 cap] w fun e w'=>e=.returned (.tuple #[])/\w'=w:=Any.slices_Sort_string_none Tryz.Vj p cap w
end Go.Proofs
namespace Go.Proofs.YtklklgfpkpglgaaGreatDoor
open Go.RowKit Go.Proofs.Tryz
end Go.Proofs.YtklklgfpkpglgaaGreatDoor
