/- Parts: O8, O9, O10. -/
import Derived.Test.YtdopmfifmgkmoaaGreatDoorP13
set_option linter.all false
set_option maxRecDepth 100000
set_option maxHeartbeats 16000000
namespace Go.Proofs.YtdopmfifmgkmoaaGreatDoor
open Go.RowKit Go.Proofs.Tryz
section
def Qe:List Nat:=[0,1,4,5,6,7,10,12,13,14,24]
def qn5:List Nat:=[4,5,13,14,15,16,17,18,19,20,21,22,23,24,25]
def Qc:List Nat:=[0,1,2,6,7,8,9,14,15,16,17,18,30]
def qn6:List Nat:=[6,7,8,9,17,18,19,20,21,22,23,24,25,26,27,28,29,30,31]
def Rn:List Nat:=[0,1,4,5,6,7,10,14,26]
def ra4:List Nat:=[4,5,11,12,13,14,15,16,17,18,19,20,21,22,23,24,25,26]
def Rq:List Nat:=[0,1,4,5,6,7,10,14,25]
def ra5:List Nat:=[4,5,11,12,13,14,15,16,17,18,19,20,21,22,23,24,25]
def jk3:Plan:=lin [0,4,8,16,20,24,13,29,32]
def kq8:Plan:=lin [0,4,8,16,20,24,13,29,34,36]
theorem x8 {α:Type}{a b:List α}{k:Nat}(ha:k<a.length)(hb:k<b.length)(h:a.take k=b.take k)(e:a[k]=b[k]):a.take (k+1)=b.take (k+1):=by
 rw[Ba ha,Ba hb,h,e]
theorem y9 {α:Type}{a b:List α}{k:Nat}(ha:k<a.length)(hb:k<b.length)(e:a[k]≠b[k]):a≠b:=fun h=>by
 subst h;exact e rfl
theorem y5 {α:Type}{a b:List α}{k:Nat}(ha:a.length<=k)(hb:b.length<=k)(h:a.take k=b.take k):a=b:=by
 rwa [Ao ha,Ao hb]at h
theorem rj4 {a b:Ex}:a=b↔a.kind=b.kind/\a.op=b.op/\a.ty=b.ty/\a.n=b.n/\a.s=b.s/\a.l=b.l:=by
 cases a;cases b;simp only[Ex.mk.injEq,Ex.kind,Ex.op,Ex.ty,Ex.n,Ex.s,Ex.l];constructor
 ·rintro⟨h1,h2,h3,h4,h5,h6⟩;exact⟨h1,by rw[h2],h3,h4,h5,h6⟩
 ·rintro⟨h1,h2,h3,h4,h5,h6⟩;exact⟨h1,UInt8.toNat_inj.1 (by omega),h3,h4,h5,h6⟩
theorem my0 {a b:Fo}:a=b↔a.val=b.val/\a.type.kind=b.type.kind/\a.type.dim=b.type.dim/\a.type.item=b.type.item/\a.type.proto=b.type.proto/\a.name=b.name/\True:=by
 obtain⟨v,⟨k,d,i,p⟩,n⟩:=a;obtain⟨v',⟨k',d',i',p'⟩,n'⟩:=b;simp only[Fo.mk.injEq,Ty.mk.injEq,and_true];constructor
 ·rintro⟨h1,⟨h2,h3,h4,h5⟩,h6⟩;exact⟨h1,h2,h3,h4,h5,h6⟩
 ·rintro⟨h1,h2,h3,h4,h5,h6⟩;exact⟨h1,⟨h2,h3,h4,h5⟩,h6⟩
theorem rj5 {a b:Va}:a=b↔a.tag=b.tag/\a.items=b.items:=by
 cases a;cases b;simp
attribute [local irreducible] TR TC
theorem my1 (gl:List (Nat × List D))(a b:List Int):FnD prog gl 86 [.d (.list 1 (a.map (fun x=>.int .i64 (x)))),.d (.list 1 (b.map (fun x=>.int .i64 (x))))] (fun v=>v=.d (.bool (eqB a b))):=by
 (refine j3 func86 ntmps86 results86 fun w M=>?_)
 refine r7 0 rfl fun hna=>?_;refine r7 1 rfl fun hnb=>?_;simp only[Aa]at hna hnb
 (repeat' first|refine yyp ?_;try refine Cc ?_ ?_<;>intro hb|refine yy ?_|refine yy2 ?_ ?_<;>intro hcmp|refine at_nil ?_;refine Ce Qe ?_|refine Cb fun K hK=>?_|refine Ck 6 ?_;refine j1 [] jk3 ?_|apply_assumption -exfalso -symm)
 ·(refine j0 (j5 ?_))
  simp only[oneOf,Ax,An];exact(v7.2 fun e=>hcmp (by rw[e])).symm
 have hlen:a.length=b.length:=by omega
 refine j8 qn5 [] (fun k:Nat=>[(13,.d (.int .i64 k))]) (fun _=>[]) (fun k=>k<=a.length/\a.take k=b.take k) (fun k=>a.length - k) 0 ⟨Ak _,rfl⟩ fun k ⟨hk,hi⟩=>?_;dsimp only[Ac,Ad];rcases Ah k a.length with hk2|hk2
 ·have hk3:k<b.length:=by omega
  (repeat' first|refine yyp ?_;try refine Cc ?_ ?_<;>intro hb|refine yy ?_|refine yy2 ?_ ?_<;>intro hcmp|refine at_nil ?_;refine Ce Qe ?_|refine Cb fun K hK=>?_|refine Ck 6 ?_;refine j1 [] jk3 ?_|apply_assumption -exfalso -symm)
  all_goals try simp only[Bv,ne_eq]at hcmp
  all_goals first
   |(refine⟨k+1,⟨by omega,x8 hk2 hk3 hi (by first|exact k7.1 hb|exact hcmp|exact hcmp)⟩,by omega,v6⟩)
   |((refine j0 (j5 ?_))
     simp only[oneOf,Ax,An];exact(v7.2 (y9 hk2 hk3 (by first|exact v7.1 hb|exact hcmp|exact hcmp))).symm)
 ·(repeat' first|refine yyp ?_;try refine Cc ?_ ?_<;>intro hb|refine yy ?_|refine at_nil ?_;refine Ce Qe ?_|refine Cb fun K hK=>?_|refine Ck 6 ?_;refine j1 [] jk3 ?_|apply_assumption -exfalso -symm)
  (refine j0 (j5 ?_))
  simp only[oneOf,Ax,An];exact(k7.2 (y5 hk2 (by omega) hi)).symm
theorem qn7 (gl:List (Nat × List D))(a b:List Int):FnD prog gl 156 [.d (.list 1 (a.map (fun x=>.int .u8 (x)))),.d (.list 1 (b.map (fun x=>.int .u8 (x))))] (fun v=>v=.d (.bool (eqB a b))):=by
 (refine j3 func156 ntmps156 results156 fun w M=>?_)
 refine r7 0 rfl fun hna=>?_;refine r7 1 rfl fun hnb=>?_;simp only[Aa]at hna hnb
 (repeat' first|refine yyp ?_;try refine Cc ?_ ?_<;>intro hb|refine yy ?_|refine yy2 ?_ ?_<;>intro hcmp|refine at_nil ?_;refine Ce Qe ?_|refine Cb fun K hK=>?_|refine Ck 6 ?_;refine j1 [] jk3 ?_|apply_assumption -exfalso -symm)
 ·(refine j0 (j5 ?_))
  simp only[oneOf,Ax,An];exact(v7.2 fun e=>hcmp (by rw[e])).symm
 have hlen:a.length=b.length:=by omega
 refine j8 qn5 [] (fun k:Nat=>[(13,.d (.int .i64 k))]) (fun _=>[]) (fun k=>k<=a.length/\a.take k=b.take k) (fun k=>a.length - k) 0 ⟨Ak _,rfl⟩ fun k ⟨hk,hi⟩=>?_;dsimp only[Ac,Ad];rcases Ah k a.length with hk2|hk2
 ·have hk3:k<b.length:=by omega
  (repeat' first|refine yyp ?_;try refine Cc ?_ ?_<;>intro hb|refine yy ?_|refine yy2 ?_ ?_<;>intro hcmp|refine at_nil ?_;refine Ce Qe ?_|refine Cb fun K hK=>?_|refine Ck 6 ?_;refine j1 [] jk3 ?_|apply_assumption -exfalso -symm)
  all_goals try simp only[Bv,ne_eq]at hcmp
  all_goals first
   |(refine⟨k+1,⟨by omega,x8 hk2 hk3 hi (by first|exact k7.1 hb|exact hcmp|exact hcmp)⟩,by omega,v6⟩)
   |((refine j0 (j5 ?_))
     simp only[oneOf,Ax,An];exact(v7.2 (y9 hk2 hk3 (by first|exact v7.1 hb|exact hcmp|exact hcmp))).symm)
 ·(repeat' first|refine yyp ?_;try refine Cc ?_ ?_<;>intro hb|refine yy ?_|refine at_nil ?_;refine Ce Qe ?_|refine Cb fun K hK=>?_|refine Ck 6 ?_;refine j1 [] jk3 ?_|apply_assumption -exfalso -symm)
  (refine j0 (j5 ?_))
  simp only[oneOf,Ax,An];exact(k7.2 (y5 hk2 (by omega) hi)).symm
theorem my2 (gl:List (Nat × List D))(a b:List ByteArray):FnD prog gl 157 [.d (.list 1 (a.map (fun x=>.str (x)))),.d (.list 1 (b.map (fun x=>.str (x))))] (fun v=>v=.d (.bool (eqB a b))):=by
 (refine j3 func157 ntmps157 results157 fun w M=>?_)
 refine r7 0 rfl fun hna=>?_;refine r7 1 rfl fun hnb=>?_;simp only[Aa]at hna hnb
 (repeat' first|refine yyp ?_;try refine Cc ?_ ?_<;>intro hb|refine yy ?_|refine yy2 ?_ ?_<;>intro hcmp|refine at_nil ?_;refine Ce Qe ?_|refine Cb fun K hK=>?_|refine Ck 6 ?_;refine j1 [] jk3 ?_|apply_assumption -exfalso -symm)
 ·(refine j0 (j5 ?_))
  simp only[oneOf,Ax,An];exact(v7.2 fun e=>hcmp (by rw[e])).symm
 have hlen:a.length=b.length:=by omega
 refine j8 qn5 [] (fun k:Nat=>[(13,.d (.int .i64 k))]) (fun _=>[]) (fun k=>k<=a.length/\a.take k=b.take k) (fun k=>a.length - k) 0 ⟨Ak _,rfl⟩ fun k ⟨hk,hi⟩=>?_;dsimp only[Ac,Ad];rcases Ah k a.length with hk2|hk2
 ·have hk3:k<b.length:=by omega
  (repeat' first|refine yyp ?_;try refine Cc ?_ ?_<;>intro hb|refine yy ?_|refine yy2 ?_ ?_<;>intro hcmp|refine at_nil ?_;refine Ce Qe ?_|refine Cb fun K hK=>?_|refine Ck 6 ?_;refine j1 [] jk3 ?_|apply_assumption -exfalso -symm)
  all_goals try simp only[Bv,ne_eq]at hcmp
  all_goals first
   |(refine⟨k+1,⟨by omega,x8 hk2 hk3 hi (by first|exact k7.1 hb|exact hcmp|exact hcmp)⟩,by omega,v6⟩)
   |((refine j0 (j5 ?_))
     simp only[oneOf,Ax,An];exact(v7.2 (y9 hk2 hk3 (by first|exact v7.1 hb|exact hcmp|exact hcmp))).symm)
 ·(repeat' first|refine yyp ?_;try refine Cc ?_ ?_<;>intro hb|refine yy ?_|refine at_nil ?_;refine Ce Qe ?_|refine Cb fun K hK=>?_|refine Ck 6 ?_;refine j1 [] jk3 ?_|apply_assumption -exfalso -symm)
  (refine j0 (j5 ?_))
  simp only[oneOf,Ax,An];exact(k7.2 (y5 hk2 (by omega) hi)).symm
theorem qn8 (gl:List (Nat × List D))(a b:List Fo):FnD prog gl 159 [.d (.list 6 (a.map (fun x=>dFo (x)))),.d (.list 6 (b.map (fun x=>dFo (x))))] (fun v=>v=.d (.bool (eqB a b))):=by
 (refine j3 func159 ntmps159 results159 fun w M=>?_)
 refine r7 0 rfl fun hna=>?_;refine r7 1 rfl fun hnb=>?_;simp only[Aa]at hna hnb
 (repeat' first|refine yyp ?_;try refine Cc ?_ ?_<;>intro hb|refine yy ?_|refine yy2 ?_ ?_<;>intro hcmp|refine at_nil ?_;refine Ce Qe ?_|refine Cb fun K hK=>?_|refine Ck 6 ?_;refine j1 [] jk3 ?_|apply_assumption -exfalso -symm)
 ·(refine j0 (j5 ?_))
  simp only[oneOf,Ax,An];exact(v7.2 fun e=>hcmp (by rw[e])).symm
 have hlen:a.length=b.length:=by omega
 refine j8 qn5 [] (fun k:Nat=>[(13,.d (.int .i64 k))]) (fun _=>[]) (fun k=>k<=a.length/\a.take k=b.take k) (fun k=>a.length - k) 0 ⟨Ak _,rfl⟩ fun k ⟨hk,hi⟩=>?_;dsimp only[Ac,Ad];rcases Ah k a.length with hk2|hk2
 ·have hk3:k<b.length:=by omega
  (repeat' first|refine yyp ?_;try refine Cc ?_ ?_<;>intro hb|refine yy ?_|refine yy2 ?_ ?_<;>intro hcmp|refine at_nil ?_;refine Ce Qe ?_|refine Cb fun K hK=>?_|refine Ck 6 ?_;refine j1 [] jk3 ?_|apply_assumption -exfalso -symm)
  all_goals try simp only[Bv,ne_eq]at hcmp
  all_goals first
   |(refine⟨k+1,⟨by omega,x8 hk2 hk3 hi (by first|exact k7.1 hb|exact hcmp|exact my0.2 hcmp|exact fun e=>hcmp (my0.1 e))⟩,by omega,v6⟩)
   |((refine j0 (j5 ?_))
     simp only[oneOf,Ax,An];exact(v7.2 (y9 hk2 hk3 (by first|exact v7.1 hb|exact hcmp|exact my0.2 hcmp|exact fun e=>hcmp (my0.1 e)))).symm)
 ·(repeat' first|refine yyp ?_;try refine Cc ?_ ?_<;>intro hb|refine yy ?_|refine at_nil ?_;refine Ce Qe ?_|refine Cb fun K hK=>?_|refine Ck 6 ?_;refine j1 [] jk3 ?_|apply_assumption -exfalso -symm)
  (refine j0 (j5 ?_))
  simp only[oneOf,Ax,An];exact(k7.2 (y5 hk2 (by omega) hi)).symm
theorem my3 (gl:List (Nat × List D))(a b:List Ex)(h:∀ x∈a,∀ y:Ex,FnD prog gl 84 [.d (dEx (x)),.d (dEx (y))] (fun v=>v=.d (.bool (eqB x y)))):FnD prog gl 124 [.d (.list 6 (a.map (fun x=>dEx (x)))),.d (.list 6 (b.map (fun x=>dEx (x)))),.clo (.func 84) [] []] (fun v=>v=.d (.bool (eqB a b))):=by
 simp only[r9]at h ⊢
 (refine j3 func124 ntmps124 results124 fun w M=>?_)
 refine r7 0 rfl fun hna=>?_;refine r7 1 rfl fun hnb=>?_;simp only[Aa]at hna hnb
 (repeat' first|refine yyp ?_;try refine Cc ?_ ?_<;>intro hb|refine yy ?_|refine yy2 ?_ ?_<;>intro hcmp|refine at_nil ?_;refine Ce Qc ?_|refine Cb fun K hK=>?_|apply_assumption -exfalso -symm)
 ·(refine j0 (j5 ?_))
  simp only[oneOf,Ax,An];exact(v7.2 fun e=>hcmp (by rw[e])).symm
 have hlen:a.length=b.length:=by omega
 refine j8 qn6 [] (fun k:Nat=>[(17,.d (.int .i64 k))]) (fun _=>[]) (fun k=>k<=a.length/\a.take k=b.take k) (fun k=>a.length - k) 0 ⟨Ak _,rfl⟩ fun k ⟨hk,hi⟩=>?_;dsimp only[Ac,Ad];rcases Ah k a.length with hk2|hk2
 ·have hk3:k<b.length:=by omega
  have hone:=FnE.ofD (h a[k] (Ar _) b[k]) (by(repeat (first|exact Pures.nil|apply Pures.cons (Pure.d _)|apply Pures.cons (Pure.nils _)));fail_if_success intros)
  (repeat' first|refine Ca 8 ?_;(refine Cj 8 ?_)|refine Ca 9 ?_;(refine Cj 9 ?_)|refine Ca 29 ?_;refine Ch (hc:=hone) ?_;try refine Cc ?_ ?_<;>intro hb|refine yyp ?_;try refine Cc ?_ ?_<;>intro hb|refine yy ?_|refine at_nil ?_;refine Ce Qc ?_|refine Cb fun K hK=>?_|apply_assumption -exfalso -symm)
  all_goals try simp only[Bv,ne_eq]at hcmp
  all_goals first
   |(refine⟨k+1,⟨by omega,x8 hk2 hk3 hi (by first|exact k7.1 hb|exact hcmp|exact hcmp)⟩,by omega,v6⟩)
   |((refine j0 (j5 ?_))
     simp only[oneOf,Ax,An];exact(v7.2 (y9 hk2 hk3 (by first|exact v7.1 hb|exact hcmp|exact hcmp))).symm)
 ·(repeat' first|refine yyp ?_;try refine Cc ?_ ?_<;>intro hb|refine yy ?_|refine at_nil ?_;refine Ce Qc ?_|refine Cb fun K hK=>?_|apply_assumption -exfalso -symm)
  (refine j0 (j5 ?_))
  simp only[oneOf,Ax,An];exact(k7.2 (y5 hk2 (by omega) hi)).symm
theorem my4 (gl:List (Nat × List D))(a b:List Va)(h:∀ x∈a,∀ y:Va,FnD prog gl 155 [.d (dVa (x)),.d (dVa (y))] (fun v=>v=.d (.bool (eqB x y)))):FnD prog gl 158 [.d (.list 2 (a.map (fun x=>dVa (x)))),.d (.list 2 (b.map (fun x=>dVa (x)))),.clo (.func 155) [] []] (fun v=>v=.d (.bool (eqB a b))):=by
 (refine j3 func158 ntmps158 results158 fun w M=>?_)
 refine r7 0 rfl fun hna=>?_;refine r7 1 rfl fun hnb=>?_;simp only[Aa]at hna hnb
 (repeat' first|refine yyp ?_;try refine Cc ?_ ?_<;>intro hb|refine yy ?_|refine yy2 ?_ ?_<;>intro hcmp|refine at_nil ?_;refine Ce Qc ?_|refine Cb fun K hK=>?_|apply_assumption -exfalso -symm)
 ·(refine j0 (j5 ?_))
  simp only[oneOf,Ax,An];exact(v7.2 fun e=>hcmp (by rw[e])).symm
 have hlen:a.length=b.length:=by omega
 refine j8 qn6 [] (fun k:Nat=>[(17,.d (.int .i64 k))]) (fun _=>[]) (fun k=>k<=a.length/\a.take k=b.take k) (fun k=>a.length - k) 0 ⟨Ak _,rfl⟩ fun k ⟨hk,hi⟩=>?_;dsimp only[Ac,Ad];rcases Ah k a.length with hk2|hk2
 ·have hk3:k<b.length:=by omega
  have hone:=FnE.ofD (h a[k] (Ar _) b[k]) (by(repeat (first|exact Pures.nil|apply Pures.cons (Pure.d _)|apply Pures.cons (Pure.nils _)));fail_if_success intros)
  (repeat' first|refine Ca 8 ?_;(refine Cj 8 ?_)|refine Ca 9 ?_;(refine Cj 9 ?_)|refine Ca 29 ?_;refine Ch (hc:=hone) ?_;try refine Cc ?_ ?_<;>intro hb|refine yyp ?_;try refine Cc ?_ ?_<;>intro hb|refine yy ?_|refine at_nil ?_;refine Ce Qc ?_|refine Cb fun K hK=>?_|apply_assumption -exfalso -symm)
  all_goals try simp only[Bv,ne_eq]at hcmp
  all_goals first
   |(refine⟨k+1,⟨by omega,x8 hk2 hk3 hi (by first|exact k7.1 hb|exact hcmp|exact hcmp)⟩,by omega,v6⟩)
   |((refine j0 (j5 ?_))
     simp only[oneOf,Ax,An];exact(v7.2 (y9 hk2 hk3 (by first|exact v7.1 hb|exact hcmp|exact hcmp))).symm)
 ·(repeat' first|refine yyp ?_;try refine Cc ?_ ?_<;>intro hb|refine yy ?_|refine at_nil ?_;refine Ce Qc ?_|refine Cb fun K hK=>?_|apply_assumption -exfalso -symm)
  (refine j0 (j5 ?_))
  simp only[oneOf,Ax,An];exact(k7.2 (y5 hk2 (by omega) hi)).symm
theorem my5 (gl:List (Nat × List D))(a b:List Gu)(h:∀ x∈a,∀ y:Gu,FnD prog gl 88 [.d (dGu (x)),.d (dGu (y))] (fun v=>v=.d (.bool (eqB x y)))):FnD prog gl 87 [.d (.list 23 (a.map (fun x=>dGu (x)))),.d (.list 23 (b.map (fun x=>dGu (x)))),.clo (.func 88) [] []] (fun v=>v=.d (.bool (eqB a b))):=by
 simp only[je9]at h ⊢
 (refine j3 func87 ntmps87 results87 fun w M=>?_)
 refine r7 0 rfl fun hna=>?_;refine r7 1 rfl fun hnb=>?_;simp only[Aa]at hna hnb
 (repeat' first|refine yyp ?_;try refine Cc ?_ ?_<;>intro hb|refine yy ?_|refine yy2 ?_ ?_<;>intro hcmp|refine at_nil ?_;refine Ce Qc ?_|refine Cb fun K hK=>?_|apply_assumption -exfalso -symm)
 ·(refine j0 (j5 ?_))
  simp only[oneOf,Ax,An];exact(v7.2 fun e=>hcmp (by rw[e])).symm
 have hlen:a.length=b.length:=by omega
 refine j8 qn6 [] (fun k:Nat=>[(17,.d (.int .i64 k))]) (fun _=>[]) (fun k=>k<=a.length/\a.take k=b.take k) (fun k=>a.length - k) 0 ⟨Ak _,rfl⟩ fun k ⟨hk,hi⟩=>?_;dsimp only[Ac,Ad];rcases Ah k a.length with hk2|hk2
 ·have hk3:k<b.length:=by omega
  have hone:=FnE.ofD (h a[k] (Ar _) b[k]) (by(repeat (first|exact Pures.nil|apply Pures.cons (Pure.d _)|apply Pures.cons (Pure.nils _)));fail_if_success intros)
  (repeat' first|refine Ca 8 ?_;(refine Cj 8 ?_)|refine Ca 9 ?_;(refine Cj 9 ?_)|refine Ca 29 ?_;refine Ch (hc:=hone) ?_;try refine Cc ?_ ?_<;>intro hb|refine yyp ?_;try refine Cc ?_ ?_<;>intro hb|refine yy ?_|refine at_nil ?_;refine Ce Qc ?_|refine Cb fun K hK=>?_|apply_assumption -exfalso -symm)
  all_goals try simp only[Bv,ne_eq]at hcmp
  all_goals first
   |(refine⟨k+1,⟨by omega,x8 hk2 hk3 hi (by first|exact k7.1 hb|exact hcmp|exact hcmp)⟩,by omega,v6⟩)
   |((refine j0 (j5 ?_))
     simp only[oneOf,Ax,An];exact(v7.2 (y9 hk2 hk3 (by first|exact v7.1 hb|exact hcmp|exact hcmp))).symm)
 ·(repeat' first|refine yyp ?_;try refine Cc ?_ ?_<;>intro hb|refine yy ?_|refine at_nil ?_;refine Ce Qc ?_|refine Cb fun K hK=>?_|apply_assumption -exfalso -symm)
  (refine j0 (j5 ?_))
  simp only[oneOf,Ax,An];exact(k7.2 (y5 hk2 (by omega) hi)).symm
theorem ke7 (gl:List (Nat × List D))(a b:List Pr)(h:∀ x∈a,∀ y:Pr,FnD prog gl 49 [.d (dPr (x)),.d (dPr (y))] (fun v=>v=.d (.bool (eqB x y)))):FnD prog gl 89 [.d (.list 42 (a.map (fun x=>dPr (x)))),.d (.list 42 (b.map (fun x=>dPr (x)))),.clo (.func 49) [] []] (fun v=>v=.d (.bool (eqB a b))):=by
 simp only[v8]at h ⊢
 (refine j3 func89 ntmps89 results89 fun w M=>?_)
 refine r7 0 rfl fun hna=>?_;refine r7 1 rfl fun hnb=>?_;simp only[Aa]at hna hnb
 (repeat' first|refine yyp ?_;try refine Cc ?_ ?_<;>intro hb|refine yy ?_|refine yy2 ?_ ?_<;>intro hcmp|refine at_nil ?_;refine Ce Qc ?_|refine Cb fun K hK=>?_|apply_assumption -exfalso -symm)
 ·(refine j0 (j5 ?_))
  simp only[oneOf,Ax,An];exact(v7.2 fun e=>hcmp (by rw[e])).symm
 have hlen:a.length=b.length:=by omega
 refine j8 qn6 [] (fun k:Nat=>[(17,.d (.int .i64 k))]) (fun _=>[]) (fun k=>k<=a.length/\a.take k=b.take k) (fun k=>a.length - k) 0 ⟨Ak _,rfl⟩ fun k ⟨hk,hi⟩=>?_;dsimp only[Ac,Ad];rcases Ah k a.length with hk2|hk2
 ·have hk3:k<b.length:=by omega
  have hone:=FnE.ofD (h a[k] (Ar _) b[k]) (by(repeat (first|exact Pures.nil|apply Pures.cons (Pure.d _)|apply Pures.cons (Pure.nils _)));fail_if_success intros)
  (repeat' first|refine Ca 8 ?_;(refine Cj 8 ?_)|refine Ca 9 ?_;(refine Cj 9 ?_)|refine Ca 29 ?_;refine Ch (hc:=hone) ?_;try refine Cc ?_ ?_<;>intro hb|refine yyp ?_;try refine Cc ?_ ?_<;>intro hb|refine yy ?_|refine at_nil ?_;refine Ce Qc ?_|refine Cb fun K hK=>?_|apply_assumption -exfalso -symm)
  all_goals try simp only[Bv,ne_eq]at hcmp
  all_goals first
   |(refine⟨k+1,⟨by omega,x8 hk2 hk3 hi (by first|exact k7.1 hb|exact hcmp|exact hcmp)⟩,by omega,v6⟩)
   |((refine j0 (j5 ?_))
     simp only[oneOf,Ax,An];exact(v7.2 (y9 hk2 hk3 (by first|exact v7.1 hb|exact hcmp|exact hcmp))).symm)
 ·(repeat' first|refine yyp ?_;try refine Cc ?_ ?_<;>intro hb|refine yy ?_|refine at_nil ?_;refine Ce Qc ?_|refine Cb fun K hK=>?_|apply_assumption -exfalso -symm)
  (refine j0 (j5 ?_))
  simp only[oneOf,Ax,An];exact(k7.2 (y5 hk2 (by omega) hi)).symm
theorem jm5 (gl:List (Nat × List D))(a b:List Ex)(h:∀ x∈a,∀ y:Ex,FnD prog gl 44 [.d (dEx (x)),.d (dEx (y))] (fun v=>v=.d (.bool (eqB x y)))):FnD prog gl 45 [.d (.list 6 (a.map (fun x=>dEx (x)))),.d (.list 6 (b.map (fun x=>dEx (x))))] (fun v=>v=.d (.bool (eqB a b))):=by
 simp only[r9]at h ⊢
 (refine j3 func45 ntmps45 results45 fun w M=>?_)
 refine r7 0 rfl fun hna=>?_;refine r7 1 rfl fun hnb=>?_;simp only[Aa]at hna hnb
 (repeat' first|refine yyp ?_;try refine Cc ?_ ?_<;>intro hb|refine yy ?_|refine yy2 ?_ ?_<;>intro hcmp|refine at_nil ?_;refine Ce Rn ?_|refine Cb fun K hK=>?_|refine Ck 6 ?_;refine j1 [] kq8 ?_|apply_assumption -exfalso -symm)
 ·(refine j0 (j5 ?_))
  simp only[oneOf,Ax,An];exact(v7.2 fun e=>hcmp (by rw[e])).symm
 have hlen:a.length=b.length:=by omega
 refine j8 ra4 [] (fun k:Nat=>[(5,.d (.int .i64 k))]) (fun _=>[]) (fun k=>k<=a.length/\a.take k=b.take k) (fun k=>a.length - k) 0 ⟨Ak _,rfl⟩ fun k ⟨hk,hi⟩=>?_;dsimp only[Ac,Ad];rcases Ah k a.length with hk2|hk2
 ·have hk3:k<b.length:=by omega
  have hone:=h a[k] (Ar _) b[k]
  (repeat' first|refine yyp ?_;try refine Cc ?_ ?_<;>intro hb|refine yy ?_|refine Cf 44 ?_;refine Cg (hc:=hone) ?_;try refine Cc ?_ ?_<;>intro hb|refine at_nil ?_;refine Ce Rn ?_|refine Cb fun K hK=>?_|refine Ck 6 ?_;refine j1 [] kq8 ?_|apply_assumption -exfalso -symm)
  all_goals try simp only[Bv,ne_eq]at hcmp
  all_goals first
   |(refine⟨k+1,⟨by omega,x8 hk2 hk3 hi (by first|exact k7.1 hb|exact hcmp|exact hcmp)⟩,by omega,v6⟩)
   |((refine j0 (j5 ?_))
     simp only[oneOf,Ax,An];exact(v7.2 (y9 hk2 hk3 (by first|exact v7.1 hb|exact hcmp|exact hcmp))).symm)
 ·(repeat' first|refine yyp ?_;try refine Cc ?_ ?_<;>intro hb|refine yy ?_|refine at_nil ?_;refine Ce Rn ?_|refine Cb fun K hK=>?_|refine Ck 6 ?_;refine j1 [] kq8 ?_|apply_assumption -exfalso -symm)
  (refine j0 (j5 ?_))
  simp only[oneOf,Ax,An];exact(k7.2 (y5 hk2 (by omega) hi)).symm
theorem me2 (gl:List (Nat × List D))(a b:List ByteArray):FnD prog gl 82 [.d (.list 1 (a.map (fun x=>.str (x)))),.d (.list 1 (b.map (fun x=>.str (x))))] (fun v=>v=.d (.bool (eqB a b))):=by
 (refine j3 func82 ntmps82 results82 fun w M=>?_)
 refine r7 0 rfl fun hna=>?_;refine r7 1 rfl fun hnb=>?_;simp only[Aa]at hna hnb
 (repeat' first|refine yyp ?_;try refine Cc ?_ ?_<;>intro hb|refine yy ?_|refine yy2 ?_ ?_<;>intro hcmp|refine at_nil ?_;refine Ce Rq ?_|refine Cb fun K hK=>?_|refine Ck 6 ?_;refine j1 [] jk3 ?_|apply_assumption -exfalso -symm)
 ·(refine j0 (j5 ?_))
  simp only[oneOf,Ax,An];exact(v7.2 fun e=>hcmp (by rw[e])).symm
 have hlen:a.length=b.length:=by omega
 refine j8 ra5 [] (fun k:Nat=>[(5,.d (.int .i64 k))]) (fun _=>[]) (fun k=>k<=a.length/\a.take k=b.take k) (fun k=>a.length - k) 0 ⟨Ak _,rfl⟩ fun k ⟨hk,hi⟩=>?_;dsimp only[Ac,Ad];rcases Ah k a.length with hk2|hk2
 ·have hk3:k<b.length:=by omega
  (repeat' first|refine yyp ?_;try refine Cc ?_ ?_<;>intro hb|refine yy ?_|refine yy2 ?_ ?_<;>intro hcmp|refine at_nil ?_;refine Ce Rq ?_|refine Cb fun K hK=>?_|refine Ck 6 ?_;refine j1 [] jk3 ?_|apply_assumption -exfalso -symm)
  all_goals try simp only[Bv,ne_eq]at hcmp
  all_goals first
   |(refine⟨k+1,⟨by omega,x8 hk2 hk3 hi (by first|exact k7.1 hb|exact hcmp|exact hcmp)⟩,by omega,v6⟩)
   |((refine j0 (j5 ?_))
     simp only[oneOf,Ax,An];exact(v7.2 (y9 hk2 hk3 (by first|exact v7.1 hb|exact hcmp|exact hcmp))).symm)
 ·(repeat' first|refine yyp ?_;try refine Cc ?_ ?_<;>intro hb|refine yy ?_|refine at_nil ?_;refine Ce Rq ?_|refine Cb fun K hK=>?_|refine Ck 6 ?_;refine j1 [] jk3 ?_|apply_assumption -exfalso -symm)
  (refine j0 (j5 ?_))
  simp only[oneOf,Ax,An];exact(k7.2 (y5 hk2 (by omega) hi)).symm
theorem me3 (gl:List (Nat × List D))(a b:List Int):FnD prog gl 123 [.d (.list 1 (a.map (fun x=>.int .u8 (x)))),.d (.list 1 (b.map (fun x=>.int .u8 (x))))] (fun v=>v=.d (.bool (eqB a b))):=by
 (refine j3 func123 ntmps123 results123 fun w M=>?_)
 refine r7 0 rfl fun hna=>?_;refine r7 1 rfl fun hnb=>?_;simp only[Aa]at hna hnb
 (repeat' first|refine yyp ?_;try refine Cc ?_ ?_<;>intro hb|refine yy ?_|refine yy2 ?_ ?_<;>intro hcmp|refine at_nil ?_;refine Ce Rq ?_|refine Cb fun K hK=>?_|refine Ck 6 ?_;refine j1 [] jk3 ?_|apply_assumption -exfalso -symm)
 ·(refine j0 (j5 ?_))
  simp only[oneOf,Ax,An];exact(v7.2 fun e=>hcmp (by rw[e])).symm
 have hlen:a.length=b.length:=by omega
 refine j8 ra5 [] (fun k:Nat=>[(5,.d (.int .i64 k))]) (fun _=>[]) (fun k=>k<=a.length/\a.take k=b.take k) (fun k=>a.length - k) 0 ⟨Ak _,rfl⟩ fun k ⟨hk,hi⟩=>?_;dsimp only[Ac,Ad];rcases Ah k a.length with hk2|hk2
 ·have hk3:k<b.length:=by omega
  (repeat' first|refine yyp ?_;try refine Cc ?_ ?_<;>intro hb|refine yy ?_|refine yy2 ?_ ?_<;>intro hcmp|refine at_nil ?_;refine Ce Rq ?_|refine Cb fun K hK=>?_|refine Ck 6 ?_;refine j1 [] jk3 ?_|apply_assumption -exfalso -symm)
  all_goals try simp only[Bv,ne_eq]at hcmp
  all_goals first
   |(refine⟨k+1,⟨by omega,x8 hk2 hk3 hi (by first|exact k7.1 hb|exact hcmp|exact hcmp)⟩,by omega,v6⟩)
   |((refine j0 (j5 ?_))
     simp only[oneOf,Ax,An];exact(v7.2 (y9 hk2 hk3 (by first|exact v7.1 hb|exact hcmp|exact hcmp))).symm)
 ·(repeat' first|refine yyp ?_;try refine Cc ?_ ?_<;>intro hb|refine yy ?_|refine at_nil ?_;refine Ce Rq ?_|refine Cb fun K hK=>?_|refine Ck 6 ?_;refine j1 [] jk3 ?_|apply_assumption -exfalso -symm)
  (refine j0 (j5 ?_))
  simp only[oneOf,Ax,An];exact(k7.2 (y5 hk2 (by omega) hi)).symm
theorem ky1 (gl:List (Nat × List D))(a b:List Gu)(h:∀ x∈a,∀ y:Gu,FnD prog gl 81 [.d (dGu (x)),.d (dGu (y))] (fun v=>v=.d (.bool (eqB x y)))):FnD prog gl 46 [.d (.list 23 (a.map (fun x=>dGu (x)))),.d (.list 23 (b.map (fun x=>dGu (x))))] (fun v=>v=.d (.bool (eqB a b))):=by
 simp only[je9]at h ⊢
 (refine j3 func46 ntmps46 results46 fun w M=>?_)
 refine r7 0 rfl fun hna=>?_;refine r7 1 rfl fun hnb=>?_;simp only[Aa]at hna hnb
 (repeat' first|refine yyp ?_;try refine Cc ?_ ?_<;>intro hb|refine yy ?_|refine yy2 ?_ ?_<;>intro hcmp|refine at_nil ?_;refine Ce Rn ?_|refine Cb fun K hK=>?_|refine Ck 6 ?_;refine j1 [] kq8 ?_|apply_assumption -exfalso -symm)
 ·(refine j0 (j5 ?_))
  simp only[oneOf,Ax,An];exact(v7.2 fun e=>hcmp (by rw[e])).symm
 have hlen:a.length=b.length:=by omega
 refine j8 ra4 [] (fun k:Nat=>[(5,.d (.int .i64 k))]) (fun _=>[]) (fun k=>k<=a.length/\a.take k=b.take k) (fun k=>a.length - k) 0 ⟨Ak _,rfl⟩ fun k ⟨hk,hi⟩=>?_;dsimp only[Ac,Ad];rcases Ah k a.length with hk2|hk2
 ·have hk3:k<b.length:=by omega
  have hone:=h a[k] (Ar _) b[k]
  (repeat' first|refine yyp ?_;try refine Cc ?_ ?_<;>intro hb|refine yy ?_|refine Cf 81 ?_;refine Cg (hc:=hone) ?_;try refine Cc ?_ ?_<;>intro hb|refine at_nil ?_;refine Ce Rn ?_|refine Cb fun K hK=>?_|refine Ck 6 ?_;refine j1 [] kq8 ?_|apply_assumption -exfalso -symm)
  all_goals try simp only[Bv,ne_eq]at hcmp
  all_goals first
   |(refine⟨k+1,⟨by omega,x8 hk2 hk3 hi (by first|exact k7.1 hb|exact hcmp|exact hcmp)⟩,by omega,v6⟩)
   |((refine j0 (j5 ?_))
     simp only[oneOf,Ax,An];exact(v7.2 (y9 hk2 hk3 (by first|exact v7.1 hb|exact hcmp|exact hcmp))).symm)
 ·(repeat' first|refine yyp ?_;try refine Cc ?_ ?_<;>intro hb|refine yy ?_|refine at_nil ?_;refine Ce Rn ?_|refine Cb fun K hK=>?_|refine Ck 6 ?_;refine j1 [] kq8 ?_|apply_assumption -exfalso -symm)
  (refine j0 (j5 ?_))
  simp only[oneOf,Ax,An];exact(k7.2 (y5 hk2 (by omega) hi)).symm
theorem ke8 (gl:List (Nat × List D))(a b:List Pr)(h:∀ x∈a,∀ y:Pr,FnD prog gl 19 [.d (dPr (x)),.d (dPr (y))] (fun v=>v=.d (.bool (eqB x y)))):FnD prog gl 47 [.d (.list 42 (a.map (fun x=>dPr (x)))),.d (.list 42 (b.map (fun x=>dPr (x))))] (fun v=>v=.d (.bool (eqB a b))):=by
 simp only[v8]at h ⊢
 (refine j3 func47 ntmps47 results47 fun w M=>?_)
 refine r7 0 rfl fun hna=>?_;refine r7 1 rfl fun hnb=>?_;simp only[Aa]at hna hnb
 (repeat' first|refine yyp ?_;try refine Cc ?_ ?_<;>intro hb|refine yy ?_|refine yy2 ?_ ?_<;>intro hcmp|refine at_nil ?_;refine Ce Rn ?_|refine Cb fun K hK=>?_|refine Ck 6 ?_;refine j1 [] kq8 ?_|apply_assumption -exfalso -symm)
 ·(refine j0 (j5 ?_))
  simp only[oneOf,Ax,An];exact(v7.2 fun e=>hcmp (by rw[e])).symm
 have hlen:a.length=b.length:=by omega
 refine j8 ra4 [] (fun k:Nat=>[(5,.d (.int .i64 k))]) (fun _=>[]) (fun k=>k<=a.length/\a.take k=b.take k) (fun k=>a.length - k) 0 ⟨Ak _,rfl⟩ fun k ⟨hk,hi⟩=>?_;dsimp only[Ac,Ad];rcases Ah k a.length with hk2|hk2
 ·have hk3:k<b.length:=by omega
  have hone:=h a[k] (Ar _) b[k]
  (repeat' first|refine yyp ?_;try refine Cc ?_ ?_<;>intro hb|refine yy ?_|refine Cf 19 ?_;refine Cg (hc:=hone) ?_;try refine Cc ?_ ?_<;>intro hb|refine at_nil ?_;refine Ce Rn ?_|refine Cb fun K hK=>?_|refine Ck 6 ?_;refine j1 [] kq8 ?_|apply_assumption -exfalso -symm)
  all_goals try simp only[Bv,ne_eq]at hcmp
  all_goals first
   |(refine⟨k+1,⟨by omega,x8 hk2 hk3 hi (by first|exact k7.1 hb|exact hcmp|exact hcmp)⟩,by omega,v6⟩)
   |((refine j0 (j5 ?_))
     simp only[oneOf,Ax,An];exact(v7.2 (y9 hk2 hk3 (by first|exact v7.1 hb|exact hcmp|exact hcmp))).symm)
 ·(repeat' first|refine yyp ?_;try refine Cc ?_ ?_<;>intro hb|refine yy ?_|refine at_nil ?_;refine Ce Rn ?_|refine Cb fun K hK=>?_|refine Ck 6 ?_;refine j1 [] kq8 ?_|apply_assumption -exfalso -symm)
  (refine j0 (j5 ?_))
  simp only[oneOf,Ax,An];exact(k7.2 (y5 hk2 (by omega) hi)).symm
theorem jx8 (gl:List (Nat × List D))(a b:List ByteArray):FnD prog gl 14 [.d (.list 1 (a.map (fun x=>.str (x)))),.d (.list 1 (b.map (fun x=>.str (x))))] (fun v=>v=.d (.bool (eqB a b))):=by
 (refine j3 func14 ntmps14 results14 fun w M=>?_)
 refine r7 0 rfl fun hna=>?_;refine r7 1 rfl fun hnb=>?_;simp only[Aa]at hna hnb
 (repeat' first|refine yyp ?_;try refine Cc ?_ ?_<;>intro hb|refine yy ?_|refine yy2 ?_ ?_<;>intro hcmp|refine at_nil ?_;refine Ce Rq ?_|refine Cb fun K hK=>?_|refine Ck 6 ?_;refine j1 [] jk3 ?_|apply_assumption -exfalso -symm)
 ·(refine j0 (j5 ?_))
  simp only[oneOf,Ax,An];exact(v7.2 fun e=>hcmp (by rw[e])).symm
 have hlen:a.length=b.length:=by omega
 refine j8 ra5 [] (fun k:Nat=>[(5,.d (.int .i64 k))]) (fun _=>[]) (fun k=>k<=a.length/\a.take k=b.take k) (fun k=>a.length - k) 0 ⟨Ak _,rfl⟩ fun k ⟨hk,hi⟩=>?_;dsimp only[Ac,Ad];rcases Ah k a.length with hk2|hk2
 ·have hk3:k<b.length:=by omega
  (repeat' first|refine yyp ?_;try refine Cc ?_ ?_<;>intro hb|refine yy ?_|refine yy2 ?_ ?_<;>intro hcmp|refine at_nil ?_;refine Ce Rq ?_|refine Cb fun K hK=>?_|refine Ck 6 ?_;refine j1 [] jk3 ?_|apply_assumption -exfalso -symm)
  all_goals try simp only[Bv,ne_eq]at hcmp
  all_goals first
   |(refine⟨k+1,⟨by omega,x8 hk2 hk3 hi (by first|exact k7.1 hb|exact hcmp|exact hcmp)⟩,by omega,v6⟩)
   |((refine j0 (j5 ?_))
     simp only[oneOf,Ax,An];exact(v7.2 (y9 hk2 hk3 (by first|exact v7.1 hb|exact hcmp|exact hcmp))).symm)
 ·(repeat' first|refine yyp ?_;try refine Cc ?_ ?_<;>intro hb|refine yy ?_|refine at_nil ?_;refine Ce Rq ?_|refine Cb fun K hK=>?_|refine Ck 6 ?_;refine j1 [] jk3 ?_|apply_assumption -exfalso -symm)
  (refine j0 (j5 ?_))
  simp only[oneOf,Ax,An];exact(k7.2 (y5 hk2 (by omega) hi)).symm
end
section
def Vh:List Nat:=[0,2,3,4,6,7,8,9,14]
def my6:Plan:=lin [0,8,5,16,13,20,24]
def glS (mm:Int):List (Nat × List D):=[(5,[.int .i64 mm]),(0,[.int .i64 0,.int .i64 2048]),(1,[.int .i64 1,.int .i64 1]),(2,[.int .i64 1,.int .i64 8]),
 (4,[.int .u8 1,.str ⟨#[73,78,84]⟩,.int .i64 4,.int .u8 2,.str ⟨#[66,89,84,69]⟩,.int .i64 1,.int .u8 3,.str ⟨#[66,79,79,76]⟩,.int .i64 1]),
 (3,[1,10,100,1000,10000,100000,1000000,10000000,100000000,1000000000,10000000000,100000000000,1000000000000,10000000000000,100000000000000,1000000000000000,10000000000000000,100000000000000000,1000000000000000000,10000000000000000000].map fun z=>.int .u64 z)]
def Lx.Lf (k:Int):ByteArray × Int × Bool:=if k=1 then (⟨#[73,78,84]⟩,4,true) else if k=2 then (⟨#[66,89,84,69]⟩,1,true) else if k=3 then (⟨#[66,79,79,76]⟩,1,true) else (ByteArray.empty,0,false)
variable {mm:Int}
attribute [local irreducible] TR TC
theorem qn9 (k:Int):FnD prog (glS mm) 219 [.d (.int .u8 k)] (fun v=>v=.tup [.d (.str (Lx.Lf k).1),.d (.int .i64 (Lx.Lf k).2.1),.d (.bool (Lx.Lf k).2.2)]):=by
 unfold Lx.Lf
 (refine j3 func219 ntmps219 results219 fun w M=>?_)
 (repeat' first|refine yyp ?_;try refine Cc ?_ ?_<;>intro hb|refine yy ?_|refine at_nil ?_;refine Ce Vh ?_|refine Cb fun K hK=>?_|refine Ck 5 ?_;refine j1 [] my6 ?_|apply_assumption -exfalso -symm)
 refine j8 [2,3,4,6,8,9,10,11,12,13,14,15,16,17,18,19] [] (fun j:Nat=>[(8,.d (.int .i64 j))]) (fun _=>[]) (fun j=>j<=3/\(0<j->k≠1)/\(1<j->k≠2)/\(2<j->k≠3)) (fun j=>3 - j) 0 ⟨by omega,by omega,by omega,by omega⟩ fun j ⟨hj,h1,h2,h3⟩=>?_;dsimp only[Ac,Ad];rcases(by omega:j=0\/j=1\/j=2\/j=3) with rfl|rfl|rfl|rfl
 ·(repeat' first|refine Ca 10 ?_;(refine z_p (js6 (i:=0) rfl rfl rfl rfl rfl (by decide) (by(repeat (first|exact Cut.done _|apply Cut.take|apply Cut.skip));fail_if_success intros)) ?_)|refine Ca 6 ?_;(refine Cj 6 ?_)|refine yyp ?_;try refine Cc ?_ ?_<;>intro hb|refine yy ?_|refine yy2 ?_ ?_<;>intro hcmp|refine at_nil ?_;refine Ce Vh ?_|refine Cb fun K hK=>?_|refine Ck 5 ?_;refine j1 [] my6 ?_|apply_assumption -exfalso -symm)
  ·(refine j0 (j5 ?_))
   rw[Ae (by omega)];rfl
  ·refine⟨1,⟨by omega,by omega,by omega,by omega⟩,by omega,v6⟩
 ·(repeat' first|refine Ca 10 ?_;(refine z_p (js6 (i:=1) rfl rfl rfl rfl rfl (by decide) (by(repeat (first|exact Cut.done _|apply Cut.take|apply Cut.skip));fail_if_success intros)) ?_)|refine Ca 6 ?_;(refine Cj 6 ?_)|refine yyp ?_;try refine Cc ?_ ?_<;>intro hb|refine yy ?_|refine yy2 ?_ ?_<;>intro hcmp|refine at_nil ?_;refine Ce Vh ?_|refine Cb fun K hK=>?_|refine Ck 5 ?_;refine j1 [] my6 ?_|apply_assumption -exfalso -symm)
  ·(refine j0 (j5 ?_))
   rw[Af (by omega),Ae (by omega)];rfl
  ·refine⟨2,⟨by omega,by omega,by omega,by omega⟩,by omega,v6⟩
 ·(repeat' first|refine Ca 10 ?_;(refine z_p (js6 (i:=2) rfl rfl rfl rfl rfl (by decide) (by(repeat (first|exact Cut.done _|apply Cut.take|apply Cut.skip));fail_if_success intros)) ?_)|refine Ca 6 ?_;(refine Cj 6 ?_)|refine yyp ?_;try refine Cc ?_ ?_<;>intro hb|refine yy ?_|refine yy2 ?_ ?_<;>intro hcmp|refine at_nil ?_;refine Ce Vh ?_|refine Cb fun K hK=>?_|refine Ck 5 ?_;refine j1 [] my6 ?_|apply_assumption -exfalso -symm)
  ·(refine j0 (j5 ?_))
   rw[Af (by omega),Af (by omega),Ae (by omega)];rfl
  ·refine⟨3,⟨by omega,by omega,by omega,by omega⟩,by omega,v6⟩
 ·(repeat' first|refine yyp ?_;try refine Cc ?_ ?_<;>intro hb|refine yy ?_|refine at_nil ?_;refine Ce Vh ?_|refine Cb fun K hK=>?_|refine Ck 5 ?_;refine j1 [] my6 ?_|apply_assumption -exfalso -symm)
  (refine j0 (j5 ?_))
  rw[Af (by omega),Af (by omega),Af (by omega)];rfl
theorem ra6 (k:Int):FnD prog (glS mm) 205 [.d (.int .u8 k)] (fun v=>v=.d (.bool (Lx.prim k))):=by
 have hw:=qn9 (mm:=mm) k;have hp:(Lx.Lf k).2.2=Lx.prim k:=by
  unfold Lx.Lf Lx.prim;by_cases h1:k=1
  ·simp[h1]
  ·by_cases h2:k=2
   ·simp[h2]
   ·by_cases h3:k=3<;>simp[h1,h2,h3]
 rw[hp]at hw
 (refine j3 func205 ntmps205 results205 fun w M=>?_)
 (repeat' first|refine yyp ?_;try refine Cc ?_ ?_<;>intro hb|refine yy ?_|refine Cf 219 ?_;refine Cg (hc:=hw) ?_|refine at_nil ?_;refine Ce [0,2,3,4,5,6] ?_|refine Cb fun K hK=>?_|apply_assumption -exfalso -symm)
 all_goals
  (refine j0 (j5 ?_))
  simp only[oneOf, *]
theorem my7 (k:Int):FnD prog (glS mm) 221 [.d (.int .u8 k)] (fun v=>v=.d (.bool (!Lx.prim k))):=by
 (refine j3 func221 ntmps221 results221 fun w M=>?_)
 (repeat' first|refine yyp ?_;try refine Cc ?_ ?_<;>intro hb|refine yy ?_|refine Cf 205 ?_;refine Cg (hc:=(ra6 k)) ?_;try refine Cc ?_ ?_<;>intro hb|refine at_nil ?_;refine Ce [0,2,3,4,5] ?_|refine Cb fun K hK=>?_|apply_assumption -exfalso -symm)
 all_goals
  (refine j0 (j5 ?_))
  simp only[oneOf, *,Bool.not_true,Bool.not_false]
theorem mj6 (l:List Int)(least:Int):FnD prog (glS mm) 206 [.d (.list 1 (l.map (.int .u8))),.d (.int .i64 least)] (fun v=>v=.d (.bool (Lx.Ld l least))):=by
 have hcf:=ro1 (glS mm) (fun k=>!Lx.prim k) l fun k hk=>FnE.ofD (my7 (mm:=mm) l[k]) (by(repeat (first|exact Pures.nil|apply Pures.cons (Pure.d _)|apply Pures.cons (Pure.nils _)));fail_if_success intros);rw[jn6]at hcf
 (refine j3 func206 ntmps206 results206 fun w M=>?_)
 (repeat' first|refine Ca 16 ?_;refine Ch (hc:=hcf) ?_;try refine Cc ?_ ?_<;>intro hb|refine yyp ?_;try refine Cc ?_ ?_<;>intro hb|refine yy ?_|refine yy2 ?_ ?_<;>intro hcmp|refine at_nil ?_;refine Ce [0,1,4,5,6,7] ?_|refine Cb fun K hK=>?_|apply_assumption -exfalso -symm)
 all_goals
  (refine j0 (j5 ?_))
  simp only[oneOf,Ax,An,Lx.Ld]
  grind
theorem ky2 (tag:ByteArray)(items:List D)(v:Va):FnE prog (glS mm) 208 [.d (dVa v),.ptr 4 0] [(4,.box [.d (.str tag),.d (.list 1 items)])] (fun u H1=>u=.d (.bool (decide (v.tag=tag)))/\H1=[(4,.box [.d (.str tag),.d (.list 1 items)])]):=by
 (refine j4 func208 ntmps208 results208 fun w M E b0=>?_)
 (repeat' first|refine Ca 2 ?_;(refine j6 2 ?_)|refine yyp ?_;try refine Cc ?_ ?_<;>intro hb|refine yy ?_|refine yy2 ?_ ?_<;>intro hcmp|refine at_nil ?_;refine Ce [0,1,2,3,4,5,6] ?_|refine Cb fun K hK=>?_|apply_assumption -exfalso -symm)
 all_goals (refine j0 (j7 ⟨?_,rfl⟩))
 all_goals simp only[oneOf, *,decide_true,decide_false]
end
section
def Tq:List Nat:=[0,2,3,4,5,6]
def Sk:List Nat:=[0,1,4,5,6,7,9,17]
def qw5:List Nat:=[4,5,6,7,8,9,10,11,12,13,14,15,16,17]
def Ui:List Nat:=[0,2,3,4,5,6,21,25,32]
theorem jf0:ByteArray.empty=⟨#[]⟩:=rfl
attribute [local irreducible] TR TC
theorem ke9 (gl:List (Nat × List D))(c:UInt8):FnD prog gl 162 [.d (.int .u8 c.toNat)] (fun v=>v=.d (.bool (Lx.letter c))):=by
 (refine j3 func162 ntmps162 results162 fun w M=>?_)
 (repeat' first|refine yyp ?_;try refine Cc ?_ ?_<;>intro hb|refine yy ?_|refine yy2 ?_ ?_<;>intro hcmp|refine at_nil ?_;refine Ce Tq ?_|refine Cb fun K hK=>?_|apply_assumption -exfalso -symm)
 all_goals
  (refine j0 (j5 ?_))
  simp only[oneOf,Ax,An,Lx.letter]
  first|(symm;simp only[Bo,Al];omega)|(symm;simp only[Bool.or_eq_false_iff,decide_eq_false_iff_not];omega)
theorem mp8 (gl:List (Nat × List D))(c:UInt8):FnD prog gl 195 [.d (.int .u8 c.toNat)] (fun v=>v=.d (.bool (Lx.digit c))):=by
 (refine j3 func195 ntmps195 results195 fun w M=>?_)
 (repeat' first|refine yyp ?_;try refine Cc ?_ ?_<;>intro hb|refine yy ?_|refine yy2 ?_ ?_<;>intro hcmp|refine at_nil ?_;refine Ce Tq ?_|refine Cb fun K hK=>?_|apply_assumption -exfalso -symm)
 all_goals
  (refine j0 (j5 ?_))
  simp only[oneOf,Ax,An,Lx.digit]
  first|(symm;simp only[Al];omega)|(symm;simp only[decide_eq_false_iff_not];omega)
theorem my8 (gl:List (Nat × List D))(c:UInt8):FnD prog gl 164 [.d (.int .u8 c.toNat)] (fun v=>v=.d (.bool (Lx.Md c))):=by
 (refine j3 func164 ntmps164 results164 fun w M=>?_)
 (repeat' first|refine yyp ?_;try refine Cc ?_ ?_<;>intro hb|refine yy ?_|refine yy2 ?_ ?_<;>intro hcmp|refine Cf 162 ?_;refine Cg (hc:=(ke9 gl c)) ?_;try refine Cc ?_ ?_<;>intro hb|refine Cf 195 ?_;refine Cg (hc:=(mp8 gl c)) ?_;try refine Cc ?_ ?_<;>intro hb|refine at_nil ?_;refine Ce Tq ?_|refine Cb fun K hK=>?_|apply_assumption -exfalso -symm)
 all_goals
  (refine j0 (j5 ?_))
  simp only[oneOf,Ax,An,Lx.Md]
  (repeat (rename (∀ S:Sd,TC _ _ _ S->_)=>hX;clear hX))
  grind [Lx.prim]
theorem qo0 (gl:List (Nat × List D))(s:ByteArray)(l:List ByteArray):FnD prog gl 193 [.d (.str s),.d (.list 1 (l.map .str))] (fun v=>v=.d (.bool (l.any fun k=>decide (k=s)))):=by
 (refine j3 func193 ntmps193 results193 fun w M=>?_)
 refine r7 1 rfl fun hn=>?_;simp only[Aa]at hn
 (repeat' first|refine yyp ?_;try refine Cc ?_ ?_<;>intro hb|refine yy ?_|refine at_nil ?_;refine Ce Sk ?_|refine Cb fun K hK=>?_|apply_assumption -exfalso -symm)
 refine j8 qw5 [] (fun k:Nat=>[(5,.d (.int .i64 k))]) (fun _=>[]) (fun k=>k<=l.length/\(l.any fun k=>decide (k=s))=(l.drop k).any fun k=>decide (k=s)) (fun k=>l.length - k) 0 ⟨by omega,rfl⟩ fun k ⟨hk,hi⟩=>?_;dsimp only[Ac,Ad];rcases Ah k l.length with hk2|hk2
 ·rw[Bd hk2,List.any_cons]at hi
  (repeat' first|refine yyp ?_;try refine Cc ?_ ?_<;>intro hb|refine yy ?_|refine yy2 ?_ ?_<;>intro hcmp|refine at_nil ?_;refine Ce Sk ?_|refine Cb fun K hK=>?_|apply_assumption -exfalso -symm)
  ·(refine j0 (j5 ?_))
   rw[hi,Bt hcmp];rfl
  ·refine⟨k+1,⟨by omega,?_⟩,by omega,v6⟩;rw[hi,Bq hcmp];rfl
 ·(repeat' first|refine yyp ?_;try refine Cc ?_ ?_<;>intro hb|refine yy ?_|refine at_nil ?_;refine Ce Sk ?_|refine Cb fun K hK=>?_|apply_assumption -exfalso -symm)
  (refine j0 (j5 ?_))
  rw[hi,Br hk2];rfl
theorem ra7 (gl:List (Nat × List D)):FnD prog gl 194 [] (fun v=>v=.d (.list 1 (Lx.keys.map .str))):=by
 (refine j3 func194 ntmps194 results194 fun w M=>?_)
 (repeat' first|refine Ca 1 ?_;(refine Dh 1 ?_)|refine yyp ?_;try refine Cc ?_ ?_<;>intro hb|refine yy ?_|refine at_nil ?_;refine Ce [0,1] ?_|refine Cb fun K hK=>?_|apply_assumption -exfalso -symm)
 (refine j0 (j5 ?_))
 rfl
theorem qo1 (gl:List (Nat × List D))(s:ByteArray):FnD prog gl 163 [.d (.str s)] (fun v=>v=.d (.bool (Lx.isKey s))):=by
 (refine j3 func163 ntmps163 results163 fun w M=>?_)
 (repeat' first|refine yyp ?_;try refine Cc ?_ ?_<;>intro hb|refine yy ?_|refine Cf 194 ?_;refine Cg (hc:=(ra7 gl)) ?_|refine Cf 193 ?_;refine Cg (hc:=(qo0 gl s Lx.keys)) ?_;try refine Cc ?_ ?_<;>intro hb|refine at_nil ?_;refine Ce [0,2,3,4,5] ?_|refine Cb fun K hK=>?_|apply_assumption -exfalso -symm)
 all_goals
  (refine j0 (j5 ?_))
  simp only[oneOf,Ax,An,Lx.isKey, *]
theorem ky3 (s:ByteArray)(c:UInt8)(l:List UInt8)(h:s.data.toList=c::l):Lx.Dg s=(decide (l.length<32) && Lx.letter c && l.all Lx.Md && !Lx.isKey s):=by
 unfold Lx.Dg;rw[h]
theorem js8 (c:UInt8)(h:Lx.letter c=true):Lx.Md c=true:=by
 unfold Lx.Md;rw[h];rfl
theorem y3 (gl:List (Nat × List D))(s:ByteArray):FnD prog gl 130 [.d (.str s)] (fun v=>v=.d (.bool (Lx.Dg s))):=by
 have hsz:s.data.toList.length=s.size:=by simp
 cases hs:s.data.toList with
 |nil=>
  rw[hs]at hsz;have hsz0:s.size=0:=hsz.symm
  (refine j3 func130 ntmps130 results130 fun w M=>?_)
  (repeat' first|refine yyp ?_;try refine Cc ?_ ?_<;>intro hb|refine yy ?_|refine at_nil ?_;refine Ce Ui ?_|refine Cb fun K hK=>?_|apply_assumption -exfalso -symm)
  (refine j0 (j5 ?_))
  simp[oneOf,Lx.Dg,hs]
 |cons c l=>
  rw[hs]at hsz;simp only[Ai]at hsz;have hn:=ky3 s c l hs;have h0:s.data.toList[0]? =some c:=by rw[hs];rfl
  (refine j3 func130 ntmps130 results130 fun w M=>?_)
  (repeat' first|refine yyp ?_;try refine Cc ?_ ?_<;>intro hb|refine yy ?_|refine yy2 ?_ ?_<;>intro hcmp|refine Cf 162 ?_;refine Cg (hc:=(ke9 gl c)) ?_;try refine Cc ?_ ?_<;>intro hb|refine Cf 163 ?_;refine Cg (hc:=(qo1 gl s)) ?_;try refine Cc ?_ ?_<;>intro hb|refine at_nil ?_;refine Ce Ui ?_|refine Cb fun K hK=>?_|apply_assumption -exfalso -symm)
  case' refine_2.refine_1.refine_2=>
   refine j8 [2,3,22,23,24,25,26,27,28,29,30,31,32] [] (fun k:Nat=>[(3,.d (.int .i64 k))]) (fun _=>[]) (fun k=>k<=s.size/\(c::l).all Lx.Md=((c::l).drop k).all Lx.Md) (fun k=>s.size - k) 0 ⟨by omega,rfl⟩ fun k ⟨hk,hi⟩=>?_;dsimp only[Ac,Ad];rcases Ah k s.size with hk2|hk2
   ·have hk3:k<(c::l).length:=by simp only[Ai];omega
    have hat:s.data.toList[k]? =some ((c::l)[k]):=by rw[hs];exact Be hk3
    rw[Bd hk3]at hi;generalize (c::l)[k]=c' at hat hi
    (repeat' first|refine yyp ?_;try refine Cc ?_ ?_<;>intro hb|refine yy ?_|refine Cf 164 ?_;refine Cg (hc:=(my8 gl c')) ?_;try refine Cc ?_ ?_<;>intro hb|refine at_nil ?_;refine Ce Ui ?_|refine Cb fun K hK=>?_|apply_assumption -exfalso -symm)
    ·refine⟨k+1,⟨by omega,?_⟩,by omega,v6⟩;rw[hi,Ei,hb];rfl
    ·(refine j0 (j5 ?_))
     rw[Ei,Ei,js8 c (by assumption),Bc,hb,Av]at hi;rw[hn,hi];simp[oneOf]
   ·(repeat' first|refine yyp ?_;try refine Cc ?_ ?_<;>intro hb|refine yy ?_|refine at_nil ?_;refine Ce Ui ?_|refine Cb fun K hK=>?_|apply_assumption -exfalso -symm)
    (refine j0 (j5 ?_))
    rw[Br (by simp only[Ai];omega),Ei,js8 c (by assumption),Bc,List.all_nil]at hi;have hl32:l.length<32:=by omega
    rw[hn,hi];simp[oneOf, *]
  all_goals
   (refine j0 (j5 ?_))
   rw[hn]
   first
    |(have hl32:¬l.length<32:=by omega
      simp only[oneOf,hl32,decide_false,Av])
    |simp only[oneOf, *,Bool.not_true,Az,Av]
theorem ju9 (gl:List (Nat × List D))(k:Int):FnD prog gl 196 [.d (.int .u8 k)] (fun v=>v=.d (.bool (Lx.prim k))):=by
 (refine j3 func196 ntmps196 results196 fun w M=>?_)
 (repeat' first|refine yyp ?_;try refine Cc ?_ ?_<;>intro hb|refine yy ?_|refine yy2 ?_ ?_<;>intro hcmp|refine at_nil ?_;refine Ce Tq ?_|refine Cb fun K hK=>?_|apply_assumption -exfalso -symm)
 all_goals
  (refine j0 (j5 ?_))
  simp only[oneOf,Ax,An,Lx.prim, *,decide_true,decide_false,Eh,Ee,Ea,Ed]
  try rfl
theorem me4 (gl:List (Nat × List D))(k:Int):FnD prog gl 229 [.d (.int .u8 k)] (fun v=>v=.d (.bool (Lx.prim k))):=by
 (refine j3 func229 ntmps229 results229 fun w M=>?_)
 (repeat' first|refine yyp ?_;try refine Cc ?_ ?_<;>intro hb|refine yy ?_|refine yy2 ?_ ?_<;>intro hcmp|refine at_nil ?_;refine Ce Tq ?_|refine Cb fun K hK=>?_|apply_assumption -exfalso -symm)
 all_goals
  (refine j0 (j5 ?_))
  simp only[oneOf,Ax,An,Lx.prim, *,decide_true,decide_false,Eh,Ee,Ea,Ed]
  try rfl
theorem kn0 (gl:List (Nat × List D))(l:List Int)(least:Int):FnD prog gl 197 [.d (.list 1 (l.map (.int .u8))),.d (.int .i64 least)] (fun v=>v=.d (.bool (Lx.Ld l least))):=by
 (refine j3 func197 ntmps197 results197 fun w M=>?_)
 refine r7 0 rfl fun hn=>?_;simp only[Aa]at hn
 (repeat' first|refine yyp ?_;try refine Cc ?_ ?_<;>intro hb|refine yy ?_|refine at_nil ?_;refine Ce Sk ?_|refine Cb fun K hK=>?_|apply_assumption -exfalso -symm)
 refine j8 qw5 [] (fun k:Nat=>[(5,.d (.int .i64 k))]) (fun _=>[]) (fun k=>k<=l.length/\l.all Lx.prim=(l.drop k).all Lx.prim) (fun k=>l.length - k) 0 ⟨by omega,rfl⟩ fun k ⟨hk,hi⟩=>?_;dsimp only[Ac,Ad];rcases Ah k l.length with hk2|hk2
 ·rw[Bd hk2,Ei]at hi
  (repeat' first|refine yyp ?_;try refine Cc ?_ ?_<;>intro hb|refine yy ?_|refine Cf 196 ?_;refine Cg (hc:=(ju9 gl l[k])) ?_;try refine Cc ?_ ?_<;>intro hb|refine at_nil ?_;refine Ce Sk ?_|refine Cb fun K hK=>?_|apply_assumption -exfalso -symm)
  ·refine⟨k+1,⟨by omega,?_⟩,by omega,v6⟩;rw[hi,hb];rfl
  ·(refine j0 (j5 ?_))
   rw[hb,Av]at hi;simp only[oneOf,Lx.Ld,hi,Az]
 ·rw[Br hk2]at hi
  (repeat' first|refine yyp ?_;try refine Cc ?_ ?_<;>intro hb|refine yy ?_|refine yy2 ?_ ?_<;>intro hcmp|refine at_nil ?_;refine Ce Sk ?_|refine Cb fun K hK=>?_|apply_assumption -exfalso -symm)
  all_goals
   (refine j0 (j5 ?_))
   simp only[oneOf,Ax,An,Lx.Ld,hi,List.all_nil,Bn]
   (repeat (rename (∀ S:Sd,TC _ _ _ S->_)=>hX;clear hX))
   grind [Lx.prim]
theorem jx9 (gl:List (Nat × List D))(t:Ty):FnD prog gl 165 [.d (dTy t)] (fun v=>v=.d (.bool (Lx.Qp t))):=by
 (refine j3 func165 ntmps165 results165 fun w M=>?_)
 (repeat' first|refine Ca 1 ?_;(refine j6 1 ?_)|refine yyp ?_;try refine Cc ?_ ?_<;>intro hb|refine yy ?_|refine yy2 ?_ ?_<;>intro hcmp|refine Cf 196 ?_;refine Cg (hc:=(by first|exact ju9 gl t.kind|exact ju9 gl t.item)) ?_;try refine Cc ?_ ?_<;>intro hb|refine Cf 130 ?_;refine Cg (hc:=(y3 gl t.proto)) ?_;try refine Cc ?_ ?_<;>intro hb|refine at_nil ?_;refine Ce [0,1,2,3,4,5,6,10,13,24] ?_|refine Cb fun K hK=>?_|apply_assumption -exfalso -symm)
 all_goals
  (refine j0 (j5 ?_))
  simp only[oneOf,Ax,An,Lx.Qp]
  (repeat (rename (∀ S:Sd,TC _ _ _ S->_)=>hX;clear hX))
  simp only[jf0]at *
  grind [Lx.prim]
end
end Go.Proofs.YtdopmfifmgkmoaaGreatDoor
