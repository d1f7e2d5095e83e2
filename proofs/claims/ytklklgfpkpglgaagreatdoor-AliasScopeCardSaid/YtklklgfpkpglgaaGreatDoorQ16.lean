/- Parts. -/
import Derived.Test.YtklklgfpkpglgaaGreatDoorQ15
set_option linter.all false
set_option maxRecDepth 100000
set_option maxHeartbeats 0
namespace Go.Proofs.YtklklgfpkpglgaaGreatDoor
open Go.RowKit Go.Proofs.Tryz Lx
variable (gl:List (Nat × List D))
section
def Pq:List Nat:=[0,1,4,5,6,7,10,12,13,14,24]
def rb7:List Nat:=[4,5,13,14,15,16,17,18,19,20,21,22,23,24,25]
def Pv:List Nat:=[0,1,2,6,7,8,9,14,15,16,17,18,30]
def rb8:List Nat:=[6,7,8,9,17,18,19,20,21,22,23,24,25,26,27,28,29,30,31]
def Ro:List Nat:=[0,1,4,5,6,7,10,14,26]
def rt7:List Nat:=[4,5,11,12,13,14,15,16,17,18,19,20,21,22,23,24,25,26]
def Rq:List Nat:=[0,1,4,5,6,7,10,14,25]
def rt8:List Nat:=[4,5,11,12,13,14,15,16,17,18,19,20,21,22,23,24,25]
def jl4:Plan:=lin [0,4,8,16,20,24,13,29,32]
def kv9:Plan:=lin [0,4,8,16,20,24,13,29,34,36]
theorem x6 {α:Type}{a b:List α}{k:Nat}(ha:k<a.length)(hb:k<b.length)(h:a.take k=b.take k)(e:a[k]=b[k]):a.take (k+1)=b.take (k+1):=by
 rw[An ha,An hb,h,e]
theorem y7 {α:Type}{a b:List α}{k:Nat}(ha:k<a.length)(hb:k<b.length)(e:a[k]≠b[k]):a≠b:=λh=>by
 subst h;exact e rfl
theorem x8 {α:Type}{a b:List α}{k:Nat}(ha:a.length<=k)(hb:b.length<=k)(h:a.take k=b.take k):a=b:=by
 rwa [Ba ha,Ba hb]at h
theorem vf8 {a b:Ex}:a=b↔a.kind=b.kind/\a.op=b.op/\a.ty=b.ty/\a.n=b.n/\a.s=b.s/\a.l=b.l:=by
 cases a;cases b;simp only[Ex.mk.injEq,Ex.kind,Ex.op,Ex.ty,Ex.n,Ex.s,Ex.l];constructor
 ·rintro⟨h1,h2,h3,h4,h5,h6⟩;exact⟨h1,by rw[h2],h3,h4,h5,h6⟩
 ·rintro⟨h1,h2,h3,h4,h5,h6⟩;exact⟨h1,UInt8.toNat_inj.1 (by omega),h3,h4,h5,h6⟩
theorem qh3 {a b:Fo}:a=b↔a.val=b.val/\a.type.kind=b.type.kind/\a.type.dim=b.type.dim/\a.type.item=b.type.item/\a.type.aN=b.type.aN/\a.name=b.name/\True:=by
 obtain⟨v,⟨k,d,i,p⟩,n⟩:=a;obtain⟨v',⟨k',d',i',p'⟩,n'⟩:=b;simp only[Fo.mk.injEq,Ty.mk.injEq,and_true];constructor
 ·rintro⟨h1,⟨h2,h3,h4,h5⟩,h6⟩;exact⟨h1,h2,h3,h4,h5,h6⟩
 ·rintro⟨h1,h2,h3,h4,h5,h6⟩;exact⟨h1,⟨h2,h3,h4,h5⟩,h6⟩
theorem vf9 {a b:Va}:a=b↔a.tag=b.tag/\a.items=b.items:=by
 cases a;cases b;simp
attribute [local irreducible] TR TC
theorem qh4 (a b:List Int):FnD prog gl 210 [.d (.list 1 (a.map (λx=>.int .i64 (x)))),.d (.list 1 (b.map (λx=>.int .i64 (x))))] (λv=>v=.d (.bool (eqB a b))):=by
 (refine j4 func210 ntmps210 results210 λw M=>?_)
 refine k7 0 rfl λhna=>?_;refine k7 1 rfl λhnb=>?_;simp only[Ab]at hna hnb
 (repeat' first|refine yyp ?_;try refine Ce ?_ ?_<;>intro hb|refine yy ?_|refine yy2 ?_ ?_<;>intro hcmp|apply ah;refine Cc Pq ?_|refine Cb λK hK=>?_|apply Cg 6;refine j0 [] jl4 ?_|apply_assumption -exfalso -symm)
 ·(refine j1 (j7 ?_))
  simp only[aF,At,Am];exact(r9.2 λe=>hcmp (by rw[e])).symm
 have hlen:a.length=b.length:=by omega
 refine k9 rb7 [] (λk:Nat=>[(13,.d (.int .i64 k))]) (λ_=>[]) (λk=>k<=a.length/\a.take k=b.take k) (λk=>a.length - k) 0 ⟨Ak _,rfl⟩ λk ⟨hk,hi⟩=>?_;dsimp only[Ac,Ae];rcases Ai k a.length with hk2|hk2
 ·have hk3:k<b.length:=by omega
  (repeat' first|refine yyp ?_;try refine Ce ?_ ?_<;>intro hb|refine yy ?_|refine yy2 ?_ ?_<;>intro hcmp|apply ah;refine Cc Pq ?_|refine Cb λK hK=>?_|apply Cg 6;refine j0 [] jl4 ?_|apply_assumption -exfalso -symm)
  all_goals try simp only[Eb,ne_eq]at hcmp
  all_goals first
   |(refine⟨k+1,⟨by omega,x6 hk2 hk3 hi (by first|exact j9.1 hb|exact hcmp|exact hcmp)⟩,by omega,v6⟩)
   |((refine j1 (j7 ?_))
     simp only[aF,At,Am];exact(r9.2 (y7 hk2 hk3 (by first|exact r9.1 hb|exact hcmp|exact hcmp))).symm)
 ·(repeat' first|refine yyp ?_;try refine Ce ?_ ?_<;>intro hb|refine yy ?_|apply ah;refine Cc Pq ?_|refine Cb λK hK=>?_|apply Cg 6;refine j0 [] jl4 ?_|apply_assumption -exfalso -symm)
  (refine j1 (j7 ?_))
  simp only[aF,At,Am];exact(j9.2 (x8 hk2 (by omega) hi)).symm
theorem rb9 (a b:List Int):FnD prog gl 205 [.d (.list 1 (a.map (λx=>.int .u8 (x)))),.d (.list 1 (b.map (λx=>.int .u8 (x))))] (λv=>v=.d (.bool (eqB a b))):=by
 (refine j4 func205 ntmps205 results205 λw M=>?_)
 refine k7 0 rfl λhna=>?_;refine k7 1 rfl λhnb=>?_;simp only[Ab]at hna hnb
 (repeat' first|refine yyp ?_;try refine Ce ?_ ?_<;>intro hb|refine yy ?_|refine yy2 ?_ ?_<;>intro hcmp|apply ah;refine Cc Pq ?_|refine Cb λK hK=>?_|apply Cg 6;refine j0 [] jl4 ?_|apply_assumption -exfalso -symm)
 ·(refine j1 (j7 ?_))
  simp only[aF,At,Am];exact(r9.2 λe=>hcmp (by rw[e])).symm
 have hlen:a.length=b.length:=by omega
 refine k9 rb7 [] (λk:Nat=>[(13,.d (.int .i64 k))]) (λ_=>[]) (λk=>k<=a.length/\a.take k=b.take k) (λk=>a.length - k) 0 ⟨Ak _,rfl⟩ λk ⟨hk,hi⟩=>?_;dsimp only[Ac,Ae];rcases Ai k a.length with hk2|hk2
 ·have hk3:k<b.length:=by omega
  (repeat' first|refine yyp ?_;try refine Ce ?_ ?_<;>intro hb|refine yy ?_|refine yy2 ?_ ?_<;>intro hcmp|apply ah;refine Cc Pq ?_|refine Cb λK hK=>?_|apply Cg 6;refine j0 [] jl4 ?_|apply_assumption -exfalso -symm)
  all_goals try simp only[Eb,ne_eq]at hcmp
  all_goals first
   |(refine⟨k+1,⟨by omega,x6 hk2 hk3 hi (by first|exact j9.1 hb|exact hcmp|exact hcmp)⟩,by omega,v6⟩)
   |((refine j1 (j7 ?_))
     simp only[aF,At,Am];exact(r9.2 (y7 hk2 hk3 (by first|exact r9.1 hb|exact hcmp|exact hcmp))).symm)
 ·(repeat' first|refine yyp ?_;try refine Ce ?_ ?_<;>intro hb|refine yy ?_|apply ah;refine Cc Pq ?_|refine Cb λK hK=>?_|apply Cg 6;refine j0 [] jl4 ?_|apply_assumption -exfalso -symm)
  (refine j1 (j7 ?_))
  simp only[aF,At,Am];exact(j9.2 (x8 hk2 (by omega) hi)).symm
theorem qh5 (a b:List ByteArray):FnD prog gl 206 [.d (.list 1 (a.map (λx=>.str (x)))),.d (.list 1 (b.map (λx=>.str (x))))] (λv=>v=.d (.bool (eqB a b))):=by
 (refine j4 func206 ntmps206 results206 λw M=>?_)
 refine k7 0 rfl λhna=>?_;refine k7 1 rfl λhnb=>?_;simp only[Ab]at hna hnb
 (repeat' first|refine yyp ?_;try refine Ce ?_ ?_<;>intro hb|refine yy ?_|refine yy2 ?_ ?_<;>intro hcmp|apply ah;refine Cc Pq ?_|refine Cb λK hK=>?_|apply Cg 6;refine j0 [] jl4 ?_|apply_assumption -exfalso -symm)
 ·(refine j1 (j7 ?_))
  simp only[aF,At,Am];exact(r9.2 λe=>hcmp (by rw[e])).symm
 have hlen:a.length=b.length:=by omega
 refine k9 rb7 [] (λk:Nat=>[(13,.d (.int .i64 k))]) (λ_=>[]) (λk=>k<=a.length/\a.take k=b.take k) (λk=>a.length - k) 0 ⟨Ak _,rfl⟩ λk ⟨hk,hi⟩=>?_;dsimp only[Ac,Ae];rcases Ai k a.length with hk2|hk2
 ·have hk3:k<b.length:=by omega
  (repeat' first|refine yyp ?_;try refine Ce ?_ ?_<;>intro hb|refine yy ?_|refine yy2 ?_ ?_<;>intro hcmp|apply ah;refine Cc Pq ?_|refine Cb λK hK=>?_|apply Cg 6;refine j0 [] jl4 ?_|apply_assumption -exfalso -symm)
  all_goals try simp only[Eb,ne_eq]at hcmp
  all_goals first
   |(refine⟨k+1,⟨by omega,x6 hk2 hk3 hi (by first|exact j9.1 hb|exact hcmp|exact hcmp)⟩,by omega,v6⟩)
   |((refine j1 (j7 ?_))
     simp only[aF,At,Am];exact(r9.2 (y7 hk2 hk3 (by first|exact r9.1 hb|exact hcmp|exact hcmp))).symm)
 ·(repeat' first|refine yyp ?_;try refine Ce ?_ ?_<;>intro hb|refine yy ?_|apply ah;refine Cc Pq ?_|refine Cb λK hK=>?_|apply Cg 6;refine j0 [] jl4 ?_|apply_assumption -exfalso -symm)
  (refine j1 (j7 ?_))
  simp only[aF,At,Am];exact(j9.2 (x8 hk2 (by omega) hi)).symm
theorem rc0 (a b:List Fo):FnD prog gl 208 [.d (.list 6 (a.map (λx=>dFo (x)))),.d (.list 6 (b.map (λx=>dFo (x))))] (λv=>v=.d (.bool (eqB a b))):=by
 (refine j4 func208 ntmps208 results208 λw M=>?_)
 refine k7 0 rfl λhna=>?_;refine k7 1 rfl λhnb=>?_;simp only[Ab]at hna hnb
 (repeat' first|refine yyp ?_;try refine Ce ?_ ?_<;>intro hb|refine yy ?_|refine yy2 ?_ ?_<;>intro hcmp|apply ah;refine Cc Pq ?_|refine Cb λK hK=>?_|apply Cg 6;refine j0 [] jl4 ?_|apply_assumption -exfalso -symm)
 ·(refine j1 (j7 ?_))
  simp only[aF,At,Am];exact(r9.2 λe=>hcmp (by rw[e])).symm
 have hlen:a.length=b.length:=by omega
 refine k9 rb7 [] (λk:Nat=>[(13,.d (.int .i64 k))]) (λ_=>[]) (λk=>k<=a.length/\a.take k=b.take k) (λk=>a.length - k) 0 ⟨Ak _,rfl⟩ λk ⟨hk,hi⟩=>?_;dsimp only[Ac,Ae];rcases Ai k a.length with hk2|hk2
 ·have hk3:k<b.length:=by omega
  (repeat' first|refine yyp ?_;try refine Ce ?_ ?_<;>intro hb|refine yy ?_|refine yy2 ?_ ?_<;>intro hcmp|apply ah;refine Cc Pq ?_|refine Cb λK hK=>?_|apply Cg 6;refine j0 [] jl4 ?_|apply_assumption -exfalso -symm)
  all_goals try simp only[Eb,ne_eq]at hcmp
  all_goals first
   |(refine⟨k+1,⟨by omega,x6 hk2 hk3 hi (by first|exact j9.1 hb|exact hcmp|exact qh3.2 hcmp|exact λe=>hcmp (qh3.1 e))⟩,by omega,v6⟩)
   |((refine j1 (j7 ?_))
     simp only[aF,At,Am];exact(r9.2 (y7 hk2 hk3 (by first|exact r9.1 hb|exact hcmp|exact qh3.2 hcmp|exact λe=>hcmp (qh3.1 e)))).symm)
 ·(repeat' first|refine yyp ?_;try refine Ce ?_ ?_<;>intro hb|refine yy ?_|apply ah;refine Cc Pq ?_|refine Cb λK hK=>?_|apply Cg 6;refine j0 [] jl4 ?_|apply_assumption -exfalso -symm)
  (refine j1 (j7 ?_))
  simp only[aF,At,Am];exact(j9.2 (x8 hk2 (by omega) hi)).symm
theorem qh6 (a b:List Ex)(h:∀ x∈a,∀ y:Ex,FnD prog gl 165 [.d (dEx (x)),.d (dEx (y))] (λv=>v=.d (.bool (eqB x y)))):FnD prog gl 224 [.d (.list 6 (a.map (λx=>dEx (x)))),.d (.list 6 (b.map (λx=>dEx (x)))),.clo (.func 165) [] []] (λv=>v=.d (.bool (eqB a b))):=by
 simp only[r8]at h ⊢
 (refine j4 func224 ntmps224 results224 λw M=>?_)
 refine k7 0 rfl λhna=>?_;refine k7 1 rfl λhnb=>?_;simp only[Ab]at hna hnb
 (repeat' first|refine yyp ?_;try refine Ce ?_ ?_<;>intro hb|refine yy ?_|refine yy2 ?_ ?_<;>intro hcmp|apply ah;refine Cc Pv ?_|refine Cb λK hK=>?_|apply_assumption -exfalso -symm)
 ·(refine j1 (j7 ?_))
  simp only[aF,At,Am];exact(r9.2 λe=>hcmp (by rw[e])).symm
 have hlen:a.length=b.length:=by omega
 refine k9 rb8 [] (λk:Nat=>[(17,.d (.int .i64 k))]) (λ_=>[]) (λk=>k<=a.length/\a.take k=b.take k) (λk=>a.length - k) 0 ⟨Ak _,rfl⟩ λk ⟨hk,hi⟩=>?_;dsimp only[Ac,Ae];rcases Ai k a.length with hk2|hk2
 ·have hk3:k<b.length:=by omega
  have hone:=FnE.ofD (h a[k] (Ao _) b[k]) (by(repeat (first|exact aM.nil|apply aM.cons (Pure.d _)|apply aM.cons (Pure.nils _)));fail_if_success intros)
  (repeat' first|apply Ca 8;(refine j2 8 ?_)|apply Ca 9;(refine j2 9 ?_)|apply Ca 29;refine Ch (hc:=hone) ?_;try refine Ce ?_ ?_<;>intro hb|refine yyp ?_;try refine Ce ?_ ?_<;>intro hb|refine yy ?_|apply ah;refine Cc Pv ?_|refine Cb λK hK=>?_|apply_assumption -exfalso -symm)
  all_goals try simp only[Eb,ne_eq]at hcmp
  all_goals first
   |(refine⟨k+1,⟨by omega,x6 hk2 hk3 hi (by first|exact j9.1 hb|exact hcmp|exact hcmp)⟩,by omega,v6⟩)
   |((refine j1 (j7 ?_))
     simp only[aF,At,Am];exact(r9.2 (y7 hk2 hk3 (by first|exact r9.1 hb|exact hcmp|exact hcmp))).symm)
 ·(repeat' first|refine yyp ?_;try refine Ce ?_ ?_<;>intro hb|refine yy ?_|apply ah;refine Cc Pv ?_|refine Cb λK hK=>?_|apply_assumption -exfalso -symm)
  (refine j1 (j7 ?_))
  simp only[aF,At,Am];exact(j9.2 (x8 hk2 (by omega) hi)).symm
theorem qh7 (a b:List Va)(h:∀ x∈a,∀ y:Va,FnD prog gl 204 [.d (dVa (x)),.d (dVa (y))] (λv=>v=.d (.bool (eqB x y)))):FnD prog gl 207 [.d (.list 2 (a.map (λx=>dVa (x)))),.d (.list 2 (b.map (λx=>dVa (x)))),.clo (.func 204) [] []] (λv=>v=.d (.bool (eqB a b))):=by
 (refine j4 func207 ntmps207 results207 λw M=>?_)
 refine k7 0 rfl λhna=>?_;refine k7 1 rfl λhnb=>?_;simp only[Ab]at hna hnb
 (repeat' first|refine yyp ?_;try refine Ce ?_ ?_<;>intro hb|refine yy ?_|refine yy2 ?_ ?_<;>intro hcmp|apply ah;refine Cc Pv ?_|refine Cb λK hK=>?_|apply_assumption -exfalso -symm)
 ·(refine j1 (j7 ?_))
  simp only[aF,At,Am];exact(r9.2 λe=>hcmp (by rw[e])).symm
 have hlen:a.length=b.length:=by omega
 refine k9 rb8 [] (λk:Nat=>[(17,.d (.int .i64 k))]) (λ_=>[]) (λk=>k<=a.length/\a.take k=b.take k) (λk=>a.length - k) 0 ⟨Ak _,rfl⟩ λk ⟨hk,hi⟩=>?_;dsimp only[Ac,Ae];rcases Ai k a.length with hk2|hk2
 ·have hk3:k<b.length:=by omega
  have hone:=FnE.ofD (h a[k] (Ao _) b[k]) (by(repeat (first|exact aM.nil|apply aM.cons (Pure.d _)|apply aM.cons (Pure.nils _)));fail_if_success intros)
  (repeat' first|apply Ca 8;(refine j2 8 ?_)|apply Ca 9;(refine j2 9 ?_)|apply Ca 29;refine Ch (hc:=hone) ?_;try refine Ce ?_ ?_<;>intro hb|refine yyp ?_;try refine Ce ?_ ?_<;>intro hb|refine yy ?_|apply ah;refine Cc Pv ?_|refine Cb λK hK=>?_|apply_assumption -exfalso -symm)
  all_goals try simp only[Eb,ne_eq]at hcmp
  all_goals first
   |(refine⟨k+1,⟨by omega,x6 hk2 hk3 hi (by first|exact j9.1 hb|exact hcmp|exact hcmp)⟩,by omega,v6⟩)
   |((refine j1 (j7 ?_))
     simp only[aF,At,Am];exact(r9.2 (y7 hk2 hk3 (by first|exact r9.1 hb|exact hcmp|exact hcmp))).symm)
 ·(repeat' first|refine yyp ?_;try refine Ce ?_ ?_<;>intro hb|refine yy ?_|apply ah;refine Cc Pv ?_|refine Cb λK hK=>?_|apply_assumption -exfalso -symm)
  (refine j1 (j7 ?_))
  simp only[aF,At,Am];exact(j9.2 (x8 hk2 (by omega) hi)).symm
theorem qh8 (a b:List Gu)(h:∀ x∈a,∀ y:Gu,FnD prog gl 212 [.d (dGu (x)),.d (dGu (y))] (λv=>v=.d (.bool (eqB x y)))):FnD prog gl 211 [.d (.list 23 (a.map (λx=>dGu (x)))),.d (.list 23 (b.map (λx=>dGu (x)))),.clo (.func 212) [] []] (λv=>v=.d (.bool (eqB a b))):=by
 simp only[jb7]at h ⊢
 (refine j4 func211 ntmps211 results211 λw M=>?_)
 refine k7 0 rfl λhna=>?_;refine k7 1 rfl λhnb=>?_;simp only[Ab]at hna hnb
 (repeat' first|refine yyp ?_;try refine Ce ?_ ?_<;>intro hb|refine yy ?_|refine yy2 ?_ ?_<;>intro hcmp|apply ah;refine Cc Pv ?_|refine Cb λK hK=>?_|apply_assumption -exfalso -symm)
 ·(refine j1 (j7 ?_))
  simp only[aF,At,Am];exact(r9.2 λe=>hcmp (by rw[e])).symm
 have hlen:a.length=b.length:=by omega
 refine k9 rb8 [] (λk:Nat=>[(17,.d (.int .i64 k))]) (λ_=>[]) (λk=>k<=a.length/\a.take k=b.take k) (λk=>a.length - k) 0 ⟨Ak _,rfl⟩ λk ⟨hk,hi⟩=>?_;dsimp only[Ac,Ae];rcases Ai k a.length with hk2|hk2
 ·have hk3:k<b.length:=by omega
  have hone:=FnE.ofD (h a[k] (Ao _) b[k]) (by(repeat (first|exact aM.nil|apply aM.cons (Pure.d _)|apply aM.cons (Pure.nils _)));fail_if_success intros)
  (repeat' first|apply Ca 8;(refine j2 8 ?_)|apply Ca 9;(refine j2 9 ?_)|apply Ca 29;refine Ch (hc:=hone) ?_;try refine Ce ?_ ?_<;>intro hb|refine yyp ?_;try refine Ce ?_ ?_<;>intro hb|refine yy ?_|apply ah;refine Cc Pv ?_|refine Cb λK hK=>?_|apply_assumption -exfalso -symm)
  all_goals try simp only[Eb,ne_eq]at hcmp
  all_goals first
   |(refine⟨k+1,⟨by omega,x6 hk2 hk3 hi (by first|exact j9.1 hb|exact hcmp|exact hcmp)⟩,by omega,v6⟩)
   |((refine j1 (j7 ?_))
     simp only[aF,At,Am];exact(r9.2 (y7 hk2 hk3 (by first|exact r9.1 hb|exact hcmp|exact hcmp))).symm)
 ·(repeat' first|refine yyp ?_;try refine Ce ?_ ?_<;>intro hb|refine yy ?_|apply ah;refine Cc Pv ?_|refine Cb λK hK=>?_|apply_assumption -exfalso -symm)
  (refine j1 (j7 ?_))
  simp only[aF,At,Am];exact(j9.2 (x8 hk2 (by omega) hi)).symm
theorem kh8 (a b:List Pr)(h:∀ x∈a,∀ y:Pr,FnD prog gl 180 [.d (dPr (x)),.d (dPr (y))] (λv=>v=.d (.bool (eqB x y)))):FnD prog gl 179 [.d (.list 42 (a.map (λx=>dPr (x)))),.d (.list 42 (b.map (λx=>dPr (x)))),.clo (.func 180) [] []] (λv=>v=.d (.bool (eqB a b))):=by
 simp only[v7]at h ⊢
 (refine j4 func179 ntmps179 results179 λw M=>?_)
 refine k7 0 rfl λhna=>?_;refine k7 1 rfl λhnb=>?_;simp only[Ab]at hna hnb
 (repeat' first|refine yyp ?_;try refine Ce ?_ ?_<;>intro hb|refine yy ?_|refine yy2 ?_ ?_<;>intro hcmp|apply ah;refine Cc Pv ?_|refine Cb λK hK=>?_|apply_assumption -exfalso -symm)
 ·(refine j1 (j7 ?_))
  simp only[aF,At,Am];exact(r9.2 λe=>hcmp (by rw[e])).symm
 have hlen:a.length=b.length:=by omega
 refine k9 rb8 [] (λk:Nat=>[(17,.d (.int .i64 k))]) (λ_=>[]) (λk=>k<=a.length/\a.take k=b.take k) (λk=>a.length - k) 0 ⟨Ak _,rfl⟩ λk ⟨hk,hi⟩=>?_;dsimp only[Ac,Ae];rcases Ai k a.length with hk2|hk2
 ·have hk3:k<b.length:=by omega
  have hone:=FnE.ofD (h a[k] (Ao _) b[k]) (by(repeat (first|exact aM.nil|apply aM.cons (Pure.d _)|apply aM.cons (Pure.nils _)));fail_if_success intros)
  (repeat' first|apply Ca 8;(refine j2 8 ?_)|apply Ca 9;(refine j2 9 ?_)|apply Ca 29;refine Ch (hc:=hone) ?_;try refine Ce ?_ ?_<;>intro hb|refine yyp ?_;try refine Ce ?_ ?_<;>intro hb|refine yy ?_|apply ah;refine Cc Pv ?_|refine Cb λK hK=>?_|apply_assumption -exfalso -symm)
  all_goals try simp only[Eb,ne_eq]at hcmp
  all_goals first
   |(refine⟨k+1,⟨by omega,x6 hk2 hk3 hi (by first|exact j9.1 hb|exact hcmp|exact hcmp)⟩,by omega,v6⟩)
   |((refine j1 (j7 ?_))
     simp only[aF,At,Am];exact(r9.2 (y7 hk2 hk3 (by first|exact r9.1 hb|exact hcmp|exact hcmp))).symm)
 ·(repeat' first|refine yyp ?_;try refine Ce ?_ ?_<;>intro hb|refine yy ?_|apply ah;refine Cc Pv ?_|refine Cb λK hK=>?_|apply_assumption -exfalso -symm)
  (refine j1 (j7 ?_))
  simp only[aF,At,Am];exact(j9.2 (x8 hk2 (by omega) hi)).symm
theorem jm8 (a b:List Ex)(h:∀ x∈a,∀ y:Ex,FnD prog gl 154 [.d (dEx (x)),.d (dEx (y))] (λv=>v=.d (.bool (eqB x y)))):FnD prog gl 155 [.d (.list 6 (a.map (λx=>dEx (x)))),.d (.list 6 (b.map (λx=>dEx (x))))] (λv=>v=.d (.bool (eqB a b))):=by
 simp only[r8]at h ⊢
 (refine j4 func155 ntmps155 results155 λw M=>?_)
 refine k7 0 rfl λhna=>?_;refine k7 1 rfl λhnb=>?_;simp only[Ab]at hna hnb
 (repeat' first|refine yyp ?_;try refine Ce ?_ ?_<;>intro hb|refine yy ?_|refine yy2 ?_ ?_<;>intro hcmp|apply ah;refine Cc Ro ?_|refine Cb λK hK=>?_|apply Cg 6;refine j0 [] kv9 ?_|apply_assumption -exfalso -symm)
 ·(refine j1 (j7 ?_))
  simp only[aF,At,Am];exact(r9.2 λe=>hcmp (by rw[e])).symm
 have hlen:a.length=b.length:=by omega
 refine k9 rt7 [] (λk:Nat=>[(5,.d (.int .i64 k))]) (λ_=>[]) (λk=>k<=a.length/\a.take k=b.take k) (λk=>a.length - k) 0 ⟨Ak _,rfl⟩ λk ⟨hk,hi⟩=>?_;dsimp only[Ac,Ae];rcases Ai k a.length with hk2|hk2
 ·have hk3:k<b.length:=by omega
  have hone:=h a[k] (Ao _) b[k]
  (repeat' first|refine yyp ?_;try refine Ce ?_ ?_<;>intro hb|refine yy ?_|apply Cf 154;refine Ci (hc:=hone) ?_;try refine Ce ?_ ?_<;>intro hb|apply ah;refine Cc Ro ?_|refine Cb λK hK=>?_|apply Cg 6;refine j0 [] kv9 ?_|apply_assumption -exfalso -symm)
  all_goals try simp only[Eb,ne_eq]at hcmp
  all_goals first
   |(refine⟨k+1,⟨by omega,x6 hk2 hk3 hi (by first|exact j9.1 hb|exact hcmp|exact hcmp)⟩,by omega,v6⟩)
   |((refine j1 (j7 ?_))
     simp only[aF,At,Am];exact(r9.2 (y7 hk2 hk3 (by first|exact r9.1 hb|exact hcmp|exact hcmp))).symm)
 ·(repeat' first|refine yyp ?_;try refine Ce ?_ ?_<;>intro hb|refine yy ?_|apply ah;refine Cc Ro ?_|refine Cb λK hK=>?_|apply Cg 6;refine j0 [] kv9 ?_|apply_assumption -exfalso -symm)
  (refine j1 (j7 ?_))
  simp only[aF,At,Am];exact(j9.2 (x8 hk2 (by omega) hi)).symm
theorem mm5 (a b:List ByteArray):FnD prog gl 189 [.d (.list 1 (a.map (λx=>.str (x)))),.d (.list 1 (b.map (λx=>.str (x))))] (λv=>v=.d (.bool (eqB a b))):=by
 (refine j4 func189 ntmps189 results189 λw M=>?_)
 refine k7 0 rfl λhna=>?_;refine k7 1 rfl λhnb=>?_;simp only[Ab]at hna hnb
 (repeat' first|refine yyp ?_;try refine Ce ?_ ?_<;>intro hb|refine yy ?_|refine yy2 ?_ ?_<;>intro hcmp|apply ah;refine Cc Rq ?_|refine Cb λK hK=>?_|apply Cg 6;refine j0 [] jl4 ?_|apply_assumption -exfalso -symm)
 ·(refine j1 (j7 ?_))
  simp only[aF,At,Am];exact(r9.2 λe=>hcmp (by rw[e])).symm
 have hlen:a.length=b.length:=by omega
 refine k9 rt8 [] (λk:Nat=>[(5,.d (.int .i64 k))]) (λ_=>[]) (λk=>k<=a.length/\a.take k=b.take k) (λk=>a.length - k) 0 ⟨Ak _,rfl⟩ λk ⟨hk,hi⟩=>?_;dsimp only[Ac,Ae];rcases Ai k a.length with hk2|hk2
 ·have hk3:k<b.length:=by omega
  (repeat' first|refine yyp ?_;try refine Ce ?_ ?_<;>intro hb|refine yy ?_|refine yy2 ?_ ?_<;>intro hcmp|apply ah;refine Cc Rq ?_|refine Cb λK hK=>?_|apply Cg 6;refine j0 [] jl4 ?_|apply_assumption -exfalso -symm)
  all_goals try simp only[Eb,ne_eq]at hcmp
  all_goals first
   |(refine⟨k+1,⟨by omega,x6 hk2 hk3 hi (by first|exact j9.1 hb|exact hcmp|exact hcmp)⟩,by omega,v6⟩)
   |((refine j1 (j7 ?_))
     simp only[aF,At,Am];exact(r9.2 (y7 hk2 hk3 (by first|exact r9.1 hb|exact hcmp|exact hcmp))).symm)
 ·(repeat' first|refine yyp ?_;try refine Ce ?_ ?_<;>intro hb|refine yy ?_|apply ah;refine Cc Rq ?_|refine Cb λK hK=>?_|apply Cg 6;refine j0 [] jl4 ?_|apply_assumption -exfalso -symm)
  (refine j1 (j7 ?_))
  simp only[aF,At,Am];exact(j9.2 (x8 hk2 (by omega) hi)).symm
theorem mm6 (a b:List Int):FnD prog gl 217 [.d (.list 1 (a.map (λx=>.int .u8 (x)))),.d (.list 1 (b.map (λx=>.int .u8 (x))))] (λv=>v=.d (.bool (eqB a b))):=by
 (refine j4 func217 ntmps217 results217 λw M=>?_)
 refine k7 0 rfl λhna=>?_;refine k7 1 rfl λhnb=>?_;simp only[Ab]at hna hnb
 (repeat' first|refine yyp ?_;try refine Ce ?_ ?_<;>intro hb|refine yy ?_|refine yy2 ?_ ?_<;>intro hcmp|apply ah;refine Cc Rq ?_|refine Cb λK hK=>?_|apply Cg 6;refine j0 [] jl4 ?_|apply_assumption -exfalso -symm)
 ·(refine j1 (j7 ?_))
  simp only[aF,At,Am];exact(r9.2 λe=>hcmp (by rw[e])).symm
 have hlen:a.length=b.length:=by omega
 refine k9 rt8 [] (λk:Nat=>[(5,.d (.int .i64 k))]) (λ_=>[]) (λk=>k<=a.length/\a.take k=b.take k) (λk=>a.length - k) 0 ⟨Ak _,rfl⟩ λk ⟨hk,hi⟩=>?_;dsimp only[Ac,Ae];rcases Ai k a.length with hk2|hk2
 ·have hk3:k<b.length:=by omega
  (repeat' first|refine yyp ?_;try refine Ce ?_ ?_<;>intro hb|refine yy ?_|refine yy2 ?_ ?_<;>intro hcmp|apply ah;refine Cc Rq ?_|refine Cb λK hK=>?_|apply Cg 6;refine j0 [] jl4 ?_|apply_assumption -exfalso -symm)
  all_goals try simp only[Eb,ne_eq]at hcmp
  all_goals first
   |(refine⟨k+1,⟨by omega,x6 hk2 hk3 hi (by first|exact j9.1 hb|exact hcmp|exact hcmp)⟩,by omega,v6⟩)
   |((refine j1 (j7 ?_))
     simp only[aF,At,Am];exact(r9.2 (y7 hk2 hk3 (by first|exact r9.1 hb|exact hcmp|exact hcmp))).symm)
 ·(repeat' first|refine yyp ?_;try refine Ce ?_ ?_<;>intro hb|refine yy ?_|apply ah;refine Cc Rq ?_|refine Cb λK hK=>?_|apply Cg 6;refine j0 [] jl4 ?_|apply_assumption -exfalso -symm)
  (refine j1 (j7 ?_))
  simp only[aF,At,Am];exact(j9.2 (x8 hk2 (by omega) hi)).symm
theorem me1 (a b:List Gu)(h:∀ x∈a,∀ y:Gu,FnD prog gl 183 [.d (dGu (x)),.d (dGu (y))] (λv=>v=.d (.bool (eqB x y)))):FnD prog gl 156 [.d (.list 23 (a.map (λx=>dGu (x)))),.d (.list 23 (b.map (λx=>dGu (x))))] (λv=>v=.d (.bool (eqB a b))):=by
 simp only[jb7]at h ⊢
 (refine j4 func156 ntmps156 results156 λw M=>?_)
 refine k7 0 rfl λhna=>?_;refine k7 1 rfl λhnb=>?_;simp only[Ab]at hna hnb
 (repeat' first|refine yyp ?_;try refine Ce ?_ ?_<;>intro hb|refine yy ?_|refine yy2 ?_ ?_<;>intro hcmp|apply ah;refine Cc Ro ?_|refine Cb λK hK=>?_|apply Cg 6;refine j0 [] kv9 ?_|apply_assumption -exfalso -symm)
 ·(refine j1 (j7 ?_))
  simp only[aF,At,Am];exact(r9.2 λe=>hcmp (by rw[e])).symm
 have hlen:a.length=b.length:=by omega
 refine k9 rt7 [] (λk:Nat=>[(5,.d (.int .i64 k))]) (λ_=>[]) (λk=>k<=a.length/\a.take k=b.take k) (λk=>a.length - k) 0 ⟨Ak _,rfl⟩ λk ⟨hk,hi⟩=>?_;dsimp only[Ac,Ae];rcases Ai k a.length with hk2|hk2
 ·have hk3:k<b.length:=by omega
  have hone:=h a[k] (Ao _) b[k]
  (repeat' first|refine yyp ?_;try refine Ce ?_ ?_<;>intro hb|refine yy ?_|apply Cf 183;refine Ci (hc:=hone) ?_;try refine Ce ?_ ?_<;>intro hb|apply ah;refine Cc Ro ?_|refine Cb λK hK=>?_|apply Cg 6;refine j0 [] kv9 ?_|apply_assumption -exfalso -symm)
  all_goals try simp only[Eb,ne_eq]at hcmp
  all_goals first
   |(refine⟨k+1,⟨by omega,x6 hk2 hk3 hi (by first|exact j9.1 hb|exact hcmp|exact hcmp)⟩,by omega,v6⟩)
   |((refine j1 (j7 ?_))
     simp only[aF,At,Am];exact(r9.2 (y7 hk2 hk3 (by first|exact r9.1 hb|exact hcmp|exact hcmp))).symm)
 ·(repeat' first|refine yyp ?_;try refine Ce ?_ ?_<;>intro hb|refine yy ?_|apply ah;refine Cc Ro ?_|refine Cb λK hK=>?_|apply Cg 6;refine j0 [] kv9 ?_|apply_assumption -exfalso -symm)
  (refine j1 (j7 ?_))
  simp only[aF,At,Am];exact(j9.2 (x8 hk2 (by omega) hi)).symm
theorem kh9 (a b:List Pr)(h:∀ x∈a,∀ y:Pr,FnD prog gl 115 [.d (dPr (x)),.d (dPr (y))] (λv=>v=.d (.bool (eqB x y)))):FnD prog gl 157 [.d (.list 42 (a.map (λx=>dPr (x)))),.d (.list 42 (b.map (λx=>dPr (x))))] (λv=>v=.d (.bool (eqB a b))):=by
 simp only[v7]at h ⊢
 (refine j4 func157 ntmps157 results157 λw M=>?_)
 refine k7 0 rfl λhna=>?_;refine k7 1 rfl λhnb=>?_;simp only[Ab]at hna hnb
 (repeat' first|refine yyp ?_;try refine Ce ?_ ?_<;>intro hb|refine yy ?_|refine yy2 ?_ ?_<;>intro hcmp|apply ah;refine Cc Ro ?_|refine Cb λK hK=>?_|apply Cg 6;refine j0 [] kv9 ?_|apply_assumption -exfalso -symm)
 ·(refine j1 (j7 ?_))
  simp only[aF,At,Am];exact(r9.2 λe=>hcmp (by rw[e])).symm
 have hlen:a.length=b.length:=by omega
 refine k9 rt7 [] (λk:Nat=>[(5,.d (.int .i64 k))]) (λ_=>[]) (λk=>k<=a.length/\a.take k=b.take k) (λk=>a.length - k) 0 ⟨Ak _,rfl⟩ λk ⟨hk,hi⟩=>?_;dsimp only[Ac,Ae];rcases Ai k a.length with hk2|hk2
 ·have hk3:k<b.length:=by omega
  have hone:=h a[k] (Ao _) b[k]
  (repeat' first|refine yyp ?_;try refine Ce ?_ ?_<;>intro hb|refine yy ?_|apply Cf 115;refine Ci (hc:=hone) ?_;try refine Ce ?_ ?_<;>intro hb|apply ah;refine Cc Ro ?_|refine Cb λK hK=>?_|apply Cg 6;refine j0 [] kv9 ?_|apply_assumption -exfalso -symm)
  all_goals try simp only[Eb,ne_eq]at hcmp
  all_goals first
   |(refine⟨k+1,⟨by omega,x6 hk2 hk3 hi (by first|exact j9.1 hb|exact hcmp|exact hcmp)⟩,by omega,v6⟩)
   |((refine j1 (j7 ?_))
     simp only[aF,At,Am];exact(r9.2 (y7 hk2 hk3 (by first|exact r9.1 hb|exact hcmp|exact hcmp))).symm)
 ·(repeat' first|refine yyp ?_;try refine Ce ?_ ?_<;>intro hb|refine yy ?_|apply ah;refine Cc Ro ?_|refine Cb λK hK=>?_|apply Cg 6;refine j0 [] kv9 ?_|apply_assumption -exfalso -symm)
  (refine j1 (j7 ?_))
  simp only[aF,At,Am];exact(j9.2 (x8 hk2 (by omega) hi)).symm
theorem jr4 (a b:List ByteArray):FnD prog gl 14 [.d (.list 1 (a.map (λx=>.str (x)))),.d (.list 1 (b.map (λx=>.str (x))))] (λv=>v=.d (.bool (eqB a b))):=by
 (refine j4 func14 ntmps14 results14 λw M=>?_)
 refine k7 0 rfl λhna=>?_;refine k7 1 rfl λhnb=>?_;simp only[Ab]at hna hnb
 (repeat' first|refine yyp ?_;try refine Ce ?_ ?_<;>intro hb|refine yy ?_|refine yy2 ?_ ?_<;>intro hcmp|apply ah;refine Cc Rq ?_|refine Cb λK hK=>?_|apply Cg 6;refine j0 [] jl4 ?_|apply_assumption -exfalso -symm)
 ·(refine j1 (j7 ?_))
  simp only[aF,At,Am];exact(r9.2 λe=>hcmp (by rw[e])).symm
 have hlen:a.length=b.length:=by omega
 refine k9 rt8 [] (λk:Nat=>[(5,.d (.int .i64 k))]) (λ_=>[]) (λk=>k<=a.length/\a.take k=b.take k) (λk=>a.length - k) 0 ⟨Ak _,rfl⟩ λk ⟨hk,hi⟩=>?_;dsimp only[Ac,Ae];rcases Ai k a.length with hk2|hk2
 ·have hk3:k<b.length:=by omega
  (repeat' first|refine yyp ?_;try refine Ce ?_ ?_<;>intro hb|refine yy ?_|refine yy2 ?_ ?_<;>intro hcmp|apply ah;refine Cc Rq ?_|refine Cb λK hK=>?_|apply Cg 6;refine j0 [] jl4 ?_|apply_assumption -exfalso -symm)
  all_goals try simp only[Eb,ne_eq]at hcmp
  all_goals first
   |(refine⟨k+1,⟨by omega,x6 hk2 hk3 hi (by first|exact j9.1 hb|exact hcmp|exact hcmp)⟩,by omega,v6⟩)
   |((refine j1 (j7 ?_))
     simp only[aF,At,Am];exact(r9.2 (y7 hk2 hk3 (by first|exact r9.1 hb|exact hcmp|exact hcmp))).symm)
 ·(repeat' first|refine yyp ?_;try refine Ce ?_ ?_<;>intro hb|refine yy ?_|apply ah;refine Cc Rq ?_|refine Cb λK hK=>?_|apply Cg 6;refine j0 [] jl4 ?_|apply_assumption -exfalso -symm)
  (refine j1 (j7 ?_))
  simp only[aF,At,Am];exact(j9.2 (x8 hk2 (by omega) hi)).symm
end
section
def Vv:List Nat:=[0,2,3,4,6,7,8,9,14]
def qh9:Plan:=lin [0,8,5,16,13,20,24]
def glS (mm:Int):List (Nat × List D):=[(5,[.int .i64 mm]),(0,[.int .i64 0,.int .i64 2048]),(1,[.int .i64 1,.int .i64 1]),(2,[.int .i64 1,.int .i64 8]),
 (4,[.int .u8 1,.str ⟨#[73,78,84]⟩,.int .i64 4,.int .u8 2,.str ⟨#[66,89,84,69]⟩,.int .i64 1,.int .u8 3,.str ⟨#[66,79,79,76]⟩,.int .i64 1]),
 (3,[1,10,100,1000,10000,100000,1000000,10000000,100000000,1000000000,10000000000,100000000000,1000000000000,10000000000000,100000000000000,1000000000000000,10000000000000000,100000000000000000,1000000000000000000,10000000000000000000].map λz=>.int .u64 z)]
def Lx.Ld (k:Int):ByteArray × Int × Bool:=if k=1 then (⟨#[73,78,84]⟩,4,true) else if k=2 then (⟨#[66,89,84,69]⟩,1,true) else if k=3 then (⟨#[66,79,79,76]⟩,1,true) else (ByteArray.empty,0,false)
variable {mm:Int}
attribute [local irreducible] TR TC
theorem rc1 (k:Int):FnD prog (glS mm) 219 [.d (.int .u8 k)] (λv=>v=.tup [.d (.str (Ld k).1),.d (.int .i64 (Ld k).2.1),.d (.bool (Ld k).2.2)]):=by
 unfold Ld
 (refine j4 func219 ntmps219 results219 λw M=>?_)
 (repeat' first|refine yyp ?_;try refine Ce ?_ ?_<;>intro hb|refine yy ?_|apply ah;refine Cc Vv ?_|refine Cb λK hK=>?_|apply Cg 5;refine j0 [] qh9 ?_|apply_assumption -exfalso -symm)
 refine k9 [2,3,4,6,8,9,10,11,12,13,14,15,16,17,18,19] [] (λj:Nat=>[(8,.d (.int .i64 j))]) (λ_=>[]) (λj=>j<=3/\(0<j->k≠1)/\(1<j->k≠2)/\(2<j->k≠3)) (λj=>3 - j) 0 ⟨by omega,by omega,by omega,by omega⟩ λj ⟨hj,h1,h2,h3⟩=>?_;dsimp only[Ac,Ae];rcases(by omega:j=0\/j=1\/j=2\/j=3) with rfl|rfl|rfl|rfl
 ·(repeat' first|apply Ca 10;(refine z_p (jt9 (i:=0) rfl rfl rfl rfl rfl (by decide) (by(repeat (first|exact Cut.done _|apply Cut.take|apply Cut.skip));fail_if_success intros)) ?_)|apply Ca 6;(refine j2 6 ?_)|refine yyp ?_;try refine Ce ?_ ?_<;>intro hb|refine yy ?_|refine yy2 ?_ ?_<;>intro hcmp|apply ah;refine Cc Vv ?_|refine Cb λK hK=>?_|apply Cg 5;refine j0 [] qh9 ?_|apply_assumption -exfalso -symm)
  ·(refine j1 (j7 ?_))
   rw[Ad (by omega)];rfl
  ·refine⟨1,⟨by omega,by omega,by omega,by omega⟩,by omega,v6⟩
 ·(repeat' first|apply Ca 10;(refine z_p (jt9 (i:=1) rfl rfl rfl rfl rfl (by decide) (by(repeat (first|exact Cut.done _|apply Cut.take|apply Cut.skip));fail_if_success intros)) ?_)|apply Ca 6;(refine j2 6 ?_)|refine yyp ?_;try refine Ce ?_ ?_<;>intro hb|refine yy ?_|refine yy2 ?_ ?_<;>intro hcmp|apply ah;refine Cc Vv ?_|refine Cb λK hK=>?_|apply Cg 5;refine j0 [] qh9 ?_|apply_assumption -exfalso -symm)
  ·(refine j1 (j7 ?_))
   rw[Af (by omega),Ad (by omega)];rfl
  ·refine⟨2,⟨by omega,by omega,by omega,by omega⟩,by omega,v6⟩
 ·(repeat' first|apply Ca 10;(refine z_p (jt9 (i:=2) rfl rfl rfl rfl rfl (by decide) (by(repeat (first|exact Cut.done _|apply Cut.take|apply Cut.skip));fail_if_success intros)) ?_)|apply Ca 6;(refine j2 6 ?_)|refine yyp ?_;try refine Ce ?_ ?_<;>intro hb|refine yy ?_|refine yy2 ?_ ?_<;>intro hcmp|apply ah;refine Cc Vv ?_|refine Cb λK hK=>?_|apply Cg 5;refine j0 [] qh9 ?_|apply_assumption -exfalso -symm)
  ·(refine j1 (j7 ?_))
   rw[Af (by omega),Af (by omega),Ad (by omega)];rfl
  ·refine⟨3,⟨by omega,by omega,by omega,by omega⟩,by omega,v6⟩
 ·(repeat' first|refine yyp ?_;try refine Ce ?_ ?_<;>intro hb|refine yy ?_|apply ah;refine Cc Vv ?_|refine Cb λK hK=>?_|apply Cg 5;refine j0 [] qh9 ?_|apply_assumption -exfalso -symm)
  (refine j1 (j7 ?_))
  rw[Af (by omega),Af (by omega),Af (by omega)];rfl
theorem rt9 (k:Int):FnD prog (glS mm) 197 [.d (.int .u8 k)] (λv=>v=.d (.bool (Lx.prim k))):=by
 have hw:=rc1 (mm:=mm) k;have hp:(Ld k).2.2=Lx.prim k:=by
  unfold Ld Lx.prim;by_cases h1:k=1
  ·simp[h1]
  ·by_cases h2:k=2
   ·simp[h2]
   ·by_cases h3:k=3<;>simp[h1,h2,h3]
 rw[hp]at hw
 (refine j4 func197 ntmps197 results197 λw M=>?_)
 (repeat' first|refine yyp ?_;try refine Ce ?_ ?_<;>intro hb|refine yy ?_|apply Cf 219;refine Ci (hc:=hw) ?_|apply ah;refine Cc [0,2,3,4,5,6] ?_|refine Cb λK hK=>?_|apply_assumption -exfalso -symm)
 all_goals
  (refine j1 (j7 ?_))
  simp only[aF, *]
theorem qi0 (k:Int):FnD prog (glS mm) 221 [.d (.int .u8 k)] (λv=>v=.d (.bool (!Lx.prim k))):=by
 (refine j4 func221 ntmps221 results221 λw M=>?_)
 (repeat' first|refine yyp ?_;try refine Ce ?_ ?_<;>intro hb|refine yy ?_|apply Cf 197;refine Ci (hc:=(rt9 k)) ?_;try refine Ce ?_ ?_<;>intro hb|apply ah;refine Cc [0,2,3,4,5] ?_|refine Cb λK hK=>?_|apply_assumption -exfalso -symm)
 all_goals
  (refine j1 (j7 ?_))
  simp only[aF, *,Bool.not_true,Bool.not_false]
theorem ms0 (l:List Int)(least:Int):FnD prog (glS mm) 198 [.d (.list 1 (l.map (.int .u8))),.d (.int .i64 least)] (λv=>v=.d (.bool (Lc l least))):=by
 have hcf:=vp9 (glS mm) (λk=>!Lx.prim k) l λk hk=>FnE.ofD (qi0 (mm:=mm) l[k]) (by(repeat (first|exact aM.nil|apply aM.cons (Pure.d _)|apply aM.cons (Pure.nils _)));fail_if_success intros);rw[jo5]at hcf
 (refine j4 func198 ntmps198 results198 λw M=>?_)
 (repeat' first|apply Ca 16;refine Ch (hc:=hcf) ?_;try refine Ce ?_ ?_<;>intro hb|refine yyp ?_;try refine Ce ?_ ?_<;>intro hb|refine yy ?_|refine yy2 ?_ ?_<;>intro hcmp|apply ah;refine Cc [0,1,4,5,6,7] ?_|refine Cb λK hK=>?_|apply_assumption -exfalso -symm)
 all_goals
  (refine j1 (j7 ?_))
  simp only[aF,At,Am,Lc]
  grind
theorem me2 (tag:ByteArray)(items:List D)(v:Va):FnE prog (glS mm) 200 [.d (dVa v),.ptr 4 0] [(4,.box [.d (.str tag),.d (.list 1 items)])] (λu H1=>u=.d (.bool (decide (v.tag=tag)))/\H1=[(4,.box [.d (.str tag),.d (.list 1 items)])]):=by
 (refine j3 func200 ntmps200 results200 λw M E b0=>?_)
 (repeat' first|apply Ca 2;(refine Ck 2 ?_)|refine yyp ?_;try refine Ce ?_ ?_<;>intro hb|refine yy ?_|refine yy2 ?_ ?_<;>intro hcmp|apply ah;refine Cc [0,1,2,3,4,5,6] ?_|refine Cb λK hK=>?_|apply_assumption -exfalso -symm)
 all_goals (refine j1 (j8 ⟨?_,rfl⟩))
 all_goals simp only[aF, *,decide_true,decide_false]
end
end Go.Proofs.YtklklgfpkpglgaaGreatDoor
