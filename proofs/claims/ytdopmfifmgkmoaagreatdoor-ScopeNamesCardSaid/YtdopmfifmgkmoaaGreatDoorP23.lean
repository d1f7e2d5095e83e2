/- Parts: O8. -/
import Derived.Test.YtdopmfifmgkmoaaGreatDoorP20
set_option linter.all false
set_option maxRecDepth 100000
set_option maxHeartbeats 16000000
namespace Go.Proofs.YtdopmfifmgkmoaaGreatDoor
open Go.RowKit Go.Proofs.Tryz
section
def qo8_0:List Nat:=[0,1,4,5,6,7,10,12,13,14,24]
def qg5:List Nat:=[4,5,13,14,15,16,17,18,19,20,21,22,23,24,25]
def qo8_2:List Nat:=[0,1,2,6,7,8,9,14,15,16,17,18,30]
def qg6:List Nat:=[6,7,8,9,17,18,19,20,21,22,23,24,25,26,27,28,29,30,31]
def qo8_4:List Nat:=[0,1,4,5,6,7,10,14,26]
def qs2:List Nat:=[4,5,11,12,13,14,15,16,17,18,19,20,21,22,23,24,25,26]
def qo8_6:List Nat:=[0,1,4,5,6,7,10,14,25]
def qs3:List Nat:=[4,5,11,12,13,14,15,16,17,18,19,20,21,22,23,24,25]
def jj2:Plan:=lin [0,4,8,16,20,24,13,29,32]
def kp4:Plan:=lin [0,4,8,16,20,24,13,29,34,36]
theorem x6 {α:Type}{a b:List α}{k:Nat}(ha:k<a.length)(hb:k<b.length)(h:a.take k=b.take k)(e:a[k]=b[k]):a.take (k+1)=b.take (k+1):=by
 rw[List.take_succ_eq_append_getElem ha,List.take_succ_eq_append_getElem hb,h,e]
theorem y8 {α:Type}{a b:List α}{k:Nat}(ha:k<a.length)(hb:k<b.length)(e:a[k]≠b[k]):a≠b:=fun h=>by
 subst h
 exact e rfl
theorem y3 {α:Type}{a b:List α}{k:Nat}(ha:a.length<=k)(hb:b.length<=k)(h:a.take k=b.take k):a=b:=by
 rwa [List.take_of_length_le ha,List.take_of_length_le hb]at h
theorem ra2 {a b:Ex}:a=b↔a.kind=b.kind/\a.op=b.op/\a.ty=b.ty/\a.n=b.n/\a.s=b.s/\a.l=b.l:=by
 cases a
 cases b
 simp only[Ex.mk.injEq,Ex.kind,Ex.op,Ex.ty,Ex.n,Ex.s,Ex.l]
 constructor
 ·rintro⟨h1,h2,h3,h4,h5,h6⟩;exact⟨h1,by rw[h2],h3,h4,h5,h6⟩
 ·rintro⟨h1,h2,h3,h4,h5,h6⟩;exact⟨h1,UInt8.toNat_inj.1 (by omega),h3,h4,h5,h6⟩
theorem ms9 {a b:Fo}:a=b↔a.val=b.val/\a.type.kind=b.type.kind/\a.type.dim=b.type.dim/\a.type.item=b.type.item/\a.type.proto=b.type.proto/\a.name=b.name/\True:=by
 obtain⟨v,⟨k,d,i,p⟩,n⟩:=a
 obtain⟨v',⟨k',d',i',p'⟩,n'⟩:=b
 simp only[Fo.mk.injEq,Ty.mk.injEq,and_true]
 constructor
 ·rintro⟨h1,⟨h2,h3,h4,h5⟩,h6⟩;exact⟨h1,h2,h3,h4,h5,h6⟩
 ·rintro⟨h1,h2,h3,h4,h5,h6⟩;exact⟨h1,⟨h2,h3,h4,h5⟩,h6⟩
theorem ra3 {a b:Va}:a=b↔a.tag=b.tag/\a.items=b.items:=by
 cases a
 cases b
 simp
attribute [local irreducible] TR TC
theorem mt0 (gl:List (Nat × List D))(a b:List Int):FnD prog gl 86 [.d (.list 1 (a.map (fun x=>.int .i64 (x)))),.d (.list 1 (b.map (fun x=>.int .i64 (x))))] (fun v=>v=.d (.bool (eqB a b))):=by
 (refine j4 func86 ntmps86 results86 fun w M=>?_)
 refine r7 0 rfl fun hna=>?_
 refine r7 1 rfl fun hnb=>?_
 simp only[List.length_map]at hna hnb
 (repeat' first|refine yyp ?_;try refine s_bu ?_ ?_<;>intro hb|refine yy ?_|refine yy2 ?_ ?_<;>intro hcmp|refine at_nil ?_;refine z_nil qo8_0 ?_|refine tc_seq fun K hK=>?_|refine j5 6 ?_;refine j2 [] jj2 ?_|apply_assumption -exfalso -symm)
 ·(refine j0 (j6 ?_))
  simp only[oneOf,V.d.injEq,D.bool.injEq]
  exact(r8.2 fun e=>hcmp (by rw[e])).symm
 have hlen:a.length=b.length:=by omega
 refine k9 qg5 [] (fun k:Nat=>[(13,.d (.int .i64 k))]) (fun _=>[]) (fun k=>k<=a.length/\a.take k=b.take k) (fun k=>a.length - k) 0 ⟨Nat.zero_le _,rfl⟩ fun k ⟨hk,hi⟩=>?_
 dsimp only[List.cons_append,List.nil_append]
 rcases Nat.lt_or_ge k a.length with hk2|hk2
 ·have hk3:k<b.length:=by omega
  (repeat' first|refine yyp ?_;try refine s_bu ?_ ?_<;>intro hb|refine yy ?_|refine yy2 ?_ ?_<;>intro hcmp|refine at_nil ?_;refine z_nil qo8_0 ?_|refine tc_seq fun K hK=>?_|refine j5 6 ?_;refine j2 [] jj2 ?_|apply_assumption -exfalso -symm)
  all_goals try simp only[Decidable.not_not,ne_eq]at hcmp
  all_goals first
   |(refine⟨k+1,⟨by omega,x6 hk2 hk3 hi (by first|exact j9.1 hb|exact hcmp|exact hcmp)⟩,by omega,v7⟩)
   |((refine j0 (j6 ?_))
     simp only[oneOf,V.d.injEq,D.bool.injEq]
     exact(r8.2 (y8 hk2 hk3 (by first|exact r8.1 hb|exact hcmp|exact hcmp))).symm)
 ·(repeat' first|refine yyp ?_;try refine s_bu ?_ ?_<;>intro hb|refine yy ?_|refine at_nil ?_;refine z_nil qo8_0 ?_|refine tc_seq fun K hK=>?_|refine j5 6 ?_;refine j2 [] jj2 ?_|apply_assumption -exfalso -symm)
  (refine j0 (j6 ?_))
  simp only[oneOf,V.d.injEq,D.bool.injEq]
  exact(j9.2 (y3 hk2 (by omega) hi)).symm
theorem qg7 (gl:List (Nat × List D))(a b:List Int):FnD prog gl 156 [.d (.list 1 (a.map (fun x=>.int .u8 (x)))),.d (.list 1 (b.map (fun x=>.int .u8 (x))))] (fun v=>v=.d (.bool (eqB a b))):=by
 (refine j4 func156 ntmps156 results156 fun w M=>?_)
 refine r7 0 rfl fun hna=>?_
 refine r7 1 rfl fun hnb=>?_
 simp only[List.length_map]at hna hnb
 (repeat' first|refine yyp ?_;try refine s_bu ?_ ?_<;>intro hb|refine yy ?_|refine yy2 ?_ ?_<;>intro hcmp|refine at_nil ?_;refine z_nil qo8_0 ?_|refine tc_seq fun K hK=>?_|refine j5 6 ?_;refine j2 [] jj2 ?_|apply_assumption -exfalso -symm)
 ·(refine j0 (j6 ?_))
  simp only[oneOf,V.d.injEq,D.bool.injEq]
  exact(r8.2 fun e=>hcmp (by rw[e])).symm
 have hlen:a.length=b.length:=by omega
 refine k9 qg5 [] (fun k:Nat=>[(13,.d (.int .i64 k))]) (fun _=>[]) (fun k=>k<=a.length/\a.take k=b.take k) (fun k=>a.length - k) 0 ⟨Nat.zero_le _,rfl⟩ fun k ⟨hk,hi⟩=>?_
 dsimp only[List.cons_append,List.nil_append]
 rcases Nat.lt_or_ge k a.length with hk2|hk2
 ·have hk3:k<b.length:=by omega
  (repeat' first|refine yyp ?_;try refine s_bu ?_ ?_<;>intro hb|refine yy ?_|refine yy2 ?_ ?_<;>intro hcmp|refine at_nil ?_;refine z_nil qo8_0 ?_|refine tc_seq fun K hK=>?_|refine j5 6 ?_;refine j2 [] jj2 ?_|apply_assumption -exfalso -symm)
  all_goals try simp only[Decidable.not_not,ne_eq]at hcmp
  all_goals first
   |(refine⟨k+1,⟨by omega,x6 hk2 hk3 hi (by first|exact j9.1 hb|exact hcmp|exact hcmp)⟩,by omega,v7⟩)
   |((refine j0 (j6 ?_))
     simp only[oneOf,V.d.injEq,D.bool.injEq]
     exact(r8.2 (y8 hk2 hk3 (by first|exact r8.1 hb|exact hcmp|exact hcmp))).symm)
 ·(repeat' first|refine yyp ?_;try refine s_bu ?_ ?_<;>intro hb|refine yy ?_|refine at_nil ?_;refine z_nil qo8_0 ?_|refine tc_seq fun K hK=>?_|refine j5 6 ?_;refine j2 [] jj2 ?_|apply_assumption -exfalso -symm)
  (refine j0 (j6 ?_))
  simp only[oneOf,V.d.injEq,D.bool.injEq]
  exact(j9.2 (y3 hk2 (by omega) hi)).symm
theorem mt1 (gl:List (Nat × List D))(a b:List ByteArray):FnD prog gl 157 [.d (.list 1 (a.map (fun x=>.str (x)))),.d (.list 1 (b.map (fun x=>.str (x))))] (fun v=>v=.d (.bool (eqB a b))):=by
 (refine j4 func157 ntmps157 results157 fun w M=>?_)
 refine r7 0 rfl fun hna=>?_
 refine r7 1 rfl fun hnb=>?_
 simp only[List.length_map]at hna hnb
 (repeat' first|refine yyp ?_;try refine s_bu ?_ ?_<;>intro hb|refine yy ?_|refine yy2 ?_ ?_<;>intro hcmp|refine at_nil ?_;refine z_nil qo8_0 ?_|refine tc_seq fun K hK=>?_|refine j5 6 ?_;refine j2 [] jj2 ?_|apply_assumption -exfalso -symm)
 ·(refine j0 (j6 ?_))
  simp only[oneOf,V.d.injEq,D.bool.injEq]
  exact(r8.2 fun e=>hcmp (by rw[e])).symm
 have hlen:a.length=b.length:=by omega
 refine k9 qg5 [] (fun k:Nat=>[(13,.d (.int .i64 k))]) (fun _=>[]) (fun k=>k<=a.length/\a.take k=b.take k) (fun k=>a.length - k) 0 ⟨Nat.zero_le _,rfl⟩ fun k ⟨hk,hi⟩=>?_
 dsimp only[List.cons_append,List.nil_append]
 rcases Nat.lt_or_ge k a.length with hk2|hk2
 ·have hk3:k<b.length:=by omega
  (repeat' first|refine yyp ?_;try refine s_bu ?_ ?_<;>intro hb|refine yy ?_|refine yy2 ?_ ?_<;>intro hcmp|refine at_nil ?_;refine z_nil qo8_0 ?_|refine tc_seq fun K hK=>?_|refine j5 6 ?_;refine j2 [] jj2 ?_|apply_assumption -exfalso -symm)
  all_goals try simp only[Decidable.not_not,ne_eq]at hcmp
  all_goals first
   |(refine⟨k+1,⟨by omega,x6 hk2 hk3 hi (by first|exact j9.1 hb|exact hcmp|exact hcmp)⟩,by omega,v7⟩)
   |((refine j0 (j6 ?_))
     simp only[oneOf,V.d.injEq,D.bool.injEq]
     exact(r8.2 (y8 hk2 hk3 (by first|exact r8.1 hb|exact hcmp|exact hcmp))).symm)
 ·(repeat' first|refine yyp ?_;try refine s_bu ?_ ?_<;>intro hb|refine yy ?_|refine at_nil ?_;refine z_nil qo8_0 ?_|refine tc_seq fun K hK=>?_|refine j5 6 ?_;refine j2 [] jj2 ?_|apply_assumption -exfalso -symm)
  (refine j0 (j6 ?_))
  simp only[oneOf,V.d.injEq,D.bool.injEq]
  exact(j9.2 (y3 hk2 (by omega) hi)).symm
theorem qg8 (gl:List (Nat × List D))(a b:List Fo):FnD prog gl 159 [.d (.list 6 (a.map (fun x=>dFo (x)))),.d (.list 6 (b.map (fun x=>dFo (x))))] (fun v=>v=.d (.bool (eqB a b))):=by
 (refine j4 func159 ntmps159 results159 fun w M=>?_)
 refine r7 0 rfl fun hna=>?_
 refine r7 1 rfl fun hnb=>?_
 simp only[List.length_map]at hna hnb
 (repeat' first|refine yyp ?_;try refine s_bu ?_ ?_<;>intro hb|refine yy ?_|refine yy2 ?_ ?_<;>intro hcmp|refine at_nil ?_;refine z_nil qo8_0 ?_|refine tc_seq fun K hK=>?_|refine j5 6 ?_;refine j2 [] jj2 ?_|apply_assumption -exfalso -symm)
 ·(refine j0 (j6 ?_))
  simp only[oneOf,V.d.injEq,D.bool.injEq]
  exact(r8.2 fun e=>hcmp (by rw[e])).symm
 have hlen:a.length=b.length:=by omega
 refine k9 qg5 [] (fun k:Nat=>[(13,.d (.int .i64 k))]) (fun _=>[]) (fun k=>k<=a.length/\a.take k=b.take k) (fun k=>a.length - k) 0 ⟨Nat.zero_le _,rfl⟩ fun k ⟨hk,hi⟩=>?_
 dsimp only[List.cons_append,List.nil_append]
 rcases Nat.lt_or_ge k a.length with hk2|hk2
 ·have hk3:k<b.length:=by omega
  (repeat' first|refine yyp ?_;try refine s_bu ?_ ?_<;>intro hb|refine yy ?_|refine yy2 ?_ ?_<;>intro hcmp|refine at_nil ?_;refine z_nil qo8_0 ?_|refine tc_seq fun K hK=>?_|refine j5 6 ?_;refine j2 [] jj2 ?_|apply_assumption -exfalso -symm)
  all_goals try simp only[Decidable.not_not,ne_eq]at hcmp
  all_goals first
   |(refine⟨k+1,⟨by omega,x6 hk2 hk3 hi (by first|exact j9.1 hb|exact hcmp|exact ms9.2 hcmp|exact fun e=>hcmp (ms9.1 e))⟩,by omega,v7⟩)
   |((refine j0 (j6 ?_))
     simp only[oneOf,V.d.injEq,D.bool.injEq]
     exact(r8.2 (y8 hk2 hk3 (by first|exact r8.1 hb|exact hcmp|exact ms9.2 hcmp|exact fun e=>hcmp (ms9.1 e)))).symm)
 ·(repeat' first|refine yyp ?_;try refine s_bu ?_ ?_<;>intro hb|refine yy ?_|refine at_nil ?_;refine z_nil qo8_0 ?_|refine tc_seq fun K hK=>?_|refine j5 6 ?_;refine j2 [] jj2 ?_|apply_assumption -exfalso -symm)
  (refine j0 (j6 ?_))
  simp only[oneOf,V.d.injEq,D.bool.injEq]
  exact(j9.2 (y3 hk2 (by omega) hi)).symm
theorem mt2 (gl:List (Nat × List D))(a b:List Ex)(h:∀ x∈a,∀ y:Ex,FnD prog gl 84 [.d (dEx (x)),.d (dEx (y))] (fun v=>v=.d (.bool (eqB x y)))):FnD prog gl 124 [.d (.list 6 (a.map (fun x=>dEx (x)))),.d (.list 6 (b.map (fun x=>dEx (x)))),.clo (.func 84) [] []] (fun v=>v=.d (.bool (eqB a b))):=by
 simp only[r9]at h ⊢
 (refine j4 func124 ntmps124 results124 fun w M=>?_)
 refine r7 0 rfl fun hna=>?_
 refine r7 1 rfl fun hnb=>?_
 simp only[List.length_map]at hna hnb
 (repeat' first|refine yyp ?_;try refine s_bu ?_ ?_<;>intro hb|refine yy ?_|refine yy2 ?_ ?_<;>intro hcmp|refine at_nil ?_;refine z_nil qo8_2 ?_|refine tc_seq fun K hK=>?_|apply_assumption -exfalso -symm)
 ·(refine j0 (j6 ?_))
  simp only[oneOf,V.d.injEq,D.bool.injEq]
  exact(r8.2 fun e=>hcmp (by rw[e])).symm
 have hlen:a.length=b.length:=by omega
 refine k9 qg6 [] (fun k:Nat=>[(17,.d (.int .i64 k))]) (fun _=>[]) (fun k=>k<=a.length/\a.take k=b.take k) (fun k=>a.length - k) 0 ⟨Nat.zero_le _,rfl⟩ fun k ⟨hk,hi⟩=>?_
 dsimp only[List.cons_append,List.nil_append]
 rcases Nat.lt_or_ge k a.length with hk2|hk2
 ·have hk3:k<b.length:=by omega
  have hone:=FnE.ofD (h a[k] (List.getElem_mem _) b[k]) (by(repeat (first|exact Pures.nil|apply Pures.cons (Pure.d _)|apply Pures.cons (Pure.nils _)));fail_if_success intros)
  (repeat' first|refine tr_at 8 ?_;(refine j1 8 ?_)|refine tr_at 9 ?_;(refine j1 9 ?_)|refine tr_at 29 ?_;refine y_callE (hc:=hone) ?_;try refine s_bu ?_ ?_<;>intro hb|refine yyp ?_;try refine s_bu ?_ ?_<;>intro hb|refine yy ?_|refine at_nil ?_;refine z_nil qo8_2 ?_|refine tc_seq fun K hK=>?_|apply_assumption -exfalso -symm)
  all_goals try simp only[Decidable.not_not,ne_eq]at hcmp
  all_goals first
   |(refine⟨k+1,⟨by omega,x6 hk2 hk3 hi (by first|exact j9.1 hb|exact hcmp|exact hcmp)⟩,by omega,v7⟩)
   |((refine j0 (j6 ?_))
     simp only[oneOf,V.d.injEq,D.bool.injEq]
     exact(r8.2 (y8 hk2 hk3 (by first|exact r8.1 hb|exact hcmp|exact hcmp))).symm)
 ·(repeat' first|refine yyp ?_;try refine s_bu ?_ ?_<;>intro hb|refine yy ?_|refine at_nil ?_;refine z_nil qo8_2 ?_|refine tc_seq fun K hK=>?_|apply_assumption -exfalso -symm)
  (refine j0 (j6 ?_))
  simp only[oneOf,V.d.injEq,D.bool.injEq]
  exact(j9.2 (y3 hk2 (by omega) hi)).symm
theorem mt3 (gl:List (Nat × List D))(a b:List Va)(h:∀ x∈a,∀ y:Va,FnD prog gl 155 [.d (dVa (x)),.d (dVa (y))] (fun v=>v=.d (.bool (eqB x y)))):FnD prog gl 158 [.d (.list 2 (a.map (fun x=>dVa (x)))),.d (.list 2 (b.map (fun x=>dVa (x)))),.clo (.func 155) [] []] (fun v=>v=.d (.bool (eqB a b))):=by
 (refine j4 func158 ntmps158 results158 fun w M=>?_)
 refine r7 0 rfl fun hna=>?_
 refine r7 1 rfl fun hnb=>?_
 simp only[List.length_map]at hna hnb
 (repeat' first|refine yyp ?_;try refine s_bu ?_ ?_<;>intro hb|refine yy ?_|refine yy2 ?_ ?_<;>intro hcmp|refine at_nil ?_;refine z_nil qo8_2 ?_|refine tc_seq fun K hK=>?_|apply_assumption -exfalso -symm)
 ·(refine j0 (j6 ?_))
  simp only[oneOf,V.d.injEq,D.bool.injEq]
  exact(r8.2 fun e=>hcmp (by rw[e])).symm
 have hlen:a.length=b.length:=by omega
 refine k9 qg6 [] (fun k:Nat=>[(17,.d (.int .i64 k))]) (fun _=>[]) (fun k=>k<=a.length/\a.take k=b.take k) (fun k=>a.length - k) 0 ⟨Nat.zero_le _,rfl⟩ fun k ⟨hk,hi⟩=>?_
 dsimp only[List.cons_append,List.nil_append]
 rcases Nat.lt_or_ge k a.length with hk2|hk2
 ·have hk3:k<b.length:=by omega
  have hone:=FnE.ofD (h a[k] (List.getElem_mem _) b[k]) (by(repeat (first|exact Pures.nil|apply Pures.cons (Pure.d _)|apply Pures.cons (Pure.nils _)));fail_if_success intros)
  (repeat' first|refine tr_at 8 ?_;(refine j1 8 ?_)|refine tr_at 9 ?_;(refine j1 9 ?_)|refine tr_at 29 ?_;refine y_callE (hc:=hone) ?_;try refine s_bu ?_ ?_<;>intro hb|refine yyp ?_;try refine s_bu ?_ ?_<;>intro hb|refine yy ?_|refine at_nil ?_;refine z_nil qo8_2 ?_|refine tc_seq fun K hK=>?_|apply_assumption -exfalso -symm)
  all_goals try simp only[Decidable.not_not,ne_eq]at hcmp
  all_goals first
   |(refine⟨k+1,⟨by omega,x6 hk2 hk3 hi (by first|exact j9.1 hb|exact hcmp|exact hcmp)⟩,by omega,v7⟩)
   |((refine j0 (j6 ?_))
     simp only[oneOf,V.d.injEq,D.bool.injEq]
     exact(r8.2 (y8 hk2 hk3 (by first|exact r8.1 hb|exact hcmp|exact hcmp))).symm)
 ·(repeat' first|refine yyp ?_;try refine s_bu ?_ ?_<;>intro hb|refine yy ?_|refine at_nil ?_;refine z_nil qo8_2 ?_|refine tc_seq fun K hK=>?_|apply_assumption -exfalso -symm)
  (refine j0 (j6 ?_))
  simp only[oneOf,V.d.injEq,D.bool.injEq]
  exact(j9.2 (y3 hk2 (by omega) hi)).symm
theorem mt4 (gl:List (Nat × List D))(a b:List Gu)(h:∀ x∈a,∀ y:Gu,FnD prog gl 88 [.d (dGu (x)),.d (dGu (y))] (fun v=>v=.d (.bool (eqB x y)))):FnD prog gl 87 [.d (.list 23 (a.map (fun x=>dGu (x)))),.d (.list 23 (b.map (fun x=>dGu (x)))),.clo (.func 88) [] []] (fun v=>v=.d (.bool (eqB a b))):=by
 simp only[jg4]at h ⊢
 (refine j4 func87 ntmps87 results87 fun w M=>?_)
 refine r7 0 rfl fun hna=>?_
 refine r7 1 rfl fun hnb=>?_
 simp only[List.length_map]at hna hnb
 (repeat' first|refine yyp ?_;try refine s_bu ?_ ?_<;>intro hb|refine yy ?_|refine yy2 ?_ ?_<;>intro hcmp|refine at_nil ?_;refine z_nil qo8_2 ?_|refine tc_seq fun K hK=>?_|apply_assumption -exfalso -symm)
 ·(refine j0 (j6 ?_))
  simp only[oneOf,V.d.injEq,D.bool.injEq]
  exact(r8.2 fun e=>hcmp (by rw[e])).symm
 have hlen:a.length=b.length:=by omega
 refine k9 qg6 [] (fun k:Nat=>[(17,.d (.int .i64 k))]) (fun _=>[]) (fun k=>k<=a.length/\a.take k=b.take k) (fun k=>a.length - k) 0 ⟨Nat.zero_le _,rfl⟩ fun k ⟨hk,hi⟩=>?_
 dsimp only[List.cons_append,List.nil_append]
 rcases Nat.lt_or_ge k a.length with hk2|hk2
 ·have hk3:k<b.length:=by omega
  have hone:=FnE.ofD (h a[k] (List.getElem_mem _) b[k]) (by(repeat (first|exact Pures.nil|apply Pures.cons (Pure.d _)|apply Pures.cons (Pure.nils _)));fail_if_success intros)
  (repeat' first|refine tr_at 8 ?_;(refine j1 8 ?_)|refine tr_at 9 ?_;(refine j1 9 ?_)|refine tr_at 29 ?_;refine y_callE (hc:=hone) ?_;try refine s_bu ?_ ?_<;>intro hb|refine yyp ?_;try refine s_bu ?_ ?_<;>intro hb|refine yy ?_|refine at_nil ?_;refine z_nil qo8_2 ?_|refine tc_seq fun K hK=>?_|apply_assumption -exfalso -symm)
  all_goals try simp only[Decidable.not_not,ne_eq]at hcmp
  all_goals first
   |(refine⟨k+1,⟨by omega,x6 hk2 hk3 hi (by first|exact j9.1 hb|exact hcmp|exact hcmp)⟩,by omega,v7⟩)
   |((refine j0 (j6 ?_))
     simp only[oneOf,V.d.injEq,D.bool.injEq]
     exact(r8.2 (y8 hk2 hk3 (by first|exact r8.1 hb|exact hcmp|exact hcmp))).symm)
 ·(repeat' first|refine yyp ?_;try refine s_bu ?_ ?_<;>intro hb|refine yy ?_|refine at_nil ?_;refine z_nil qo8_2 ?_|refine tc_seq fun K hK=>?_|apply_assumption -exfalso -symm)
  (refine j0 (j6 ?_))
  simp only[oneOf,V.d.injEq,D.bool.injEq]
  exact(j9.2 (y3 hk2 (by omega) hi)).symm
theorem kd4 (gl:List (Nat × List D))(a b:List Pr)(h:∀ x∈a,∀ y:Pr,FnD prog gl 49 [.d (dPr (x)),.d (dPr (y))] (fun v=>v=.d (.bool (eqB x y)))):FnD prog gl 89 [.d (.list 42 (a.map (fun x=>dPr (x)))),.d (.list 42 (b.map (fun x=>dPr (x)))),.clo (.func 49) [] []] (fun v=>v=.d (.bool (eqB a b))):=by
 simp only[x5]at h ⊢
 (refine j4 func89 ntmps89 results89 fun w M=>?_)
 refine r7 0 rfl fun hna=>?_
 refine r7 1 rfl fun hnb=>?_
 simp only[List.length_map]at hna hnb
 (repeat' first|refine yyp ?_;try refine s_bu ?_ ?_<;>intro hb|refine yy ?_|refine yy2 ?_ ?_<;>intro hcmp|refine at_nil ?_;refine z_nil qo8_2 ?_|refine tc_seq fun K hK=>?_|apply_assumption -exfalso -symm)
 ·(refine j0 (j6 ?_))
  simp only[oneOf,V.d.injEq,D.bool.injEq]
  exact(r8.2 fun e=>hcmp (by rw[e])).symm
 have hlen:a.length=b.length:=by omega
 refine k9 qg6 [] (fun k:Nat=>[(17,.d (.int .i64 k))]) (fun _=>[]) (fun k=>k<=a.length/\a.take k=b.take k) (fun k=>a.length - k) 0 ⟨Nat.zero_le _,rfl⟩ fun k ⟨hk,hi⟩=>?_
 dsimp only[List.cons_append,List.nil_append]
 rcases Nat.lt_or_ge k a.length with hk2|hk2
 ·have hk3:k<b.length:=by omega
  have hone:=FnE.ofD (h a[k] (List.getElem_mem _) b[k]) (by(repeat (first|exact Pures.nil|apply Pures.cons (Pure.d _)|apply Pures.cons (Pure.nils _)));fail_if_success intros)
  (repeat' first|refine tr_at 8 ?_;(refine j1 8 ?_)|refine tr_at 9 ?_;(refine j1 9 ?_)|refine tr_at 29 ?_;refine y_callE (hc:=hone) ?_;try refine s_bu ?_ ?_<;>intro hb|refine yyp ?_;try refine s_bu ?_ ?_<;>intro hb|refine yy ?_|refine at_nil ?_;refine z_nil qo8_2 ?_|refine tc_seq fun K hK=>?_|apply_assumption -exfalso -symm)
  all_goals try simp only[Decidable.not_not,ne_eq]at hcmp
  all_goals first
   |(refine⟨k+1,⟨by omega,x6 hk2 hk3 hi (by first|exact j9.1 hb|exact hcmp|exact hcmp)⟩,by omega,v7⟩)
   |((refine j0 (j6 ?_))
     simp only[oneOf,V.d.injEq,D.bool.injEq]
     exact(r8.2 (y8 hk2 hk3 (by first|exact r8.1 hb|exact hcmp|exact hcmp))).symm)
 ·(repeat' first|refine yyp ?_;try refine s_bu ?_ ?_<;>intro hb|refine yy ?_|refine at_nil ?_;refine z_nil qo8_2 ?_|refine tc_seq fun K hK=>?_|apply_assumption -exfalso -symm)
  (refine j0 (j6 ?_))
  simp only[oneOf,V.d.injEq,D.bool.injEq]
  exact(j9.2 (y3 hk2 (by omega) hi)).symm
theorem jk9 (gl:List (Nat × List D))(a b:List Ex)(h:∀ x∈a,∀ y:Ex,FnD prog gl 44 [.d (dEx (x)),.d (dEx (y))] (fun v=>v=.d (.bool (eqB x y)))):FnD prog gl 45 [.d (.list 6 (a.map (fun x=>dEx (x)))),.d (.list 6 (b.map (fun x=>dEx (x))))] (fun v=>v=.d (.bool (eqB a b))):=by
 simp only[r9]at h ⊢
 (refine j4 func45 ntmps45 results45 fun w M=>?_)
 refine r7 0 rfl fun hna=>?_
 refine r7 1 rfl fun hnb=>?_
 simp only[List.length_map]at hna hnb
 (repeat' first|refine yyp ?_;try refine s_bu ?_ ?_<;>intro hb|refine yy ?_|refine yy2 ?_ ?_<;>intro hcmp|refine at_nil ?_;refine z_nil qo8_4 ?_|refine tc_seq fun K hK=>?_|refine j5 6 ?_;refine j2 [] kp4 ?_|apply_assumption -exfalso -symm)
 ·(refine j0 (j6 ?_))
  simp only[oneOf,V.d.injEq,D.bool.injEq]
  exact(r8.2 fun e=>hcmp (by rw[e])).symm
 have hlen:a.length=b.length:=by omega
 refine k9 qs2 [] (fun k:Nat=>[(5,.d (.int .i64 k))]) (fun _=>[]) (fun k=>k<=a.length/\a.take k=b.take k) (fun k=>a.length - k) 0 ⟨Nat.zero_le _,rfl⟩ fun k ⟨hk,hi⟩=>?_
 dsimp only[List.cons_append,List.nil_append]
 rcases Nat.lt_or_ge k a.length with hk2|hk2
 ·have hk3:k<b.length:=by omega
  have hone:=h a[k] (List.getElem_mem _) b[k]
  (repeat' first|refine yyp ?_;try refine s_bu ?_ ?_<;>intro hb|refine yy ?_|refine at_call 44 ?_;refine y_call (hc:=hone) ?_;try refine s_bu ?_ ?_<;>intro hb|refine at_nil ?_;refine z_nil qo8_4 ?_|refine tc_seq fun K hK=>?_|refine j5 6 ?_;refine j2 [] kp4 ?_|apply_assumption -exfalso -symm)
  all_goals try simp only[Decidable.not_not,ne_eq]at hcmp
  all_goals first
   |(refine⟨k+1,⟨by omega,x6 hk2 hk3 hi (by first|exact j9.1 hb|exact hcmp|exact hcmp)⟩,by omega,v7⟩)
   |((refine j0 (j6 ?_))
     simp only[oneOf,V.d.injEq,D.bool.injEq]
     exact(r8.2 (y8 hk2 hk3 (by first|exact r8.1 hb|exact hcmp|exact hcmp))).symm)
 ·(repeat' first|refine yyp ?_;try refine s_bu ?_ ?_<;>intro hb|refine yy ?_|refine at_nil ?_;refine z_nil qo8_4 ?_|refine tc_seq fun K hK=>?_|refine j5 6 ?_;refine j2 [] kp4 ?_|apply_assumption -exfalso -symm)
  (refine j0 (j6 ?_))
  simp only[oneOf,V.d.injEq,D.bool.injEq]
  exact(j9.2 (y3 hk2 (by omega) hi)).symm
theorem ma3 (gl:List (Nat × List D))(a b:List ByteArray):FnD prog gl 82 [.d (.list 1 (a.map (fun x=>.str (x)))),.d (.list 1 (b.map (fun x=>.str (x))))] (fun v=>v=.d (.bool (eqB a b))):=by
 (refine j4 func82 ntmps82 results82 fun w M=>?_)
 refine r7 0 rfl fun hna=>?_
 refine r7 1 rfl fun hnb=>?_
 simp only[List.length_map]at hna hnb
 (repeat' first|refine yyp ?_;try refine s_bu ?_ ?_<;>intro hb|refine yy ?_|refine yy2 ?_ ?_<;>intro hcmp|refine at_nil ?_;refine z_nil qo8_6 ?_|refine tc_seq fun K hK=>?_|refine j5 6 ?_;refine j2 [] jj2 ?_|apply_assumption -exfalso -symm)
 ·(refine j0 (j6 ?_))
  simp only[oneOf,V.d.injEq,D.bool.injEq]
  exact(r8.2 fun e=>hcmp (by rw[e])).symm
 have hlen:a.length=b.length:=by omega
 refine k9 qs3 [] (fun k:Nat=>[(5,.d (.int .i64 k))]) (fun _=>[]) (fun k=>k<=a.length/\a.take k=b.take k) (fun k=>a.length - k) 0 ⟨Nat.zero_le _,rfl⟩ fun k ⟨hk,hi⟩=>?_
 dsimp only[List.cons_append,List.nil_append]
 rcases Nat.lt_or_ge k a.length with hk2|hk2
 ·have hk3:k<b.length:=by omega
  (repeat' first|refine yyp ?_;try refine s_bu ?_ ?_<;>intro hb|refine yy ?_|refine yy2 ?_ ?_<;>intro hcmp|refine at_nil ?_;refine z_nil qo8_6 ?_|refine tc_seq fun K hK=>?_|refine j5 6 ?_;refine j2 [] jj2 ?_|apply_assumption -exfalso -symm)
  all_goals try simp only[Decidable.not_not,ne_eq]at hcmp
  all_goals first
   |(refine⟨k+1,⟨by omega,x6 hk2 hk3 hi (by first|exact j9.1 hb|exact hcmp|exact hcmp)⟩,by omega,v7⟩)
   |((refine j0 (j6 ?_))
     simp only[oneOf,V.d.injEq,D.bool.injEq]
     exact(r8.2 (y8 hk2 hk3 (by first|exact r8.1 hb|exact hcmp|exact hcmp))).symm)
 ·(repeat' first|refine yyp ?_;try refine s_bu ?_ ?_<;>intro hb|refine yy ?_|refine at_nil ?_;refine z_nil qo8_6 ?_|refine tc_seq fun K hK=>?_|refine j5 6 ?_;refine j2 [] jj2 ?_|apply_assumption -exfalso -symm)
  (refine j0 (j6 ?_))
  simp only[oneOf,V.d.injEq,D.bool.injEq]
  exact(j9.2 (y3 hk2 (by omega) hi)).symm
theorem ma4 (gl:List (Nat × List D))(a b:List Int):FnD prog gl 123 [.d (.list 1 (a.map (fun x=>.int .u8 (x)))),.d (.list 1 (b.map (fun x=>.int .u8 (x))))] (fun v=>v=.d (.bool (eqB a b))):=by
 (refine j4 func123 ntmps123 results123 fun w M=>?_)
 refine r7 0 rfl fun hna=>?_
 refine r7 1 rfl fun hnb=>?_
 simp only[List.length_map]at hna hnb
 (repeat' first|refine yyp ?_;try refine s_bu ?_ ?_<;>intro hb|refine yy ?_|refine yy2 ?_ ?_<;>intro hcmp|refine at_nil ?_;refine z_nil qo8_6 ?_|refine tc_seq fun K hK=>?_|refine j5 6 ?_;refine j2 [] jj2 ?_|apply_assumption -exfalso -symm)
 ·(refine j0 (j6 ?_))
  simp only[oneOf,V.d.injEq,D.bool.injEq]
  exact(r8.2 fun e=>hcmp (by rw[e])).symm
 have hlen:a.length=b.length:=by omega
 refine k9 qs3 [] (fun k:Nat=>[(5,.d (.int .i64 k))]) (fun _=>[]) (fun k=>k<=a.length/\a.take k=b.take k) (fun k=>a.length - k) 0 ⟨Nat.zero_le _,rfl⟩ fun k ⟨hk,hi⟩=>?_
 dsimp only[List.cons_append,List.nil_append]
 rcases Nat.lt_or_ge k a.length with hk2|hk2
 ·have hk3:k<b.length:=by omega
  (repeat' first|refine yyp ?_;try refine s_bu ?_ ?_<;>intro hb|refine yy ?_|refine yy2 ?_ ?_<;>intro hcmp|refine at_nil ?_;refine z_nil qo8_6 ?_|refine tc_seq fun K hK=>?_|refine j5 6 ?_;refine j2 [] jj2 ?_|apply_assumption -exfalso -symm)
  all_goals try simp only[Decidable.not_not,ne_eq]at hcmp
  all_goals first
   |(refine⟨k+1,⟨by omega,x6 hk2 hk3 hi (by first|exact j9.1 hb|exact hcmp|exact hcmp)⟩,by omega,v7⟩)
   |((refine j0 (j6 ?_))
     simp only[oneOf,V.d.injEq,D.bool.injEq]
     exact(r8.2 (y8 hk2 hk3 (by first|exact r8.1 hb|exact hcmp|exact hcmp))).symm)
 ·(repeat' first|refine yyp ?_;try refine s_bu ?_ ?_<;>intro hb|refine yy ?_|refine at_nil ?_;refine z_nil qo8_6 ?_|refine tc_seq fun K hK=>?_|refine j5 6 ?_;refine j2 [] jj2 ?_|apply_assumption -exfalso -symm)
  (refine j0 (j6 ?_))
  simp only[oneOf,V.d.injEq,D.bool.injEq]
  exact(j9.2 (y3 hk2 (by omega) hi)).symm
theorem kv8 (gl:List (Nat × List D))(a b:List Gu)(h:∀ x∈a,∀ y:Gu,FnD prog gl 81 [.d (dGu (x)),.d (dGu (y))] (fun v=>v=.d (.bool (eqB x y)))):FnD prog gl 46 [.d (.list 23 (a.map (fun x=>dGu (x)))),.d (.list 23 (b.map (fun x=>dGu (x))))] (fun v=>v=.d (.bool (eqB a b))):=by
 simp only[jg4]at h ⊢
 (refine j4 func46 ntmps46 results46 fun w M=>?_)
 refine r7 0 rfl fun hna=>?_
 refine r7 1 rfl fun hnb=>?_
 simp only[List.length_map]at hna hnb
 (repeat' first|refine yyp ?_;try refine s_bu ?_ ?_<;>intro hb|refine yy ?_|refine yy2 ?_ ?_<;>intro hcmp|refine at_nil ?_;refine z_nil qo8_4 ?_|refine tc_seq fun K hK=>?_|refine j5 6 ?_;refine j2 [] kp4 ?_|apply_assumption -exfalso -symm)
 ·(refine j0 (j6 ?_))
  simp only[oneOf,V.d.injEq,D.bool.injEq]
  exact(r8.2 fun e=>hcmp (by rw[e])).symm
 have hlen:a.length=b.length:=by omega
 refine k9 qs2 [] (fun k:Nat=>[(5,.d (.int .i64 k))]) (fun _=>[]) (fun k=>k<=a.length/\a.take k=b.take k) (fun k=>a.length - k) 0 ⟨Nat.zero_le _,rfl⟩ fun k ⟨hk,hi⟩=>?_
 dsimp only[List.cons_append,List.nil_append]
 rcases Nat.lt_or_ge k a.length with hk2|hk2
 ·have hk3:k<b.length:=by omega
  have hone:=h a[k] (List.getElem_mem _) b[k]
  (repeat' first|refine yyp ?_;try refine s_bu ?_ ?_<;>intro hb|refine yy ?_|refine at_call 81 ?_;refine y_call (hc:=hone) ?_;try refine s_bu ?_ ?_<;>intro hb|refine at_nil ?_;refine z_nil qo8_4 ?_|refine tc_seq fun K hK=>?_|refine j5 6 ?_;refine j2 [] kp4 ?_|apply_assumption -exfalso -symm)
  all_goals try simp only[Decidable.not_not,ne_eq]at hcmp
  all_goals first
   |(refine⟨k+1,⟨by omega,x6 hk2 hk3 hi (by first|exact j9.1 hb|exact hcmp|exact hcmp)⟩,by omega,v7⟩)
   |((refine j0 (j6 ?_))
     simp only[oneOf,V.d.injEq,D.bool.injEq]
     exact(r8.2 (y8 hk2 hk3 (by first|exact r8.1 hb|exact hcmp|exact hcmp))).symm)
 ·(repeat' first|refine yyp ?_;try refine s_bu ?_ ?_<;>intro hb|refine yy ?_|refine at_nil ?_;refine z_nil qo8_4 ?_|refine tc_seq fun K hK=>?_|refine j5 6 ?_;refine j2 [] kp4 ?_|apply_assumption -exfalso -symm)
  (refine j0 (j6 ?_))
  simp only[oneOf,V.d.injEq,D.bool.injEq]
  exact(j9.2 (y3 hk2 (by omega) hi)).symm
theorem kd5 (gl:List (Nat × List D))(a b:List Pr)(h:∀ x∈a,∀ y:Pr,FnD prog gl 19 [.d (dPr (x)),.d (dPr (y))] (fun v=>v=.d (.bool (eqB x y)))):FnD prog gl 47 [.d (.list 42 (a.map (fun x=>dPr (x)))),.d (.list 42 (b.map (fun x=>dPr (x))))] (fun v=>v=.d (.bool (eqB a b))):=by
 simp only[x5]at h ⊢
 (refine j4 func47 ntmps47 results47 fun w M=>?_)
 refine r7 0 rfl fun hna=>?_
 refine r7 1 rfl fun hnb=>?_
 simp only[List.length_map]at hna hnb
 (repeat' first|refine yyp ?_;try refine s_bu ?_ ?_<;>intro hb|refine yy ?_|refine yy2 ?_ ?_<;>intro hcmp|refine at_nil ?_;refine z_nil qo8_4 ?_|refine tc_seq fun K hK=>?_|refine j5 6 ?_;refine j2 [] kp4 ?_|apply_assumption -exfalso -symm)
 ·(refine j0 (j6 ?_))
  simp only[oneOf,V.d.injEq,D.bool.injEq]
  exact(r8.2 fun e=>hcmp (by rw[e])).symm
 have hlen:a.length=b.length:=by omega
 refine k9 qs2 [] (fun k:Nat=>[(5,.d (.int .i64 k))]) (fun _=>[]) (fun k=>k<=a.length/\a.take k=b.take k) (fun k=>a.length - k) 0 ⟨Nat.zero_le _,rfl⟩ fun k ⟨hk,hi⟩=>?_
 dsimp only[List.cons_append,List.nil_append]
 rcases Nat.lt_or_ge k a.length with hk2|hk2
 ·have hk3:k<b.length:=by omega
  have hone:=h a[k] (List.getElem_mem _) b[k]
  (repeat' first|refine yyp ?_;try refine s_bu ?_ ?_<;>intro hb|refine yy ?_|refine at_call 19 ?_;refine y_call (hc:=hone) ?_;try refine s_bu ?_ ?_<;>intro hb|refine at_nil ?_;refine z_nil qo8_4 ?_|refine tc_seq fun K hK=>?_|refine j5 6 ?_;refine j2 [] kp4 ?_|apply_assumption -exfalso -symm)
  all_goals try simp only[Decidable.not_not,ne_eq]at hcmp
  all_goals first
   |(refine⟨k+1,⟨by omega,x6 hk2 hk3 hi (by first|exact j9.1 hb|exact hcmp|exact hcmp)⟩,by omega,v7⟩)
   |((refine j0 (j6 ?_))
     simp only[oneOf,V.d.injEq,D.bool.injEq]
     exact(r8.2 (y8 hk2 hk3 (by first|exact r8.1 hb|exact hcmp|exact hcmp))).symm)
 ·(repeat' first|refine yyp ?_;try refine s_bu ?_ ?_<;>intro hb|refine yy ?_|refine at_nil ?_;refine z_nil qo8_4 ?_|refine tc_seq fun K hK=>?_|refine j5 6 ?_;refine j2 [] kp4 ?_|apply_assumption -exfalso -symm)
  (refine j0 (j6 ?_))
  simp only[oneOf,V.d.injEq,D.bool.injEq]
  exact(j9.2 (y3 hk2 (by omega) hi)).symm
theorem kk8 (gl:List (Nat × List D))(a b:List ByteArray):FnD prog gl 14 [.d (.list 1 (a.map (fun x=>.str (x)))),.d (.list 1 (b.map (fun x=>.str (x))))] (fun v=>v=.d (.bool (eqB a b))):=by
 (refine j4 func14 ntmps14 results14 fun w M=>?_)
 refine r7 0 rfl fun hna=>?_
 refine r7 1 rfl fun hnb=>?_
 simp only[List.length_map]at hna hnb
 (repeat' first|refine yyp ?_;try refine s_bu ?_ ?_<;>intro hb|refine yy ?_|refine yy2 ?_ ?_<;>intro hcmp|refine at_nil ?_;refine z_nil qo8_6 ?_|refine tc_seq fun K hK=>?_|refine j5 6 ?_;refine j2 [] jj2 ?_|apply_assumption -exfalso -symm)
 ·(refine j0 (j6 ?_))
  simp only[oneOf,V.d.injEq,D.bool.injEq]
  exact(r8.2 fun e=>hcmp (by rw[e])).symm
 have hlen:a.length=b.length:=by omega
 refine k9 qs3 [] (fun k:Nat=>[(5,.d (.int .i64 k))]) (fun _=>[]) (fun k=>k<=a.length/\a.take k=b.take k) (fun k=>a.length - k) 0 ⟨Nat.zero_le _,rfl⟩ fun k ⟨hk,hi⟩=>?_
 dsimp only[List.cons_append,List.nil_append]
 rcases Nat.lt_or_ge k a.length with hk2|hk2
 ·have hk3:k<b.length:=by omega
  (repeat' first|refine yyp ?_;try refine s_bu ?_ ?_<;>intro hb|refine yy ?_|refine yy2 ?_ ?_<;>intro hcmp|refine at_nil ?_;refine z_nil qo8_6 ?_|refine tc_seq fun K hK=>?_|refine j5 6 ?_;refine j2 [] jj2 ?_|apply_assumption -exfalso -symm)
  all_goals try simp only[Decidable.not_not,ne_eq]at hcmp
  all_goals first
   |(refine⟨k+1,⟨by omega,x6 hk2 hk3 hi (by first|exact j9.1 hb|exact hcmp|exact hcmp)⟩,by omega,v7⟩)
   |((refine j0 (j6 ?_))
     simp only[oneOf,V.d.injEq,D.bool.injEq]
     exact(r8.2 (y8 hk2 hk3 (by first|exact r8.1 hb|exact hcmp|exact hcmp))).symm)
 ·(repeat' first|refine yyp ?_;try refine s_bu ?_ ?_<;>intro hb|refine yy ?_|refine at_nil ?_;refine z_nil qo8_6 ?_|refine tc_seq fun K hK=>?_|refine j5 6 ?_;refine j2 [] jj2 ?_|apply_assumption -exfalso -symm)
  (refine j0 (j6 ?_))
  simp only[oneOf,V.d.injEq,D.bool.injEq]
  exact(j9.2 (y3 hk2 (by omega) hi)).symm
end
end Go.Proofs.YtdopmfifmgkmoaaGreatDoor
