/- Parts: O7. -/
import Derived.Test.YtdopmfifmgkmoaaGreatDoorP20
import Derived.Test.YtdopmfifmgkmoaaGreatDoorP21
set_option linter.all false
set_option maxRecDepth 100000
set_option maxHeartbeats 16000000
namespace Go.Proofs.YtdopmfifmgkmoaaGreatDoor
open Go.RowKit Go.Proofs.Tryz
section
def qo7_0:List Nat:=[0,1,4,5,6,7,8,9,16]
def ma2:List Nat:=[4,5,8,9,10,11,12,13,14,15,16,17,18]
def qo7_2:List Nat:=[0,1,4,5,6,7]
def qo7_3:List Nat:=[0,1,2,4,5,6,7,8]
theorem jm3 {α:Type}(p:α->Bool):∀ l:List α,l.any (fun x=>!p x)=!l.all p
 |[]=>rfl
 |x::l=>by rw[List.any_cons,List.all_cons,jm3 p l,Bool.not_and]
attribute [local irreducible] TR TC
theorem qr8 (gl:List (Nat × List D))(x:Ex)(b:Bool)(h:FnE prog gl 141 [.d (dEx (x))] [] (fun v H1=>v=.d (.bool b)/\H1=[])):
 FnE prog gl 179 [.d (dEx (x)),.ptr 5 0] [(5,.box [.clo (.func 141) [] []])] (fun v H1=>v=.d (.bool (!b))/\H1=[(5,.box [.clo (.func 141) [] []])]):=by
 simp only[r9]at h ⊢
 (refine j3 func179 ntmps179 results179 fun w M E b0=>?_)
 (repeat' first|refine tr_at 2 ?_;(refine k7 2 ?_)|refine tr_at 6 ?_;refine y_callE (hc:=h) ?_;try refine s_bu ?_ ?_<;>intro hb|refine yyp ?_;try refine s_bu ?_ ?_<;>intro hb|refine yy ?_|refine at_nil ?_;refine z_nil [0,1,2,3,4,5,6] ?_|refine tc_seq fun K hK=>?_|apply_assumption -exfalso -symm)
 all_goals (refine j0 (j7 ⟨?_,rfl⟩))
 all_goals simp only[oneOf, *,Bool.not_true,Bool.not_false]
theorem qr9 (gl:List (Nat × List D))(q:Ex->Bool)(l:List Ex)(h:∀ (k:Nat) (hk:k<l.length),FnE prog gl 179 [.d (dEx (l[k])),.ptr 5 0] [(5,.box [.clo (.func 141) [] []])] (fun v H1=>v=.d (.bool (q l[k]))/\H1=[(5,.box [.clo (.func 141) [] []])])):
 FnE prog gl 202 [.d (.list 6 (l.map (fun x=>dEx (x)))),.clo (.func 179) [] [.ptr 5 0]] [(5,.box [.clo (.func 141) [] []])] (fun v H1=>v=.d (.int .i64 (jd6 q l))/\H1=[(5,.box [.clo (.func 141) [] []])]):=by
 simp only[r9]at h ⊢
 (refine j3 func202 ntmps202 results202 fun w M E b0=>?_)
 refine r7 0 rfl fun hn=>?_
 simp only[List.length_map]at hn
 (repeat' first|refine yyp ?_;try refine s_bu ?_ ?_<;>intro hb|refine yy ?_|refine at_nil ?_;refine z_nil qo7_0 ?_|refine tc_seq fun K hK=>?_|apply_assumption -exfalso -symm)
 refine k9 ma2 [] (fun k:Nat=>[(8,.d (.int .i64 k))]) (fun _=>[]) (fun k=>k<=l.length/\jd6 q l=if jd6 q (l.drop k)<0 then -1 else jd6 q (l.drop k)+k) (fun k=>l.length - k) 0 ⟨Nat.zero_le _,by have:=n8 q l;simp only[List.drop_zero];split<;>omega⟩ fun k ⟨hk,hi⟩=>?_
 dsimp only[List.cons_append,List.nil_append]
 have hlo:=n8 q (l.drop (k+1))
 rcases Nat.lt_or_ge k l.length with hk2|hk2
 ·have hone:=h k hk2
  (repeat' first|refine tr_at 16 ?_;refine y_callE (hc:=hone) ?_;try refine s_bu ?_ ?_<;>intro hb|refine yyp ?_;try refine s_bu ?_ ?_<;>intro hb|refine yy ?_|refine at_nil ?_;refine z_nil qo7_0 ?_|refine tc_seq fun K hK=>?_|apply_assumption -exfalso -symm)
  ·(refine j0 (j7 ⟨?_,rfl⟩))
   rw[hi,z8 _ _ _ hk2,if_pos hb]
   simp[oneOf]
  ·refine⟨k+1,⟨by omega,?_⟩,by omega,v7⟩
   rw[hi,z8 _ _ _ hk2,if_neg (show ¬q l[k]=true by rw[hb];exact Bool.false_ne_true)]
   split<;>split<;>(try split)<;>omega
 ·(repeat' first|refine yyp ?_;try refine s_bu ?_ ?_<;>intro hb|refine yy ?_|refine at_nil ?_;refine z_nil qo7_0 ?_|refine tc_seq fun K hK=>?_|apply_assumption -exfalso -symm)
  (refine j0 (j7 ⟨?_,rfl⟩))
  have:k=l.length:=by omega
  rw[hi,this,List.drop_length]
  simp[oneOf,jd6]
theorem qs0 (gl:List (Nat × List D))(q:Ex->Bool)(l:List Ex)(h:∀ (k:Nat) (hk:k<l.length),FnE prog gl 179 [.d (dEx (l[k])),.ptr 5 0] [(5,.box [.clo (.func 141) [] []])] (fun v H1=>v=.d (.bool (q l[k]))/\H1=[(5,.box [.clo (.func 141) [] []])])):
 FnE prog gl 178 [.d (.list 6 (l.map (fun x=>dEx (x)))),.clo (.func 179) [] [.ptr 5 0]] [(5,.box [.clo (.func 141) [] []])] (fun v H1=>v=.d (.bool (l.any q))/\H1=[(5,.box [.clo (.func 141) [] []])]):=by
 have hix:=qr9 gl q l h
 have hany:=je0 q l
 (refine j3 func178 ntmps178 results178 fun w M E b0=>?_)
 (repeat' first|refine tr_at 7 ?_;refine y_callE (hc:=hix) ?_|refine yyp ?_;try refine s_bu ?_ ?_<;>intro hb|refine yy ?_|refine yy2 ?_ ?_<;>intro hcmp|refine at_nil ?_;refine z_nil qo7_2 ?_|refine tc_seq fun K hK=>?_|apply_assumption -exfalso -symm)
 all_goals (refine j0 (j7 ⟨?_,rfl⟩))
 all_goals simp only[oneOf,V.d.injEq,D.bool.injEq]
 all_goals first
  |exact(hany.1 (by omega)).symm
  |(symm;cases ha:l.any q with
   |false=>rfl
   |true=>exfalso;have:=hany.2 ha;omega)
theorem kv7 (gl:List (Nat × List D))(p:Ex->Bool)(l:List Ex)(a b:Int)(h:∀ x∈l,FnE prog gl 141 [.d (dEx (x))] [] (fun v H1=>v=.d (.bool (p x))/\H1=[])):
 FnE prog gl 143 [.d (.list 6 (l.map (fun x=>dEx (x)))),.d (.agg [.int .i64 a,.int .i64 b]),.clo (.func 141) [] []] [] (fun v H1=>v=.d (.bool (Lx.eachB l a b p))/\H1=[]):=by
 have hcf:=qs0 gl (fun x=>!p x) l fun k hk=>qr8 gl l[k] (p l[k]) (h _ (List.getElem_mem _))
 rw[jm3]at hcf
 (refine j3 func143 ntmps143 results143 fun w M E b0=>?_)
 (repeat' first|refine tr_at 4 ?_;(refine k7 4 ?_)|refine tr_at 5 ?_;(refine k7 5 ?_)|refine tr_at 14 ?_;refine y_callE (hc:=hcf) ?_;try refine s_bu ?_ ?_<;>intro hb|refine yyp ?_;try refine s_bu ?_ ?_<;>intro hb|refine yy ?_|refine at_call 137 ?_;refine y_call (hc:=(kd1 gl a b l.length)) ?_;try refine s_bu ?_ ?_<;>intro hb|refine at_nil ?_;refine z_nil qo7_3 ?_|refine tc_seq fun K hK=>?_|apply_assumption -exfalso -symm)
 all_goals (refine j0 (j7 ⟨?_,rfl⟩))
 all_goals simp only[oneOf,Lx.eachB, *,Bool.true_and,Bool.false_and,Bool.not_not,Bool.not_true,Bool.not_false]
 all_goals (try (simp_all;done))
theorem qz3 (gl:List (Nat × List D))(x:Ex)(b:Bool)(h:FnE prog gl 144 [.d (dEx (x))] [] (fun v H1=>v=.d (.bool b)/\H1=[])):
 FnE prog gl 179 [.d (dEx (x)),.ptr 5 0] [(5,.box [.clo (.func 144) [] []])] (fun v H1=>v=.d (.bool (!b))/\H1=[(5,.box [.clo (.func 144) [] []])]):=by
 simp only[r9]at h ⊢
 (refine j3 func179 ntmps179 results179 fun w M E b0=>?_)
 (repeat' first|refine tr_at 2 ?_;(refine k7 2 ?_)|refine tr_at 6 ?_;refine y_callE (hc:=h) ?_;try refine s_bu ?_ ?_<;>intro hb|refine yyp ?_;try refine s_bu ?_ ?_<;>intro hb|refine yy ?_|refine at_nil ?_;refine z_nil [0,1,2,3,4,5,6] ?_|refine tc_seq fun K hK=>?_|apply_assumption -exfalso -symm)
 all_goals (refine j0 (j7 ⟨?_,rfl⟩))
 all_goals simp only[oneOf, *,Bool.not_true,Bool.not_false]
theorem qz4 (gl:List (Nat × List D))(q:Ex->Bool)(l:List Ex)(h:∀ (k:Nat) (hk:k<l.length),FnE prog gl 179 [.d (dEx (l[k])),.ptr 5 0] [(5,.box [.clo (.func 144) [] []])] (fun v H1=>v=.d (.bool (q l[k]))/\H1=[(5,.box [.clo (.func 144) [] []])])):
 FnE prog gl 202 [.d (.list 6 (l.map (fun x=>dEx (x)))),.clo (.func 179) [] [.ptr 5 0]] [(5,.box [.clo (.func 144) [] []])] (fun v H1=>v=.d (.int .i64 (jd6 q l))/\H1=[(5,.box [.clo (.func 144) [] []])]):=by
 simp only[r9]at h ⊢
 (refine j3 func202 ntmps202 results202 fun w M E b0=>?_)
 refine r7 0 rfl fun hn=>?_
 simp only[List.length_map]at hn
 (repeat' first|refine yyp ?_;try refine s_bu ?_ ?_<;>intro hb|refine yy ?_|refine at_nil ?_;refine z_nil qo7_0 ?_|refine tc_seq fun K hK=>?_|apply_assumption -exfalso -symm)
 refine k9 ma2 [] (fun k:Nat=>[(8,.d (.int .i64 k))]) (fun _=>[]) (fun k=>k<=l.length/\jd6 q l=if jd6 q (l.drop k)<0 then -1 else jd6 q (l.drop k)+k) (fun k=>l.length - k) 0 ⟨Nat.zero_le _,by have:=n8 q l;simp only[List.drop_zero];split<;>omega⟩ fun k ⟨hk,hi⟩=>?_
 dsimp only[List.cons_append,List.nil_append]
 have hlo:=n8 q (l.drop (k+1))
 rcases Nat.lt_or_ge k l.length with hk2|hk2
 ·have hone:=h k hk2
  (repeat' first|refine tr_at 16 ?_;refine y_callE (hc:=hone) ?_;try refine s_bu ?_ ?_<;>intro hb|refine yyp ?_;try refine s_bu ?_ ?_<;>intro hb|refine yy ?_|refine at_nil ?_;refine z_nil qo7_0 ?_|refine tc_seq fun K hK=>?_|apply_assumption -exfalso -symm)
  ·(refine j0 (j7 ⟨?_,rfl⟩))
   rw[hi,z8 _ _ _ hk2,if_pos hb]
   simp[oneOf]
  ·refine⟨k+1,⟨by omega,?_⟩,by omega,v7⟩
   rw[hi,z8 _ _ _ hk2,if_neg (show ¬q l[k]=true by rw[hb];exact Bool.false_ne_true)]
   split<;>split<;>(try split)<;>omega
 ·(repeat' first|refine yyp ?_;try refine s_bu ?_ ?_<;>intro hb|refine yy ?_|refine at_nil ?_;refine z_nil qo7_0 ?_|refine tc_seq fun K hK=>?_|apply_assumption -exfalso -symm)
  (refine j0 (j7 ⟨?_,rfl⟩))
  have:k=l.length:=by omega
  rw[hi,this,List.drop_length]
  simp[oneOf,jd6]
theorem qz5 (gl:List (Nat × List D))(q:Ex->Bool)(l:List Ex)(h:∀ (k:Nat) (hk:k<l.length),FnE prog gl 179 [.d (dEx (l[k])),.ptr 5 0] [(5,.box [.clo (.func 144) [] []])] (fun v H1=>v=.d (.bool (q l[k]))/\H1=[(5,.box [.clo (.func 144) [] []])])):
 FnE prog gl 178 [.d (.list 6 (l.map (fun x=>dEx (x)))),.clo (.func 179) [] [.ptr 5 0]] [(5,.box [.clo (.func 144) [] []])] (fun v H1=>v=.d (.bool (l.any q))/\H1=[(5,.box [.clo (.func 144) [] []])]):=by
 have hix:=qz4 gl q l h
 have hany:=je0 q l
 (refine j3 func178 ntmps178 results178 fun w M E b0=>?_)
 (repeat' first|refine tr_at 7 ?_;refine y_callE (hc:=hix) ?_|refine yyp ?_;try refine s_bu ?_ ?_<;>intro hb|refine yy ?_|refine yy2 ?_ ?_<;>intro hcmp|refine at_nil ?_;refine z_nil qo7_2 ?_|refine tc_seq fun K hK=>?_|apply_assumption -exfalso -symm)
 all_goals (refine j0 (j7 ⟨?_,rfl⟩))
 all_goals simp only[oneOf,V.d.injEq,D.bool.injEq]
 all_goals first
  |exact(hany.1 (by omega)).symm
  |(symm;cases ha:l.any q with
   |false=>rfl
   |true=>exfalso;have:=hany.2 ha;omega)
theorem me8 (gl:List (Nat × List D))(p:Ex->Bool)(l:List Ex)(a b:Int)(h:∀ x∈l,FnE prog gl 144 [.d (dEx (x))] [] (fun v H1=>v=.d (.bool (p x))/\H1=[])):
 FnE prog gl 143 [.d (.list 6 (l.map (fun x=>dEx (x)))),.d (.agg [.int .i64 a,.int .i64 b]),.clo (.func 144) [] []] [] (fun v H1=>v=.d (.bool (Lx.eachB l a b p))/\H1=[]):=by
 have hcf:=qz5 gl (fun x=>!p x) l fun k hk=>qz3 gl l[k] (p l[k]) (h _ (List.getElem_mem _))
 rw[jm3]at hcf
 (refine j3 func143 ntmps143 results143 fun w M E b0=>?_)
 (repeat' first|refine tr_at 4 ?_;(refine k7 4 ?_)|refine tr_at 5 ?_;(refine k7 5 ?_)|refine tr_at 14 ?_;refine y_callE (hc:=hcf) ?_;try refine s_bu ?_ ?_<;>intro hb|refine yyp ?_;try refine s_bu ?_ ?_<;>intro hb|refine yy ?_|refine at_call 137 ?_;refine y_call (hc:=(kd1 gl a b l.length)) ?_;try refine s_bu ?_ ?_<;>intro hb|refine at_nil ?_;refine z_nil qo7_3 ?_|refine tc_seq fun K hK=>?_|apply_assumption -exfalso -symm)
 all_goals (refine j0 (j7 ⟨?_,rfl⟩))
 all_goals simp only[oneOf,Lx.eachB, *,Bool.true_and,Bool.false_and,Bool.not_not,Bool.not_true,Bool.not_false]
 all_goals (try (simp_all;done))
theorem re1 (gl:List (Nat × List D))(x:Fo)(b:Bool)(h:FnE prog gl 188 [.d (dFo (x))] [] (fun v H1=>v=.d (.bool b)/\H1=[])):
 FnE prog gl 210 [.d (dFo (x)),.ptr 5 0] [(5,.box [.clo (.func 188) [] []])] (fun v H1=>v=.d (.bool (!b))/\H1=[(5,.box [.clo (.func 188) [] []])]):=by
 (refine j3 func210 ntmps210 results210 fun w M E b0=>?_)
 (repeat' first|refine tr_at 2 ?_;(refine k7 2 ?_)|refine tr_at 6 ?_;refine y_callE (hc:=h) ?_;try refine s_bu ?_ ?_<;>intro hb|refine yyp ?_;try refine s_bu ?_ ?_<;>intro hb|refine yy ?_|refine at_nil ?_;refine z_nil [0,1,2,3,4,5,6] ?_|refine tc_seq fun K hK=>?_|apply_assumption -exfalso -symm)
 all_goals (refine j0 (j7 ⟨?_,rfl⟩))
 all_goals simp only[oneOf, *,Bool.not_true,Bool.not_false]
theorem re2 (gl:List (Nat × List D))(q:Fo->Bool)(l:List Fo)(h:∀ (k:Nat) (hk:k<l.length),FnE prog gl 210 [.d (dFo (l[k])),.ptr 5 0] [(5,.box [.clo (.func 188) [] []])] (fun v H1=>v=.d (.bool (q l[k]))/\H1=[(5,.box [.clo (.func 188) [] []])])):
 FnE prog gl 223 [.d (.list 6 (l.map (fun x=>dFo (x)))),.clo (.func 210) [] [.ptr 5 0]] [(5,.box [.clo (.func 188) [] []])] (fun v H1=>v=.d (.int .i64 (jd6 q l))/\H1=[(5,.box [.clo (.func 188) [] []])]):=by
 (refine j3 func223 ntmps223 results223 fun w M E b0=>?_)
 refine r7 0 rfl fun hn=>?_
 simp only[List.length_map]at hn
 (repeat' first|refine yyp ?_;try refine s_bu ?_ ?_<;>intro hb|refine yy ?_|refine at_nil ?_;refine z_nil qo7_0 ?_|refine tc_seq fun K hK=>?_|apply_assumption -exfalso -symm)
 refine k9 ma2 [] (fun k:Nat=>[(8,.d (.int .i64 k))]) (fun _=>[]) (fun k=>k<=l.length/\jd6 q l=if jd6 q (l.drop k)<0 then -1 else jd6 q (l.drop k)+k) (fun k=>l.length - k) 0 ⟨Nat.zero_le _,by have:=n8 q l;simp only[List.drop_zero];split<;>omega⟩ fun k ⟨hk,hi⟩=>?_
 dsimp only[List.cons_append,List.nil_append]
 have hlo:=n8 q (l.drop (k+1))
 rcases Nat.lt_or_ge k l.length with hk2|hk2
 ·have hone:=h k hk2
  (repeat' first|refine tr_at 16 ?_;refine y_callE (hc:=hone) ?_;try refine s_bu ?_ ?_<;>intro hb|refine yyp ?_;try refine s_bu ?_ ?_<;>intro hb|refine yy ?_|refine at_nil ?_;refine z_nil qo7_0 ?_|refine tc_seq fun K hK=>?_|apply_assumption -exfalso -symm)
  ·(refine j0 (j7 ⟨?_,rfl⟩))
   rw[hi,z8 _ _ _ hk2,if_pos hb]
   simp[oneOf]
  ·refine⟨k+1,⟨by omega,?_⟩,by omega,v7⟩
   rw[hi,z8 _ _ _ hk2,if_neg (show ¬q l[k]=true by rw[hb];exact Bool.false_ne_true)]
   split<;>split<;>(try split)<;>omega
 ·(repeat' first|refine yyp ?_;try refine s_bu ?_ ?_<;>intro hb|refine yy ?_|refine at_nil ?_;refine z_nil qo7_0 ?_|refine tc_seq fun K hK=>?_|apply_assumption -exfalso -symm)
  (refine j0 (j7 ⟨?_,rfl⟩))
  have:k=l.length:=by omega
  rw[hi,this,List.drop_length]
  simp[oneOf,jd6]
theorem re3 (gl:List (Nat × List D))(q:Fo->Bool)(l:List Fo)(h:∀ (k:Nat) (hk:k<l.length),FnE prog gl 210 [.d (dFo (l[k])),.ptr 5 0] [(5,.box [.clo (.func 188) [] []])] (fun v H1=>v=.d (.bool (q l[k]))/\H1=[(5,.box [.clo (.func 188) [] []])])):
 FnE prog gl 209 [.d (.list 6 (l.map (fun x=>dFo (x)))),.clo (.func 210) [] [.ptr 5 0]] [(5,.box [.clo (.func 188) [] []])] (fun v H1=>v=.d (.bool (l.any q))/\H1=[(5,.box [.clo (.func 188) [] []])]):=by
 have hix:=re2 gl q l h
 have hany:=je0 q l
 (refine j3 func209 ntmps209 results209 fun w M E b0=>?_)
 (repeat' first|refine tr_at 7 ?_;refine y_callE (hc:=hix) ?_|refine yyp ?_;try refine s_bu ?_ ?_<;>intro hb|refine yy ?_|refine yy2 ?_ ?_<;>intro hcmp|refine at_nil ?_;refine z_nil qo7_2 ?_|refine tc_seq fun K hK=>?_|apply_assumption -exfalso -symm)
 all_goals (refine j0 (j7 ⟨?_,rfl⟩))
 all_goals simp only[oneOf,V.d.injEq,D.bool.injEq]
 all_goals first
  |exact(hany.1 (by omega)).symm
  |(symm;cases ha:l.any q with
   |false=>rfl
   |true=>exfalso;have:=hany.2 ha;omega)
theorem qs1 (gl:List (Nat × List D))(p:Fo->Bool)(l:List Fo)(a b:Int)(h:∀ x∈l,FnE prog gl 188 [.d (dFo (x))] [] (fun v H1=>v=.d (.bool (p x))/\H1=[])):
 FnE prog gl 187 [.d (.list 6 (l.map (fun x=>dFo (x)))),.d (.agg [.int .i64 a,.int .i64 b]),.clo (.func 188) [] []] [] (fun v H1=>v=.d (.bool (Lx.eachB l a b p))/\H1=[]):=by
 have hcf:=re3 gl (fun x=>!p x) l fun k hk=>re1 gl l[k] (p l[k]) (h _ (List.getElem_mem _))
 rw[jm3]at hcf
 (refine j3 func187 ntmps187 results187 fun w M E b0=>?_)
 (repeat' first|refine tr_at 4 ?_;(refine k7 4 ?_)|refine tr_at 5 ?_;(refine k7 5 ?_)|refine tr_at 14 ?_;refine y_callE (hc:=hcf) ?_;try refine s_bu ?_ ?_<;>intro hb|refine yyp ?_;try refine s_bu ?_ ?_<;>intro hb|refine yy ?_|refine at_call 137 ?_;refine y_call (hc:=(kd1 gl a b l.length)) ?_;try refine s_bu ?_ ?_<;>intro hb|refine at_nil ?_;refine z_nil qo7_3 ?_|refine tc_seq fun K hK=>?_|apply_assumption -exfalso -symm)
 all_goals (refine j0 (j7 ⟨?_,rfl⟩))
 all_goals simp only[oneOf,Lx.eachB, *,Bool.true_and,Bool.false_and,Bool.not_not,Bool.not_true,Bool.not_false]
 all_goals (try (simp_all;done))
theorem qz6 (gl:List (Nat × List D))(x:ByteArray)(b:Bool)(h:FnE prog gl 140 [.d (.str (x))] [] (fun v H1=>v=.d (.bool b)/\H1=[])):
 FnE prog gl 212 [.d (.str (x)),.ptr 5 0] [(5,.box [.clo (.func 140) [] []])] (fun v H1=>v=.d (.bool (!b))/\H1=[(5,.box [.clo (.func 140) [] []])]):=by
 (refine j3 func212 ntmps212 results212 fun w M E b0=>?_)
 (repeat' first|refine tr_at 6 ?_;refine y_callE (hc:=h) ?_;try refine s_bu ?_ ?_<;>intro hb|refine yyp ?_;try refine s_bu ?_ ?_<;>intro hb|refine yy ?_|refine at_nil ?_;refine z_nil [0,1,3,4,5,6] ?_|refine tc_seq fun K hK=>?_|apply_assumption -exfalso -symm)
 all_goals (refine j0 (j7 ⟨?_,rfl⟩))
 all_goals simp only[oneOf, *,Bool.not_true,Bool.not_false]
theorem qz7 (gl:List (Nat × List D))(q:ByteArray->Bool)(l:List ByteArray)(h:∀ (k:Nat) (hk:k<l.length),FnE prog gl 212 [.d (.str (l[k])),.ptr 5 0] [(5,.box [.clo (.func 140) [] []])] (fun v H1=>v=.d (.bool (q l[k]))/\H1=[(5,.box [.clo (.func 140) [] []])])):
 FnE prog gl 224 [.d (.list 1 (l.map (fun x=>.str (x)))),.clo (.func 212) [] [.ptr 5 0]] [(5,.box [.clo (.func 140) [] []])] (fun v H1=>v=.d (.int .i64 (jd6 q l))/\H1=[(5,.box [.clo (.func 140) [] []])]):=by
 (refine j3 func224 ntmps224 results224 fun w M E b0=>?_)
 refine r7 0 rfl fun hn=>?_
 simp only[List.length_map]at hn
 (repeat' first|refine yyp ?_;try refine s_bu ?_ ?_<;>intro hb|refine yy ?_|refine at_nil ?_;refine z_nil qo7_0 ?_|refine tc_seq fun K hK=>?_|apply_assumption -exfalso -symm)
 refine k9 ma2 [] (fun k:Nat=>[(8,.d (.int .i64 k))]) (fun _=>[]) (fun k=>k<=l.length/\jd6 q l=if jd6 q (l.drop k)<0 then -1 else jd6 q (l.drop k)+k) (fun k=>l.length - k) 0 ⟨Nat.zero_le _,by have:=n8 q l;simp only[List.drop_zero];split<;>omega⟩ fun k ⟨hk,hi⟩=>?_
 dsimp only[List.cons_append,List.nil_append]
 have hlo:=n8 q (l.drop (k+1))
 rcases Nat.lt_or_ge k l.length with hk2|hk2
 ·have hone:=h k hk2
  (repeat' first|refine tr_at 16 ?_;refine y_callE (hc:=hone) ?_;try refine s_bu ?_ ?_<;>intro hb|refine yyp ?_;try refine s_bu ?_ ?_<;>intro hb|refine yy ?_|refine at_nil ?_;refine z_nil qo7_0 ?_|refine tc_seq fun K hK=>?_|apply_assumption -exfalso -symm)
  ·(refine j0 (j7 ⟨?_,rfl⟩))
   rw[hi,z8 _ _ _ hk2,if_pos hb]
   simp[oneOf]
  ·refine⟨k+1,⟨by omega,?_⟩,by omega,v7⟩
   rw[hi,z8 _ _ _ hk2,if_neg (show ¬q l[k]=true by rw[hb];exact Bool.false_ne_true)]
   split<;>split<;>(try split)<;>omega
 ·(repeat' first|refine yyp ?_;try refine s_bu ?_ ?_<;>intro hb|refine yy ?_|refine at_nil ?_;refine z_nil qo7_0 ?_|refine tc_seq fun K hK=>?_|apply_assumption -exfalso -symm)
  (refine j0 (j7 ⟨?_,rfl⟩))
  have:k=l.length:=by omega
  rw[hi,this,List.drop_length]
  simp[oneOf,jd6]
theorem qz8 (gl:List (Nat × List D))(q:ByteArray->Bool)(l:List ByteArray)(h:∀ (k:Nat) (hk:k<l.length),FnE prog gl 212 [.d (.str (l[k])),.ptr 5 0] [(5,.box [.clo (.func 140) [] []])] (fun v H1=>v=.d (.bool (q l[k]))/\H1=[(5,.box [.clo (.func 140) [] []])])):
 FnE prog gl 211 [.d (.list 1 (l.map (fun x=>.str (x)))),.clo (.func 212) [] [.ptr 5 0]] [(5,.box [.clo (.func 140) [] []])] (fun v H1=>v=.d (.bool (l.any q))/\H1=[(5,.box [.clo (.func 140) [] []])]):=by
 have hix:=qz7 gl q l h
 have hany:=je0 q l
 (refine j3 func211 ntmps211 results211 fun w M E b0=>?_)
 (repeat' first|refine tr_at 7 ?_;refine y_callE (hc:=hix) ?_|refine yyp ?_;try refine s_bu ?_ ?_<;>intro hb|refine yy ?_|refine yy2 ?_ ?_<;>intro hcmp|refine at_nil ?_;refine z_nil qo7_2 ?_|refine tc_seq fun K hK=>?_|apply_assumption -exfalso -symm)
 all_goals (refine j0 (j7 ⟨?_,rfl⟩))
 all_goals simp only[oneOf,V.d.injEq,D.bool.injEq]
 all_goals first
  |exact(hany.1 (by omega)).symm
  |(symm;cases ha:l.any q with
   |false=>rfl
   |true=>exfalso;have:=hany.2 ha;omega)
theorem qg3 (gl:List (Nat × List D))(p:ByteArray->Bool)(l:List ByteArray)(a b:Int)(h:∀ x∈l,FnE prog gl 140 [.d (.str (x))] [] (fun v H1=>v=.d (.bool (p x))/\H1=[])):
 FnE prog gl 189 [.d (.list 1 (l.map (fun x=>.str (x)))),.d (.agg [.int .i64 a,.int .i64 b]),.clo (.func 140) [] []] [] (fun v H1=>v=.d (.bool (Lx.eachB l a b p))/\H1=[]):=by
 have hcf:=qz8 gl (fun x=>!p x) l fun k hk=>qz6 gl l[k] (p l[k]) (h _ (List.getElem_mem _))
 rw[jm3]at hcf
 (refine j3 func189 ntmps189 results189 fun w M E b0=>?_)
 (repeat' first|refine tr_at 4 ?_;(refine k7 4 ?_)|refine tr_at 5 ?_;(refine k7 5 ?_)|refine tr_at 14 ?_;refine y_callE (hc:=hcf) ?_;try refine s_bu ?_ ?_<;>intro hb|refine yyp ?_;try refine s_bu ?_ ?_<;>intro hb|refine yy ?_|refine at_call 137 ?_;refine y_call (hc:=(kd1 gl a b l.length)) ?_;try refine s_bu ?_ ?_<;>intro hb|refine at_nil ?_;refine z_nil qo7_3 ?_|refine tc_seq fun K hK=>?_|apply_assumption -exfalso -symm)
 all_goals (refine j0 (j7 ⟨?_,rfl⟩))
 all_goals simp only[oneOf,Lx.eachB, *,Bool.true_and,Bool.false_and,Bool.not_not,Bool.not_true,Bool.not_false]
 all_goals (try (simp_all;done))
theorem qz9 (gl:List (Nat × List D))(x:Int)(b:Bool)(h:FnE prog gl 146 [.d (.int .i64 (x))] [] (fun v H1=>v=.d (.bool b)/\H1=[])):
 FnE prog gl 183 [.d (.int .i64 (x)),.ptr 5 0] [(5,.box [.clo (.func 146) [] []])] (fun v H1=>v=.d (.bool (!b))/\H1=[(5,.box [.clo (.func 146) [] []])]):=by
 (refine j3 func183 ntmps183 results183 fun w M E b0=>?_)
 (repeat' first|refine tr_at 6 ?_;refine y_callE (hc:=h) ?_;try refine s_bu ?_ ?_<;>intro hb|refine yyp ?_;try refine s_bu ?_ ?_<;>intro hb|refine yy ?_|refine at_nil ?_;refine z_nil [0,1,3,4,5,6] ?_|refine tc_seq fun K hK=>?_|apply_assumption -exfalso -symm)
 all_goals (refine j0 (j7 ⟨?_,rfl⟩))
 all_goals simp only[oneOf, *,Bool.not_true,Bool.not_false]
theorem ra0 (gl:List (Nat × List D))(q:Int->Bool)(l:List Int)(h:∀ (k:Nat) (hk:k<l.length),FnE prog gl 183 [.d (.int .i64 (l[k])),.ptr 5 0] [(5,.box [.clo (.func 146) [] []])] (fun v H1=>v=.d (.bool (q l[k]))/\H1=[(5,.box [.clo (.func 146) [] []])])):
 FnE prog gl 204 [.d (.list 1 (l.map (fun x=>.int .i64 (x)))),.clo (.func 183) [] [.ptr 5 0]] [(5,.box [.clo (.func 146) [] []])] (fun v H1=>v=.d (.int .i64 (jd6 q l))/\H1=[(5,.box [.clo (.func 146) [] []])]):=by
 (refine j3 func204 ntmps204 results204 fun w M E b0=>?_)
 refine r7 0 rfl fun hn=>?_
 simp only[List.length_map]at hn
 (repeat' first|refine yyp ?_;try refine s_bu ?_ ?_<;>intro hb|refine yy ?_|refine at_nil ?_;refine z_nil qo7_0 ?_|refine tc_seq fun K hK=>?_|apply_assumption -exfalso -symm)
 refine k9 ma2 [] (fun k:Nat=>[(8,.d (.int .i64 k))]) (fun _=>[]) (fun k=>k<=l.length/\jd6 q l=if jd6 q (l.drop k)<0 then -1 else jd6 q (l.drop k)+k) (fun k=>l.length - k) 0 ⟨Nat.zero_le _,by have:=n8 q l;simp only[List.drop_zero];split<;>omega⟩ fun k ⟨hk,hi⟩=>?_
 dsimp only[List.cons_append,List.nil_append]
 have hlo:=n8 q (l.drop (k+1))
 rcases Nat.lt_or_ge k l.length with hk2|hk2
 ·have hone:=h k hk2
  (repeat' first|refine tr_at 16 ?_;refine y_callE (hc:=hone) ?_;try refine s_bu ?_ ?_<;>intro hb|refine yyp ?_;try refine s_bu ?_ ?_<;>intro hb|refine yy ?_|refine at_nil ?_;refine z_nil qo7_0 ?_|refine tc_seq fun K hK=>?_|apply_assumption -exfalso -symm)
  ·(refine j0 (j7 ⟨?_,rfl⟩))
   rw[hi,z8 _ _ _ hk2,if_pos hb]
   simp[oneOf]
  ·refine⟨k+1,⟨by omega,?_⟩,by omega,v7⟩
   rw[hi,z8 _ _ _ hk2,if_neg (show ¬q l[k]=true by rw[hb];exact Bool.false_ne_true)]
   split<;>split<;>(try split)<;>omega
 ·(repeat' first|refine yyp ?_;try refine s_bu ?_ ?_<;>intro hb|refine yy ?_|refine at_nil ?_;refine z_nil qo7_0 ?_|refine tc_seq fun K hK=>?_|apply_assumption -exfalso -symm)
  (refine j0 (j7 ⟨?_,rfl⟩))
  have:k=l.length:=by omega
  rw[hi,this,List.drop_length]
  simp[oneOf,jd6]
theorem ra1 (gl:List (Nat × List D))(q:Int->Bool)(l:List Int)(h:∀ (k:Nat) (hk:k<l.length),FnE prog gl 183 [.d (.int .i64 (l[k])),.ptr 5 0] [(5,.box [.clo (.func 146) [] []])] (fun v H1=>v=.d (.bool (q l[k]))/\H1=[(5,.box [.clo (.func 146) [] []])])):
 FnE prog gl 182 [.d (.list 1 (l.map (fun x=>.int .i64 (x)))),.clo (.func 183) [] [.ptr 5 0]] [(5,.box [.clo (.func 146) [] []])] (fun v H1=>v=.d (.bool (l.any q))/\H1=[(5,.box [.clo (.func 146) [] []])]):=by
 have hix:=ra0 gl q l h
 have hany:=je0 q l
 (refine j3 func182 ntmps182 results182 fun w M E b0=>?_)
 (repeat' first|refine tr_at 7 ?_;refine y_callE (hc:=hix) ?_|refine yyp ?_;try refine s_bu ?_ ?_<;>intro hb|refine yy ?_|refine yy2 ?_ ?_<;>intro hcmp|refine at_nil ?_;refine z_nil qo7_2 ?_|refine tc_seq fun K hK=>?_|apply_assumption -exfalso -symm)
 all_goals (refine j0 (j7 ⟨?_,rfl⟩))
 all_goals simp only[oneOf,V.d.injEq,D.bool.injEq]
 all_goals first
  |exact(hany.1 (by omega)).symm
  |(symm;cases ha:l.any q with
   |false=>rfl
   |true=>exfalso;have:=hany.2 ha;omega)
theorem qg4 (gl:List (Nat × List D))(p:Int->Bool)(l:List Int)(a b:Int)(h:∀ x∈l,FnE prog gl 146 [.d (.int .i64 (x))] [] (fun v H1=>v=.d (.bool (p x))/\H1=[])):
 FnE prog gl 145 [.d (.list 1 (l.map (fun x=>.int .i64 (x)))),.d (.agg [.int .i64 a,.int .i64 b]),.clo (.func 146) [] []] [] (fun v H1=>v=.d (.bool (Lx.eachB l a b p))/\H1=[]):=by
 have hcf:=ra1 gl (fun x=>!p x) l fun k hk=>qz9 gl l[k] (p l[k]) (h _ (List.getElem_mem _))
 rw[jm3]at hcf
 (refine j3 func145 ntmps145 results145 fun w M E b0=>?_)
 (repeat' first|refine tr_at 4 ?_;(refine k7 4 ?_)|refine tr_at 5 ?_;(refine k7 5 ?_)|refine tr_at 14 ?_;refine y_callE (hc:=hcf) ?_;try refine s_bu ?_ ?_<;>intro hb|refine yyp ?_;try refine s_bu ?_ ?_<;>intro hb|refine yy ?_|refine at_call 137 ?_;refine y_call (hc:=(kd1 gl a b l.length)) ?_;try refine s_bu ?_ ?_<;>intro hb|refine at_nil ?_;refine z_nil qo7_3 ?_|refine tc_seq fun K hK=>?_|apply_assumption -exfalso -symm)
 all_goals (refine j0 (j7 ⟨?_,rfl⟩))
 all_goals simp only[oneOf,Lx.eachB, *,Bool.true_and,Bool.false_and,Bool.not_not,Bool.not_true,Bool.not_false]
 all_goals (try (simp_all;done))
theorem re4 (gl:List (Nat × List D))(q:Int->Bool)(l:List Int)(h:∀ (k:Nat) (hk:k<l.length),FnE prog gl 221 [.d (.int .u8 (l[k]))] [] (fun v H1=>v=.d (.bool (q l[k]))/\H1=[])):
 FnE prog gl 231 [.d (.list 1 (l.map (fun x=>.int .u8 (x)))),.clo (.func 221) [] []] [] (fun v H1=>v=.d (.int .i64 (jd6 q l))/\H1=[]):=by
 (refine j3 func231 ntmps231 results231 fun w M E b0=>?_)
 refine r7 0 rfl fun hn=>?_
 simp only[List.length_map]at hn
 (repeat' first|refine yyp ?_;try refine s_bu ?_ ?_<;>intro hb|refine yy ?_|refine at_nil ?_;refine z_nil qo7_0 ?_|refine tc_seq fun K hK=>?_|apply_assumption -exfalso -symm)
 refine k9 ma2 [] (fun k:Nat=>[(8,.d (.int .i64 k))]) (fun _=>[]) (fun k=>k<=l.length/\jd6 q l=if jd6 q (l.drop k)<0 then -1 else jd6 q (l.drop k)+k) (fun k=>l.length - k) 0 ⟨Nat.zero_le _,by have:=n8 q l;simp only[List.drop_zero];split<;>omega⟩ fun k ⟨hk,hi⟩=>?_
 dsimp only[List.cons_append,List.nil_append]
 have hlo:=n8 q (l.drop (k+1))
 rcases Nat.lt_or_ge k l.length with hk2|hk2
 ·have hone:=h k hk2
  (repeat' first|refine tr_at 16 ?_;refine y_callE (hc:=hone) ?_;try refine s_bu ?_ ?_<;>intro hb|refine yyp ?_;try refine s_bu ?_ ?_<;>intro hb|refine yy ?_|refine at_nil ?_;refine z_nil qo7_0 ?_|refine tc_seq fun K hK=>?_|apply_assumption -exfalso -symm)
  ·(refine j0 (j7 ⟨?_,rfl⟩))
   rw[hi,z8 _ _ _ hk2,if_pos hb]
   simp[oneOf]
  ·refine⟨k+1,⟨by omega,?_⟩,by omega,v7⟩
   rw[hi,z8 _ _ _ hk2,if_neg (show ¬q l[k]=true by rw[hb];exact Bool.false_ne_true)]
   split<;>split<;>(try split)<;>omega
 ·(repeat' first|refine yyp ?_;try refine s_bu ?_ ?_<;>intro hb|refine yy ?_|refine at_nil ?_;refine z_nil qo7_0 ?_|refine tc_seq fun K hK=>?_|apply_assumption -exfalso -symm)
  (refine j0 (j7 ⟨?_,rfl⟩))
  have:k=l.length:=by omega
  rw[hi,this,List.drop_length]
  simp[oneOf,jd6]
theorem re5 (gl:List (Nat × List D))(q:Int->Bool)(l:List Int)(h:∀ (k:Nat) (hk:k<l.length),FnE prog gl 221 [.d (.int .u8 (l[k]))] [] (fun v H1=>v=.d (.bool (q l[k]))/\H1=[])):
 FnE prog gl 220 [.d (.list 1 (l.map (fun x=>.int .u8 (x)))),.clo (.func 221) [] []] [] (fun v H1=>v=.d (.bool (l.any q))/\H1=[]):=by
 have hix:=re4 gl q l h
 have hany:=je0 q l
 (refine j3 func220 ntmps220 results220 fun w M E b0=>?_)
 (repeat' first|refine tr_at 7 ?_;refine y_callE (hc:=hix) ?_|refine yyp ?_;try refine s_bu ?_ ?_<;>intro hb|refine yy ?_|refine yy2 ?_ ?_<;>intro hcmp|refine at_nil ?_;refine z_nil qo7_2 ?_|refine tc_seq fun K hK=>?_|apply_assumption -exfalso -symm)
 all_goals (refine j0 (j7 ⟨?_,rfl⟩))
 all_goals simp only[oneOf,V.d.injEq,D.bool.injEq]
 all_goals first
  |exact(hany.1 (by omega)).symm
  |(symm;cases ha:l.any q with
   |false=>rfl
   |true=>exfalso;have:=hany.2 ha;omega)
theorem re6 (gl:List (Nat × List D))(tag:ByteArray)(items:List D)(q:Va->Bool)(l:List Va)(h:∀ (k:Nat) (hk:k<l.length),FnE prog gl 208 [.d (dVa (l[k])),.ptr 4 0] [(4,.box [.d (.str tag),.d (.list 1 items)])] (fun v H1=>v=.d (.bool (q l[k]))/\H1=[(4,.box [.d (.str tag),.d (.list 1 items)])])):
 FnE prog gl 222 [.d (.list 2 (l.map (fun x=>dVa (x)))),.clo (.func 208) [] [.ptr 4 0]] [(4,.box [.d (.str tag),.d (.list 1 items)])] (fun v H1=>v=.d (.int .i64 (jd6 q l))/\H1=[(4,.box [.d (.str tag),.d (.list 1 items)])]):=by
 (refine j3 func222 ntmps222 results222 fun w M E b0=>?_)
 refine r7 0 rfl fun hn=>?_
 simp only[List.length_map]at hn
 (repeat' first|refine yyp ?_;try refine s_bu ?_ ?_<;>intro hb|refine yy ?_|refine at_nil ?_;refine z_nil qo7_0 ?_|refine tc_seq fun K hK=>?_|apply_assumption -exfalso -symm)
 refine k9 ma2 [] (fun k:Nat=>[(8,.d (.int .i64 k))]) (fun _=>[]) (fun k=>k<=l.length/\jd6 q l=if jd6 q (l.drop k)<0 then -1 else jd6 q (l.drop k)+k) (fun k=>l.length - k) 0 ⟨Nat.zero_le _,by have:=n8 q l;simp only[List.drop_zero];split<;>omega⟩ fun k ⟨hk,hi⟩=>?_
 dsimp only[List.cons_append,List.nil_append]
 have hlo:=n8 q (l.drop (k+1))
 rcases Nat.lt_or_ge k l.length with hk2|hk2
 ·have hone:=h k hk2
  (repeat' first|refine tr_at 16 ?_;refine y_callE (hc:=hone) ?_;try refine s_bu ?_ ?_<;>intro hb|refine yyp ?_;try refine s_bu ?_ ?_<;>intro hb|refine yy ?_|refine at_nil ?_;refine z_nil qo7_0 ?_|refine tc_seq fun K hK=>?_|apply_assumption -exfalso -symm)
  ·(refine j0 (j7 ⟨?_,rfl⟩))
   rw[hi,z8 _ _ _ hk2,if_pos hb]
   simp[oneOf]
  ·refine⟨k+1,⟨by omega,?_⟩,by omega,v7⟩
   rw[hi,z8 _ _ _ hk2,if_neg (show ¬q l[k]=true by rw[hb];exact Bool.false_ne_true)]
   split<;>split<;>(try split)<;>omega
 ·(repeat' first|refine yyp ?_;try refine s_bu ?_ ?_<;>intro hb|refine yy ?_|refine at_nil ?_;refine z_nil qo7_0 ?_|refine tc_seq fun K hK=>?_|apply_assumption -exfalso -symm)
  (refine j0 (j7 ⟨?_,rfl⟩))
  have:k=l.length:=by omega
  rw[hi,this,List.drop_length]
  simp[oneOf,jd6]
theorem re7 (gl:List (Nat × List D))(tag:ByteArray)(items:List D)(q:Va->Bool)(l:List Va)(h:∀ (k:Nat) (hk:k<l.length),FnE prog gl 208 [.d (dVa (l[k])),.ptr 4 0] [(4,.box [.d (.str tag),.d (.list 1 items)])] (fun v H1=>v=.d (.bool (q l[k]))/\H1=[(4,.box [.d (.str tag),.d (.list 1 items)])])):
 FnE prog gl 207 [.d (.list 2 (l.map (fun x=>dVa (x)))),.clo (.func 208) [] [.ptr 4 0]] [(4,.box [.d (.str tag),.d (.list 1 items)])] (fun v H1=>v=.d (.bool (l.any q))/\H1=[(4,.box [.d (.str tag),.d (.list 1 items)])]):=by
 have hix:=re6 gl tag items q l h
 have hany:=je0 q l
 (refine j3 func207 ntmps207 results207 fun w M E b0=>?_)
 (repeat' first|refine tr_at 7 ?_;refine y_callE (hc:=hix) ?_|refine yyp ?_;try refine s_bu ?_ ?_<;>intro hb|refine yy ?_|refine yy2 ?_ ?_<;>intro hcmp|refine at_nil ?_;refine z_nil qo7_2 ?_|refine tc_seq fun K hK=>?_|apply_assumption -exfalso -symm)
 all_goals (refine j0 (j7 ⟨?_,rfl⟩))
 all_goals simp only[oneOf,V.d.injEq,D.bool.injEq]
 all_goals first
  |exact(hany.1 (by omega)).symm
  |(symm;cases ha:l.any q with
   |false=>rfl
   |true=>exfalso;have:=hany.2 ha;omega)
end
end Go.Proofs.YtdopmfifmgkmoaaGreatDoor
