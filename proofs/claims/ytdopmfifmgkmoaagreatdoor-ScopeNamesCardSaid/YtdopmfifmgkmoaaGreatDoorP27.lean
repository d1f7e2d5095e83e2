/- Parts: O20, O21. -/
import Derived.Test.YtdopmfifmgkmoaaGreatDoorP26
set_option linter.all false
set_option maxRecDepth 100000
set_option maxHeartbeats 16000000
namespace Go.Proofs.YtdopmfifmgkmoaaGreatDoor
open Go.RowKit Go.Proofs.Tryz
section
def qo20_0:List Nat:=[0,1,4,5,6,7,8,9,16]
def qo20_1:List Nat:=[0,1,2,3,4,5,6,13,22,23,26,32]
variable {mm:Int}
theorem rb5 (l:List Int)(y:Int):0<=jd6 (fun x=>decide (x=y)) l↔l.any (fun x=>decide (x=y))=true:=je0 _ l
attribute [local irreducible] TR TC
theorem mb0 (gl:List (Nat × List D))(l:List Int)(y:Int):FnD prog gl 198 [.d (.list 1 (l.map (.int .u8))),.d (.int .u8 y)] (fun v=>v=.d (.int .i64 (jd6 (fun x=>decide (x=y)) l))):=by
 (refine j4 func198 ntmps198 results198 fun w M=>?_)
 refine r7 0 rfl fun hn=>?_
 simp only[List.length_map]at hn
 (repeat' first|refine yyp ?_;try refine s_bu ?_ ?_<;>intro hb|refine yy ?_|refine at_nil ?_;refine z_nil qo20_0 ?_|refine tc_seq fun K hK=>?_|apply_assumption -exfalso -symm)
 refine k9 [4,5,8,9,10,11,12,13,14,15,16,17,18] [] (fun k:Nat=>[(8,.d (.int .i64 k))]) (fun _=>[]) (fun k=>k<=l.length/\jd6 (fun x=>decide (x=y)) l=if jd6 (fun x=>decide (x=y)) (l.drop k)<0 then -1 else jd6 (fun x=>decide (x=y)) (l.drop k)+k) (fun k=>l.length - k) 0 ⟨Nat.zero_le _,by have:=n8 (fun x=>decide (x=y)) l;simp only[List.drop_zero];split<;>omega⟩ fun k ⟨hk,hi⟩=>?_
 dsimp only[List.cons_append,List.nil_append]
 have hlo:=n8 (fun x=>decide (x=y)) (l.drop (k+1))
 rcases Nat.lt_or_ge k l.length with hk2|hk2
 ·rw[z8 _ _ _ hk2]at hi
  (repeat' first|refine yyp ?_;try refine s_bu ?_ ?_<;>intro hb|refine yy ?_|refine yy2 ?_ ?_<;>intro hcmp|refine at_nil ?_;refine z_nil qo20_0 ?_|refine tc_seq fun K hK=>?_|apply_assumption -exfalso -symm)
  ·(refine j0 (j6 ?_))
   rw[hi,if_pos (decide_eq_true hcmp.symm)]
   simp[oneOf]
  ·refine⟨k+1,⟨by omega,?_⟩,by omega,v7⟩
   rw[hi,if_neg (show ¬decide (l[k]=y)=true by rw[decide_eq_true_eq];exact fun e=>hcmp e.symm)]
   split<;>split<;>(try split)<;>omega
 ·(repeat' first|refine yyp ?_;try refine s_bu ?_ ?_<;>intro hb|refine yy ?_|refine at_nil ?_;refine z_nil qo20_0 ?_|refine tc_seq fun K hK=>?_|apply_assumption -exfalso -symm)
  (refine j0 (j6 ?_))
  rw[hi,List.drop_of_length_le hk2]
  simp[oneOf,jd6]
theorem ki9 (gl:List (Nat × List D))(l:List Int)(y:Int):FnD prog gl 172 [.d (.list 1 (l.map (.int .u8))),.d (.int .u8 y)] (fun v=>v=.d (.bool (l.any fun x=>decide (x=y)))):=by
 have hany:=rb5 l y
 (refine j4 func172 ntmps172 results172 fun w M=>?_)
 (repeat' first|refine yyp ?_;try refine s_bu ?_ ?_<;>intro hb|refine yy ?_|refine yy2 ?_ ?_<;>intro hcmp|refine at_call 198 ?_;refine y_call (hc:=(mb0 gl l y)) ?_|refine at_nil ?_;refine z_nil [0,1,4,5,6,7] ?_|refine tc_seq fun K hK=>?_|apply_assumption -exfalso -symm)
 all_goals (refine j0 (j6 ?_))
 all_goals simp only[oneOf,V.d.injEq,D.bool.injEq]
 all_goals first
  |exact(hany.1 (by omega)).symm
  |(symm;cases ha:l.any (fun x=>decide (x=y)) with
   |false=>rfl
   |true=>exfalso;have:=hany.2 ha;omega)
def kd9 (g:Gu):List D:=[.int .u8 g.kind,.str g.name,
    .int .u8 g.cond.kind,.int .u8 g.cond.op,.int .u8 g.cond.ty,.int .i32 g.cond.n,.str g.cond.s,.list 6 (g.cond.l.map dEx),
    .int .u8 g.chan.kind,.int .u8 g.chan.op,.int .u8 g.chan.ty,.int .i32 g.chan.n,.str g.chan.s,.list 6 (g.chan.l.map dEx),
    .list 6 (g.targets.map dEx),.list 6 (g.values.map dEx),
    .int .u8 g.time.kind,.int .u8 g.time.op,.int .u8 g.time.ty,.int .i32 g.time.n,.str g.time.s,.list 6 (g.time.l.map dEx),
    .list 42 (g.body.map dPr)]
theorem jt3 (gl:List (Nat × List D))(g:Gu)(l:List Int):FnE prog gl 171 [.d (.list 1 (l.map (.int .u8))),.d (.ref (kd9 g) 0)] [] (fun v H1=>v=.d (.bool (l.any fun x=>decide (x=g.kind)))/\H1=[]):=by
 refine FnE.ofD ?_ (by(repeat (first|exact Pures.nil|apply Pures.cons (Pure.d _)|apply Pures.cons (Pure.nils _)));fail_if_success intros)
 (refine j4 func171 ntmps171 results171 fun w M=>?_)
 (repeat' first|refine yyp ?_|refine yy ?_|refine at_call 172 ?_;refine y_call (hc:=(ki9 gl l g.kind)) ?_|refine at_nil ?_;refine z_nil [0,1,3,4,5,6] ?_|refine tc_seq fun K hK=>?_|apply_assumption -exfalso -symm)
 all_goals (refine j0 (j6 ?_))
 all_goals rfl
theorem qh8 (g:Gu):FnD prog (glS mm) 136 [.d (dGu g)] (fun v=>v=.d (.bool (Lx.guMay g))):=by
 have hk1:=jt3 (glS mm) g [1,2,3,4]
 have hk2:=jt3 (glS mm) g [7]
 have hk3:=jt3 (glS mm) g [3,4]
 have hk4:=jt3 (glS mm) g [4]
 have c1:=ji1 (mm:=mm) g.cond
 have c2:=jw5 (glS mm) g.cond
 have c3:=jj9 (mm:=mm) g.chan
 have c4:=jw5 (glS mm) g.chan
 have c5:=ji1 (mm:=mm) g.time
 have c6:=jw5 (glS mm) g.time
 have t1:=fun a b=>kv7 (glS mm) Lx.elemB g.targets a b fun x _=>FnE.ofD (jj9 (mm:=mm) x) (by(repeat (first|exact Pures.nil|apply Pures.cons (Pure.d _)|apply Pures.cons (Pure.nils _)));fail_if_success intros)
 have t2:=fun a b=>me8 (glS mm) Lx.exMay g.values a b fun x _=>FnE.ofD (ji1 (mm:=mm) x) (by(repeat (first|exact Pures.nil|apply Pures.cons (Pure.d _)|apply Pures.cons (Pure.nils _)));fail_if_success intros)
 have hn:=ji0 (mm:=mm) g.name
 simp only[r9]at c1 c2 c3 c4 c5 c6
 rw[jg4]
 (refine j4 func136 ntmps136 results136 fun w M=>?_)
 refine tc_seq fun K0 h0=>?_
 (refine x8 (id:=0) ?_;(repeat' first|refine tr_at 1 ?_;(refine k7 1 ?_)|refine yyp ?_;try refine s_bu ?_ ?_<;>intro hb|refine at_nil ?_;refine z_nil qo20_1 ?_))
 refine h0 _ ?_
 refine jm1 (t:=1) (env':=[(2,.d (.bool false)),(0,.d (dG g))]) (H':=[]) rfl rfl (by repeat (first|exact .nil|apply Frz.cons (.d _))) rfl (by(repeat (first|exact Sub.nil|apply Sub.cons rfl));fail_if_success intros) (by(repeat (first|exact Sub.nil|apply Sub.cons rfl));fail_if_success intros) rfl rfl ?_
 refine tc_seq fun K1 h1=>?_
 (refine x8 (id:=1) ?_;(repeat' first|refine yyp ?_;try refine s_bu ?_ ?_<;>intro hb|refine at_nil ?_;refine z_nil qo20_1 ?_))
 refine h1 _ ?_
 refine tc_seq fun K2 h2=>?_
 (refine x8 (id:=2) ?_;(repeat' first|refine yyp ?_|refine at_call 144 ?_;refine y_call (hc:=c1) ?_|refine at_nil ?_;refine z_nil qo20_1 ?_))
 refine h2 _ ?_
 refine z7 (ι:=Bool) (fun x=>⟨[(4,.d (.bool x)),(3,.clo (.func 171) [] [.d (.ref (kd9 g) 0)]),(1,.d (.ref (kd9 g) 0)),(2,.d (.bool false)),(0,.d (dG g))],[],glS mm⟩) (fun x=>x=(Lx.exMay g.cond || ((decide (g.kind=3) || decide (g.kind=4)) && Lx.noneB g.cond))) ?_ ?_
 ·(repeat' first|refine tr_at 12 ?_;(refine z_lit 12 ?_)|refine tr_at 13 ?_;refine y_callG (hc:=hk3) ?_;try refine s_bu ?_ ?_<;>intro hb|refine tr_at 15 ?_;refine yyp ?_;try refine s_bu ?_ ?_<;>intro hb|refine yyp ?_|refine yy ?_|refine at_call 142 ?_;refine y_call (hc:=c2) ?_|refine at_nil ?_;refine z_nil qo20_1 ?_|refine tc_seq fun K hK=>?_|refine j5 14 ?_;(try dsimp only[List.append]);refine j2 [] qo20_2 ?_|apply_assumption -exfalso -symm)
  all_goals
   refine⟨_,?_,v7⟩
   clear hk1 hk2 hk3 hk4 t1 t2 hn c1 c2 c3 c4 c5 c6
   (repeat (rename (∀ S:Sd,TC _ _ _ S->_)=>hX;clear hX))
   try simp only[List.any_cons,List.any_nil,Bool.or_false]at hb
   grind
 intro b hbe
 refine tc_seq fun K5 h5=>?_
 (refine x8 (id:=5) ?_;(repeat' first|refine tr_at 20 ?_;refine z_p w_buildn ?_|refine tr_at 5 ?_;(refine j1 5 ?_)|refine yy ?_|refine at_nil ?_;refine z_nil qo20_1 ?_))
 refine h5 _ ?_
 refine z7 (ι:=Int × Int) (fun x=>⟨[(5,.ptr 5 0),(4,.d (.bool b)),(3,.clo (.func 171) [] [.d (.ref (kd9 g) 0)]),(1,.d (.ref (kd9 g) 0)),(2,.d (.bool false)),(0,.d (dG g))],[(5,.box [.d (.int .i64 x.1),.d (.int .i64 x.2)])],glS mm⟩) (fun x=>x.1=(if g.kind=3 then 1 else 0)/\x.2=(if g.kind=3\/g.kind=7 then 8 else 0)) ?_ ?_
 ·(repeat' first|refine tr_at 23 ?_;refine yyp ?_;try refine s_bu ?_ ?_<;>intro hb|refine tr_at 26 ?_;refine yyp ?_;try refine s_bu ?_ ?_<;>intro hb|refine tr_at 28 ?_;refine z_p w_buildn ?_|refine yyp ?_|refine yy ?_|refine yy2 ?_ ?_<;>intro hcmp|refine at_nil ?_;refine z_nil qo20_1 ?_|refine tc_seq fun K hK=>?_|refine j5 14 ?_;(try dsimp only[List.append]);refine j2 [] qo20_2 ?_|apply_assumption -exfalso -symm)
  all_goals
   refine⟨(_,_),?_,v7⟩
   simp only[*,if_true,if_false,true_or,or_true,or_self,Int.reduceEq,and_self]
 rintro⟨a1,a2⟩ ⟨e1,e2⟩
 dsimp only at e1 e2 ⊢
 refine tc_seq fun K11 h11=>?_
 (refine x8 (id:=11) ?_;(repeat' first|refine tr_at 29 ?_;refine z_p w_buildn ?_|refine tr_at 6 ?_;(refine j1 6 ?_)|refine yy ?_|refine at_nil ?_;refine z_nil qo20_1 ?_))
 refine h11 _ ?_
 refine z7 (ι:=Int × Int) (fun x=>⟨[(6,.ptr 6 0),(5,.ptr 5 0),(4,.d (.bool b)),(3,.clo (.func 171) [] [.d (.ref (kd9 g) 0)]),(1,.d (.ref (kd9 g) 0)),(2,.d (.bool false)),(0,.d (dG g))],[(6,.box [.d (.int .i64 x.1),.d (.int .i64 x.2)]),(5,.box [.d (.int .i64 a1),.d (.int .i64 a2)])],glS mm⟩) (fun x=>x.1=(if g.kind=5 then 1 else 0)/\x.2=(if g.kind=5 then 8 else 0)) ?_ ?_
 ·(repeat' first|refine yyp ?_|refine yy ?_|refine yy2 ?_ ?_<;>intro hcmp|refine at_nil ?_;refine z_nil qo20_1 ?_|refine tc_seq fun K hK=>?_|refine j5 14 ?_;(try dsimp only[List.append]);refine j2 [] qo20_2 ?_|apply_assumption -exfalso -symm)
  all_goals
   refine⟨(_,_),?_,v7⟩
   simp only[*,if_true,if_false,and_self]
 rintro⟨a3,a4⟩ ⟨e3,e4⟩
 dsimp only at e3 e4 ⊢
 as_aux_lemma=>
  (repeat' first|refine tr_at 37 ?_;(refine tr_keep [0,1,2,3,4,5,6,13,22,23,26,32,36,37,38,39,40,41,42,43,44,45,46,47,48,49,50,51,52,53,54,55,56,57,58,59,60,61,62,63,64,65,66,67,68,69,70,71,72,73,74,75,76,77,78,79,80,81,82,83,84,85,86,87,88,89,90,91,92,93,94,95,96,97,98,99,100,101,102,103,104,105] ?_);(first|refine yyp ?_;try refine s_bu ?_ ?_<;>intro hb|refine yy2 ?_ ?_<;>intro hcmp);all_goals try refine z_sh false 37 2 qo20_1 ?_|refine tr_at 42 ?_;(refine tr_keep [0,1,2,3,4,5,6,13,22,23,26,32,41,42,43,44,45,46,47,48,49,50,51,52,53,54,55,56,57,58,59,60,61,62,63,64,65,66,67,68,69,70,71,72,73,74,75,76,77,78,79,80,81,82,83,84,85,86,87,88,89,90,91,92,93,94,95,96,97,98,99,100,101,102,103,104,105] ?_);(first|refine yyp ?_;try refine s_bu ?_ ?_<;>intro hb|refine yy2 ?_ ?_<;>intro hcmp);all_goals try refine z_sh false 42 2 qo20_1 ?_|refine tr_at 48 ?_;(refine tr_keep [0,1,2,3,4,5,6,13,22,23,26,32,47,48,49,50,51,52,53,54,55,56,57,58,59,60,61,62,63,64,65,66,67,68,69,70,71,72,73,74,75,76,77,78,79,80,81,82,83,84,85,86,87,88,89,90,91,92,93,94,95,96,97,98,99,100,101,102,103,104,105] ?_);(first|refine yyp ?_;try refine s_bu ?_ ?_<;>intro hb|refine yy2 ?_ ?_<;>intro hcmp);all_goals try refine z_sh false 48 2 qo20_1 ?_|refine tr_at 50 ?_;(refine z_lit 50 ?_)|refine tr_at 51 ?_;refine y_callG (hc:=hk1) ?_|refine tr_at 58 ?_;(refine tr_keep [0,1,2,3,4,5,6,13,22,23,26,32,57,58,59,60,61,62,63,64,65,66,67,68,69,70,71,72,73,74,75,76,77,78,79,80,81,82,83,84,85,86,87,88,89,90,91,92,93,94,95,96,97,98,99,100,101,102,103,104,105] ?_);(first|refine yyp ?_;try refine s_bu ?_ ?_<;>intro hb|refine yy2 ?_ ?_<;>intro hcmp);all_goals try refine z_sh false 58 2 qo20_1 ?_|refine tr_at 60 ?_;(refine z_lit 60 ?_)|refine tr_at 61 ?_;refine y_callG (hc:=hk2) ?_|refine tr_at 70 ?_;(refine tr_keep [0,1,2,3,4,5,6,13,22,23,26,32,69,70,71,72,73,74,75,76,77,78,79,80,81,82,83,84,85,86,87,88,89,90,91,92,93,94,95,96,97,98,99,100,101,102,103,104,105] ?_);(first|refine yyp ?_;try refine s_bu ?_ ?_<;>intro hb|refine yy2 ?_ ?_<;>intro hcmp);all_goals try refine z_sh false 70 2 qo20_1 ?_|refine tr_at 72 ?_;(refine z_lit 72 ?_)|refine tr_at 73 ?_;refine y_callG (hc:=hk3) ?_|refine tr_at 82 ?_;(refine tr_keep [0,1,2,3,4,5,6,13,22,23,26,32,81,82,83,84,85,86,87,88,89,90,91,92,93,94,95,96,97,98,99,100,101,102,103,104,105] ?_);(first|refine yyp ?_;try refine s_bu ?_ ?_<;>intro hb|refine yy2 ?_ ?_<;>intro hcmp);all_goals try refine z_sh false 82 2 qo20_1 ?_|refine tr_at 84 ?_;(refine z_lit 84 ?_)|refine tr_at 85 ?_;refine y_callG (hc:=hk4) ?_|refine tr_at 94 ?_;(refine tr_keep [0,1,2,3,4,5,6,13,22,23,26,32,93,94,95,96,97,98,99,100,101,102,103,104,105] ?_);(first|refine yyp ?_;try refine s_bu ?_ ?_<;>intro hb|refine yy2 ?_ ?_<;>intro hcmp);all_goals try refine z_sh false 94 2 qo20_1 ?_|refine tr_at 98 ?_;refine y_callE (hc:=t1 _ _) ?_|refine tr_at 100 ?_;(refine tr_keep [0,1,2,3,4,5,6,13,22,23,26,32,99,100,101,102,103,104,105] ?_);(first|refine yyp ?_;try refine s_bu ?_ ?_<;>intro hb|refine yy2 ?_ ?_<;>intro hcmp);all_goals try refine z_sh false 100 2 qo20_1 ?_|refine tr_at 104 ?_;refine y_callE (hc:=t2 _ _) ?_|refine yyp ?_|refine yy2 ?_ ?_<;>intro hcmp|refine at_call 142 ?_;refine y_call (hc:=c2) ?_|refine at_call 139 ?_;refine y_call (hc:=(kv5 _ _ _ _)) ?_|refine at_call 140 ?_;refine y_call (hc:=hn) ?_|refine at_call 141 ?_;refine y_call (hc:=c3) ?_|refine at_call 142 ?_;refine y_call (hc:=c4) ?_|refine at_call 144 ?_;refine y_call (hc:=c5) ?_|refine at_call 142 ?_;refine y_call (hc:=c6) ?_|refine at_nil ?_;refine z_nil qo20_1 ?_|refine tc_seq fun K hK=>?_|refine j5 14 ?_;(try dsimp only[List.append]);refine j2 [64,70] (lin [0,5,8,12,16,21,24,28,32,36,41,44,48,52,56,60,72,76,81,66,70,86,90,92,96,100,112,124,117,129,132,106,110,122,138,140,144,148,160,172,165,177,154,158,170,182,186,188,192,196,208,220,213,225,202,206,218,230,234,236,240,244,249,253,259,260,264,268,273,277,283,284,288]) ?_|apply_assumption -exfalso -symm)
  all_goals clear hk1 hk2 hk3 hk4 t1 t2 hn c1 c2 c3 c4 c5 c6
  all_goals as_aux_lemma=>first
   |((refine j0 (j6 ?_))
     (repeat (rename (∀ S:Sd,TC _ _ _ S->_)=>hX;clear hX))
     simp only[oneOf,V.d.injEq,D.bool.injEq,Lx.guMay]
     try simp only[List.any_cons,List.any_nil,Bool.or_false,je6]at *
     clear K0
     grind)
end
section
def kw4:List Nat:=[0,1,2,3,4,5,6,13,14,23,39,55,63]
variable {mm:Int}
theorem rh9:dSp sp0=.agg [.int .u8 0,.int .u8 0,.int .i64 0,.int .u8 0,.str ⟨#[]⟩,.list 1 [],.int .u8 0,.int .u8 0,.int .u8 0,.int .i32 0,.str ⟨#[]⟩,.list 6 [],.bool false,.list 2 [],.list 6 [],.list 42 []]:=rfl
attribute [local irreducible] TR TC
theorem qs7 (s:Sp):FnD prog (glS mm) 147 [.d (dSp s)] (fun v=>v=.d (.bool (Lx.spMay s))):=by
 have q1:=kp5 (mm:=mm) s.type
 have q2:=mf0 (mm:=mm) s.type
 have q3:=ji1 (mm:=mm) s.e
 have q4:=jj9 (mm:=mm) s.e
 have q5:=qh2 (mm:=mm) s.proto
 have q6:=qs1 (glS mm) Lx.foMay s.formals 0 8 fun x _=>FnE.ofD (mu2 (mm:=mm) x) (by(repeat (first|exact Pures.nil|apply Pures.cons (Pure.d _)|apply Pures.cons (Pure.nils _)));fail_if_success intros)
 have q7:=fun a b=>qg3 (glS mm) Lx.isName s.names a b fun x _=>FnE.ofD (ji0 (mm:=mm) x) (by(repeat (first|exact Pures.nil|apply Pures.cons (Pure.d _)|apply Pures.cons (Pure.nils _)));fail_if_success intros)
 have w1:=jt2 (glS mm) s (.mk s.kind s.type s.names ex0 pt0 [] [])
 have w2:=jt2 (glS mm) s (.mk s.kind s.type s.names s.e pt0 [] [])
 have w3:=jt2 (glS mm) s (.mk s.kind ty0 s.names ex0 s.proto [] [])
 have w4:=jt2 (glS mm) s (.mk s.kind ty0 s.names ex0 pt0 s.formals s.body)
 simp only[r9]at q3 q4
 (refine j4 func147 ntmps147 results147 fun w M=>?_)
 (repeat' first|refine tr_at 1 ?_;(refine k7 1 ?_)|refine tr_at 10 ?_;refine z_p w_buildn ?_|refine tr_at 3 ?_;(refine j1 3 ?_)|refine tr_at 4 ?_;(refine j1 4 ?_)|refine tr_at 14 ?_;refine yyp ?_;try refine s_bu ?_ ?_<;>intro hb|refine tr_at 23 ?_;refine yyp ?_;try refine s_bu ?_ ?_<;>intro hb|refine tr_at 34 ?_;refine yyp ?_;try refine s_bu ?_ ?_<;>intro hb|refine tr_at 39 ?_;refine yyp ?_;try refine s_bu ?_ ?_<;>intro hb|refine tr_at 50 ?_;refine yyp ?_;try refine s_bu ?_ ?_<;>intro hb|refine tr_at 55 ?_;refine yyp ?_;try refine s_bu ?_ ?_<;>intro hb|refine tr_at 63 ?_;refine yyp ?_;try refine s_bu ?_ ?_<;>intro hb|refine tr_at 75 ?_;refine yyp ?_;try refine s_bu ?_ ?_<;>intro hb|refine tr_at 79 ?_;refine y_callE (hc:=q6) ?_|refine tr_at 82 ?_;refine yyp ?_;try refine s_bu ?_ ?_<;>intro hb|refine tr_at 86 ?_;refine y_callE (hc:=q7 _ _) ?_|refine tr_at 88 ?_;refine yyp ?_;try refine s_bu ?_ ?_<;>intro hb|refine yyp ?_|refine yy ?_|refine yy2 ?_ ?_<;>intro hcmp|refine at_call 184 ?_;refine y_call (hc:=q1) ?_|refine at_call 185 ?_;refine y_call (hc:=q2) ?_|refine at_call 144 ?_;refine y_call (hc:=q3) ?_|refine at_call 141 ?_;refine y_call (hc:=q4) ?_|refine at_call 186 ?_;refine y_call (hc:=q5) ?_|refine at_call 125 ?_;refine y_call (hc:=(by first|exact w1|exact w2|exact w3|exact w4)) ?_|refine at_nil ?_;refine z_nil kw4 ?_|(apply tc_mid (x:=.region 6 _ _);focus ((refine j5 6 ?_;refine j2 [3,5] (linT [4,1] (.mid 2 (lin [15,16,23]) 3 (lin [9,16,23]))) ?_);(repeat' (first|refine yyp ?_|refine yy ?_|refine at_nil ?_;refine z_nil kw4 ?_|refine ja1 ?_ ?_));(all_goals first|exact Wk.refl _ _|exact v7);done))|(apply tc_mid (x:=.region 9 _ _);focus ((refine j5 9 ?_;refine j2 [5,7] (linT [0,8,5,16] (.mid 3 (lin [23,24,31]) 5 (lin [13,24,31]))) ?_);(repeat' (first|refine yyp ?_|refine yy ?_|refine at_nil ?_;refine z_nil kw4 ?_|refine ja1 ?_ ?_));(all_goals first|exact Wk.refl _ _|exact v7);done))|(apply tc_mid (x:=.region 12 _ _);focus ((refine j5 12 ?_;refine j2 [5,7] (linT [0,8,5,16] (.mid 3 (lin [23,24,31]) 5 (lin [13,24,31]))) ?_);(repeat' (first|refine yyp ?_|refine yy ?_|refine at_nil ?_;refine z_nil kw4 ?_|refine ja1 ?_ ?_));(all_goals first|exact Wk.refl _ _|exact v7);done))|(apply tc_mid (x:=.region 18 _ _);focus ((refine j5 18 ?_;refine j2 [5,7] (linT [0,8,5,16] (.mid 3 (lin [23,24,31]) 5 (lin [13,24,31]))) ?_);(repeat' (first|refine yyp ?_|refine yy ?_|refine at_nil ?_;refine z_nil kw4 ?_|refine ja1 ?_ ?_));(all_goals first|exact Wk.refl _ _|exact v7);done))|refine tc_seq fun K hK=>?_|refine j5 6 ?_;refine j2 [3,5] (linT [4,1] (.mid 2 (lin [15,16,23]) 3 (lin [9,16,23]))) ?_|refine j5 9 ?_;refine j2 [5,7] (linT [0,8,5,16] (.mid 3 (lin [23,24,31]) 5 (lin [13,24,31]))) ?_|refine j5 12 ?_;refine j2 [5,7] (linT [0,8,5,16] (.mid 3 (lin [23,24,31]) 5 (lin [13,24,31]))) ?_|refine j5 18 ?_;refine j2 [5,7] (linT [0,8,5,16] (.mid 3 (lin [23,24,31]) 5 (lin [13,24,31]))) ?_|apply_assumption -exfalso -symm)
 all_goals clear q1 q2 q3 q4 q5 q6 q7 w1 w2 w3 w4
 all_goals
  (refine j0 (j6 ?_))
  (repeat (rename (∀ S:Sd,TC _ _ _ S->_)=>hX;clear hX))
  simp only[oneOf,V.d.injEq,D.bool.injEq]
  rw[Bool.eq_iff_iff]
  simp only[Lx.spMay,Lx.sameFB,Lx.sameF,Lx.noneB,Sp.kind,Sp.type,Sp.names,Sp.e,Sp.proto,Sp.formals,Sp.body,decide_eq_true_eq,List.length_nil,true_and,and_true]at *
  grind [j9,List.length_eq_zero_iff]
end
end Go.Proofs.YtdopmfifmgkmoaaGreatDoor
