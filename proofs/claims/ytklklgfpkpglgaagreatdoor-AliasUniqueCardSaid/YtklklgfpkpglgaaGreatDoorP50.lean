/- Parts: O20, O21. -/
import Derived.Test.YtklklgfpkpglgaaGreatDoorP34
set_option linter.all false
set_option maxRecDepth 100000
set_option maxHeartbeats 16000000
namespace Go.Proofs.YtklklgfpkpglgaaGreatDoor
open Go.RowKit Go.Proofs.Tryz
section
def Uy:List Nat:=[0,1,4,5,6,7,8,9,16]
def Km:List Nat:=[0,1,2,3,4,5,6,13,22,23,26,32]
def qk6:Plan:=lin [0,5,8,12,16,21,24,28,32,36,41,44,48,52,56,60,72,76,81,66,70,86,90,92,96,100,112,124,117,129,132,106,110,122,138,140,144,148,160,172,165,177,154,158,170,182,186,188,192,196,208,220,213,225,202,206,218,230,234,236,240,244,249,253,258,260,264,268,273,277,282,284,288]
variable {mm:Int}
theorem rw8 (l:List Int)(y:Int):0<=jd8 (fun x=>decide (x=y)) l↔l.any (fun x=>decide (x=y))=true:=je6 _ l
attribute [local irreducible] TR TC
theorem mn5 (gl:List (Nat × List D))(l:List Int)(y:Int):FnD prog gl 191 [.d (.list 1 (l.map (.int .u8))),.d (.int .u8 y)] (fun v=>v=.d (.int .i64 (jd8 (fun x=>decide (x=y)) l))):=by
 (refine j7 func191 ntmps191 results191 fun w M=>?_)
 refine j8 0 rfl fun hn=>?_;simp only[Ab]at hn
 (repeat' first|refine yyp ?_;try refine Ce ?_ ?_<;>intro hb|refine yy ?_|refine at_nil ?_;refine Cc Uy ?_|refine Cb fun K hK=>?_|apply_assumption -exfalso -symm)
 refine j6 [4,5,8,9,10,11,12,13,14,15,16,17,18] [] (fun k:Nat=>[(8,.d (.int .i64 k))]) (fun _=>[]) (fun k=>k<=l.length/\jd8 (fun x=>decide (x=y)) l=if jd8 (fun x=>decide (x=y)) (l.drop k)<0 then -1 else jd8 (fun x=>decide (x=y)) (l.drop k)+k) (fun k=>l.length - k) 0 ⟨Ai _,by have:=l9 (fun x=>decide (x=y)) l;simp only[Ev];split<;>omega⟩ fun k ⟨hk,hi⟩=>?_;dsimp only[Ac,Af];have hlo:=l9 (fun x=>decide (x=y)) (l.drop (k+1));rcases Ah k l.length with hk2|hk2
 ·rw[x8 _ _ _ hk2]at hi
  (repeat' first|refine yyp ?_;try refine Ce ?_ ?_<;>intro hb|refine yy ?_|refine yy2 ?_ ?_<;>intro hcmp|refine at_nil ?_;refine Cc Uy ?_|refine Cb fun K hK=>?_|apply_assumption -exfalso -symm)
  ·(refine j1 (k7 ?_))
   rw[hi,Ad (Eb hcmp.symm)];simp[oneOf]
  ·refine⟨k+1,⟨by omega,?_⟩,by omega,k8⟩;rw[hi,Ae (show ¬decide (l[k]=y)=true by rw[Ak];exact fun e=>hcmp e.symm)];split<;>split<;>(try split)<;>omega
 ·(repeat' first|refine yyp ?_;try refine Ce ?_ ?_<;>intro hb|refine yy ?_|refine at_nil ?_;refine Cc Uy ?_|refine Cb fun K hK=>?_|apply_assumption -exfalso -symm)
  (refine j1 (k7 ?_))
  rw[hi,Bz hk2];simp[oneOf,jd8]
theorem kq0 (gl:List (Nat × List D))(l:List Int)(y:Int):FnD prog gl 159 [.d (.list 1 (l.map (.int .u8))),.d (.int .u8 y)] (fun v=>v=.d (.bool (l.any fun x=>decide (x=y)))):=by
 have hany:=rw8 l y
 (refine j7 func159 ntmps159 results159 fun w M=>?_)
 (repeat' first|refine yyp ?_;try refine Ce ?_ ?_<;>intro hb|refine yy ?_|refine yy2 ?_ ?_<;>intro hcmp|refine Ch 191 ?_;refine Ck (hc:=(mn5 gl l y)) ?_|refine at_nil ?_;refine Cc [0,1,4,5,6,7] ?_|refine Cb fun K hK=>?_|apply_assumption -exfalso -symm)
 all_goals (refine j1 (k7 ?_))
 all_goals simp only[oneOf,Bk,Be]
 all_goals first
  |exact(hany.1 (by omega)).symm
  |(symm;cases ha:l.any (fun x=>decide (x=y)) with
   |false=>rfl
   |true=>exfalso;have:=hany.2 ha;omega)
def km1 (g:Gu):List D:=[.int .u8 g.kind,.str g.name,
    .int .u8 g.cond.kind,.int .u8 g.cond.op,.int .u8 g.cond.ty,.int .i32 g.cond.n,.str g.cond.s,.list 6 (g.cond.l.map dEx),
    .int .u8 g.chan.kind,.int .u8 g.chan.op,.int .u8 g.chan.ty,.int .i32 g.chan.n,.str g.chan.s,.list 6 (g.chan.l.map dEx),
    .list 6 (g.targets.map dEx),.list 6 (g.values.map dEx),
    .int .u8 g.time.kind,.int .u8 g.time.op,.int .u8 g.time.ty,.int .i32 g.time.n,.str g.time.s,.list 6 (g.time.l.map dEx),
    .list 42 (g.body.map dPr)]
theorem jy3 (gl:List (Nat × List D))(g:Gu)(l:List Int):FnE prog gl 158 [.d (.list 1 (l.map (.int .u8))),.d (.ref (km1 g) 0)] [] (fun v H1=>v=.d (.bool (l.any fun x=>decide (x=g.kind)))/\H1=[]):=by
 refine FnE.ofD ?_ (by(repeat (first|exact Pures.nil|apply Pures.cons (Pure.d _)|apply Pures.cons (Pure.nils _)));fail_if_success intros)
 (refine j7 func158 ntmps158 results158 fun w M=>?_)
 (repeat' first|refine yyp ?_|refine yy ?_|refine Ch 159 ?_;refine Ck (hc:=(kq0 gl l g.kind)) ?_|refine at_nil ?_;refine Cc [0,1,3,4,5,6] ?_|refine Cb fun K hK=>?_|apply_assumption -exfalso -symm)
 all_goals (refine j1 (k7 ?_))
 all_goals rfl
theorem qz7 (g:Gu):FnD prog (glS mm) 121 [.d (dGu g)] (fun v=>v=.d (.bool (Lx.Le g))):=by
 have hk1:=jy3 (glS mm) g [1,2,3,4];have hk2:=jy3 (glS mm) g [7];have hk3:=jy3 (glS mm) g [3,4];have hk4:=jy3 (glS mm) g [4];have c1:=jk7 (mm:=mm) g.cond;have c2:=kd3 (glS mm) g.cond;have c3:=Jv (mm:=mm) g.chan;have c4:=kd3 (glS mm) g.chan;have c5:=jk7 (mm:=mm) g.time;have c6:=kd3 (glS mm) g.time;have t1:=fun a b=>mc9 (glS mm) Lx.Iw g.targets a b fun x _=>FnE.ofD (Jv (mm:=mm) x) (by(repeat (first|exact Pures.nil|apply Pures.cons (Pure.d _)|apply Pures.cons (Pure.nils _)));fail_if_success intros);have t2:=fun a b=>mq4 (glS mm) Lx.Ja g.values a b fun x _=>FnE.ofD (jk7 (mm:=mm) x) (by(repeat (first|exact Pures.nil|apply Pures.cons (Pure.d _)|apply Pures.cons (Pure.nils _)));fail_if_success intros);have hn:=jk6 (mm:=mm) g.name;simp only[k9]at c1 c2 c3 c4 c5 c6;rw[jd7]
 (refine j7 func121 ntmps121 results121 fun w M=>?_)
 refine Cb fun K0 h0=>?_
 (refine v8 (id:=0) ?_;(repeat' first|refine Ca 1 ?_;(refine Cq 1 ?_)|refine yyp ?_;try refine Ce ?_ ?_<;>intro hb|refine at_nil ?_;refine Cc Km ?_))
 refine h0 _ ?_;refine jw5 (t:=1) (env':=[(2,.d (.bool false)),(0,.d (dG g))]) (H':=[]) rfl rfl (by repeat (first|exact .nil|apply Frz.cons (.d _))) rfl (by(repeat (first|exact Sub.nil|apply Sub.cons rfl));fail_if_success intros) (by(repeat (first|exact Sub.nil|apply Sub.cons rfl));fail_if_success intros) rfl rfl ?_;refine Cb fun K1 h1=>?_
 (refine v8 (id:=1) ?_;(repeat' first|refine yyp ?_;try refine Ce ?_ ?_<;>intro hb|refine at_nil ?_;refine Cc Km ?_))
 refine h1 _ ?_;refine Cb fun K2 h2=>?_
 (refine v8 (id:=2) ?_;(repeat' first|refine yyp ?_|refine Ch 129 ?_;refine Ck (hc:=c1) ?_|refine at_nil ?_;refine Cc Km ?_))
 refine h2 _ ?_;refine jj2 (ι:=Bool) (fun x=>⟨[(4,.d (.bool x)),(3,.clo (.func 158) [] [.d (.ref (km1 g) 0)]),(1,.d (.ref (km1 g) 0)),(2,.d (.bool false)),(0,.d (dG g))],[],glS mm⟩) (fun x=>x=(Lx.Ja g.cond || ((decide (g.kind=3) || decide (g.kind=4)) && Lx.Ka g.cond))) ?_ ?_
 ·(repeat' first|refine Ca 12 ?_;(refine Dn 12 ?_)|refine Ca 13 ?_;refine Qj (hc:=hk3) ?_;try refine Ce ?_ ?_<;>intro hb|refine Ca 15 ?_;refine yyp ?_;try refine Ce ?_ ?_<;>intro hb|refine yyp ?_|refine yy ?_|refine Ch 127 ?_;refine Ck (hc:=c2) ?_|refine at_nil ?_;refine Cc Km ?_|refine Cb fun K hK=>?_|refine Cf 14 ?_;(try dsimp only[List.append]);refine j0 [] qk6 ?_|apply_assumption -exfalso -symm)
  all_goals
   refine⟨_,?_,k8⟩;clear hk1 hk2 hk3 hk4 t1 t2 hn c1 c2 c3 c4 c5 c6
   (repeat (rename (∀ S:Sd,TC _ _ _ S->_)=>hX;clear hX))
   try simp only[List.any_cons,List.any_nil,Ec]at hb
   grind
 intro b hbe;refine Cb fun K5 h5=>?_
 (refine v8 (id:=5) ?_;(repeat' first|refine Ca 20 ?_;refine z_p Dk ?_|refine Ca 5 ?_;(refine j3 5 ?_)|refine yy ?_|refine at_nil ?_;refine Cc Km ?_))
 refine h5 _ ?_;refine jj2 (ι:=Int × Int) (fun x=>⟨[(5,.ptr 5 0),(4,.d (.bool b)),(3,.clo (.func 158) [] [.d (.ref (km1 g) 0)]),(1,.d (.ref (km1 g) 0)),(2,.d (.bool false)),(0,.d (dG g))],[(5,.box [.d (.int .i64 x.1),.d (.int .i64 x.2)])],glS mm⟩) (fun x=>x.1=(if g.kind=3 then 1 else 0)/\x.2=(if g.kind=3\/g.kind=7 then 8 else 0)) ?_ ?_
 ·(repeat' first|refine Ca 23 ?_;refine yyp ?_;try refine Ce ?_ ?_<;>intro hb|refine Ca 26 ?_;refine yyp ?_;try refine Ce ?_ ?_<;>intro hb|refine Ca 28 ?_;refine z_p Dk ?_|refine yyp ?_|refine yy ?_|refine yy2 ?_ ?_<;>intro hcmp|refine at_nil ?_;refine Cc Km ?_|refine Cb fun K hK=>?_|refine Cf 14 ?_;(try dsimp only[List.append]);refine j0 [] qk6 ?_|apply_assumption -exfalso -symm)
  all_goals
   refine⟨(_,_),?_,k8⟩;simp only[*,if_true,if_false,true_or,or_true,or_self,Int.reduceEq,and_self]
 rintro⟨a1,a2⟩ ⟨e1,e2⟩;dsimp only at e1 e2 ⊢;refine Cb fun K11 h11=>?_
 (refine v8 (id:=11) ?_;(repeat' first|refine Ca 29 ?_;refine z_p Dk ?_|refine Ca 6 ?_;(refine j3 6 ?_)|refine yy ?_|refine at_nil ?_;refine Cc Km ?_))
 refine h11 _ ?_;refine jj2 (ι:=Int × Int) (fun x=>⟨[(6,.ptr 6 0),(5,.ptr 5 0),(4,.d (.bool b)),(3,.clo (.func 158) [] [.d (.ref (km1 g) 0)]),(1,.d (.ref (km1 g) 0)),(2,.d (.bool false)),(0,.d (dG g))],[(6,.box [.d (.int .i64 x.1),.d (.int .i64 x.2)]),(5,.box [.d (.int .i64 a1),.d (.int .i64 a2)])],glS mm⟩) (fun x=>x.1=(if g.kind=5 then 1 else 0)/\x.2=(if g.kind=5 then 8 else 0)) ?_ ?_
 ·(repeat' first|refine yyp ?_|refine yy ?_|refine yy2 ?_ ?_<;>intro hcmp|refine at_nil ?_;refine Cc Km ?_|refine Cb fun K hK=>?_|refine Cf 14 ?_;(try dsimp only[List.append]);refine j0 [] qk6 ?_|apply_assumption -exfalso -symm)
  all_goals
   refine⟨(_,_),?_,k8⟩;simp only[*,if_true,if_false,and_self]
 rintro⟨a3,a4⟩ ⟨e3,e4⟩;dsimp only at e3 e4 ⊢
 as_aux_lemma=>
  (repeat' first|refine Ca 37 ?_;(refine Oc [0,1,2,3,4,5,6,13,22,23,26,32,36,37,38,39,40,41,42,43,44,45,46,47,48,49,50,51,52,53,54,55,56,57,58,59,60,61,62,63,64,65,66,67,68,69,70,71,72,73,74,75,76,77,78,79,80,81,82,83,84,85,86,87,88,89,90,91,92,93,94,95,96,97,98,99,100,101,102,103,104,105] ?_);(first|refine yyp ?_;try refine Ce ?_ ?_<;>intro hb|refine yy2 ?_ ?_<;>intro hcmp);all_goals try refine Nb false 37 2 Km ?_|refine Ca 42 ?_;(refine Oc [0,1,2,3,4,5,6,13,22,23,26,32,41,42,43,44,45,46,47,48,49,50,51,52,53,54,55,56,57,58,59,60,61,62,63,64,65,66,67,68,69,70,71,72,73,74,75,76,77,78,79,80,81,82,83,84,85,86,87,88,89,90,91,92,93,94,95,96,97,98,99,100,101,102,103,104,105] ?_);(first|refine yyp ?_;try refine Ce ?_ ?_<;>intro hb|refine yy2 ?_ ?_<;>intro hcmp);all_goals try refine Nb false 42 2 Km ?_|refine Ca 48 ?_;(refine Oc [0,1,2,3,4,5,6,13,22,23,26,32,47,48,49,50,51,52,53,54,55,56,57,58,59,60,61,62,63,64,65,66,67,68,69,70,71,72,73,74,75,76,77,78,79,80,81,82,83,84,85,86,87,88,89,90,91,92,93,94,95,96,97,98,99,100,101,102,103,104,105] ?_);(first|refine yyp ?_;try refine Ce ?_ ?_<;>intro hb|refine yy2 ?_ ?_<;>intro hcmp);all_goals try refine Nb false 48 2 Km ?_|refine Ca 50 ?_;(refine Dn 50 ?_)|refine Ca 51 ?_;refine Qj (hc:=hk1) ?_|refine Ca 58 ?_;(refine Oc [0,1,2,3,4,5,6,13,22,23,26,32,57,58,59,60,61,62,63,64,65,66,67,68,69,70,71,72,73,74,75,76,77,78,79,80,81,82,83,84,85,86,87,88,89,90,91,92,93,94,95,96,97,98,99,100,101,102,103,104,105] ?_);(first|refine yyp ?_;try refine Ce ?_ ?_<;>intro hb|refine yy2 ?_ ?_<;>intro hcmp);all_goals try refine Nb false 58 2 Km ?_|refine Ca 60 ?_;(refine Dn 60 ?_)|refine Ca 61 ?_;refine Qj (hc:=hk2) ?_|refine Ca 70 ?_;(refine Oc [0,1,2,3,4,5,6,13,22,23,26,32,69,70,71,72,73,74,75,76,77,78,79,80,81,82,83,84,85,86,87,88,89,90,91,92,93,94,95,96,97,98,99,100,101,102,103,104,105] ?_);(first|refine yyp ?_;try refine Ce ?_ ?_<;>intro hb|refine yy2 ?_ ?_<;>intro hcmp);all_goals try refine Nb false 70 2 Km ?_|refine Ca 72 ?_;(refine Dn 72 ?_)|refine Ca 73 ?_;refine Qj (hc:=hk3) ?_|refine Ca 82 ?_;(refine Oc [0,1,2,3,4,5,6,13,22,23,26,32,81,82,83,84,85,86,87,88,89,90,91,92,93,94,95,96,97,98,99,100,101,102,103,104,105] ?_);(first|refine yyp ?_;try refine Ce ?_ ?_<;>intro hb|refine yy2 ?_ ?_<;>intro hcmp);all_goals try refine Nb false 82 2 Km ?_|refine Ca 84 ?_;(refine Dn 84 ?_)|refine Ca 85 ?_;refine Qj (hc:=hk4) ?_|refine Ca 94 ?_;(refine Oc [0,1,2,3,4,5,6,13,22,23,26,32,93,94,95,96,97,98,99,100,101,102,103,104,105] ?_);(first|refine yyp ?_;try refine Ce ?_ ?_<;>intro hb|refine yy2 ?_ ?_<;>intro hcmp);all_goals try refine Nb false 94 2 Km ?_|refine Ca 98 ?_;refine Cg (hc:=t1 _ _) ?_|refine Ca 100 ?_;(refine Oc [0,1,2,3,4,5,6,13,22,23,26,32,99,100,101,102,103,104,105] ?_);(first|refine yyp ?_;try refine Ce ?_ ?_<;>intro hb|refine yy2 ?_ ?_<;>intro hcmp);all_goals try refine Nb false 100 2 Km ?_|refine Ca 104 ?_;refine Cg (hc:=t2 _ _) ?_|refine yyp ?_|refine yy2 ?_ ?_<;>intro hcmp|refine Ch 127 ?_;refine Ck (hc:=c2) ?_|refine Ch 124 ?_;refine Ck (hc:=(mc7 _ _ _ _)) ?_|refine Ch 125 ?_;refine Ck (hc:=hn) ?_|refine Ch 126 ?_;refine Ck (hc:=c3) ?_|refine Ch 127 ?_;refine Ck (hc:=c4) ?_|refine Ch 129 ?_;refine Ck (hc:=c5) ?_|refine Ch 127 ?_;refine Ck (hc:=c6) ?_|refine at_nil ?_;refine Cc Km ?_|refine Cb fun K hK=>?_|refine Cf 14 ?_;(try dsimp only[List.append]);refine j0 [64,70] (lin [0,5,8,12,16,21,24,28,32,36,41,44,48,52,56,60,72,76,81,66,70,86,90,92,96,100,112,124,117,129,132,106,110,122,138,140,144,148,160,172,165,177,154,158,170,182,186,188,192,196,208,220,213,225,202,206,218,230,234,236,240,244,249,253,259,260,264,268,273,277,283,284,288]) ?_|apply_assumption -exfalso -symm)
  all_goals clear hk1 hk2 hk3 hk4 t1 t2 hn c1 c2 c3 c4 c5 c6
  all_goals as_aux_lemma=>first
   |((refine j1 (k7 ?_))
     (repeat (rename (∀ S:Sd,TC _ _ _ S->_)=>hX;clear hX))
     simp only[oneOf,Bk,Be,Lx.Le]
     try simp only[List.any_cons,List.any_nil,Ec,jp2]at *
     clear K0
     grind)
end
section
def mg0:List Nat:=[0,1,2,3,4,5,6,13,14,23,39,55,63]
variable {mm:Int}
theorem vj2:dSp sp0=.agg [.int .u8 0,.int .u8 0,.int .i64 0,.int .u8 0,.str ⟨#[]⟩,.list 1 [],.int .u8 0,.int .u8 0,.int .u8 0,.int .i32 0,.str ⟨#[]⟩,.list 6 [],.bool false,.list 2 [],.list 6 [],.list 42 []]:=rfl
attribute [local irreducible] TR TC
theorem rn0 (s:Sp):FnD prog (glS mm) 132 [.d (dSp s)] (fun v=>v=.d (.bool (Lx.Kh s))):=by
 have q1:=ku7 (mm:=mm) s.type;have q2:=mt4 (mm:=mm) s.type;have q3:=jk7 (mm:=mm) s.e;have q4:=Jv (mm:=mm) s.e;have q5:=qv3 (mm:=mm) s.proto;have q6:=rk4 (glS mm) Lx.Px s.formals 0 8 fun x _=>FnE.ofD (qk3 (mm:=mm) x) (by(repeat (first|exact Pures.nil|apply Pures.cons (Pure.d _)|apply Pures.cons (Pure.nils _)));fail_if_success intros);have q7:=fun a b=>qu5 (glS mm) Lx.Dg s.names a b fun x _=>FnE.ofD (jk6 (mm:=mm) x) (by(repeat (first|exact Pures.nil|apply Pures.cons (Pure.d _)|apply Pures.cons (Pure.nils _)));fail_if_success intros);have w1:=jy2 (glS mm) s (.mk s.kind s.type s.names ex0 pt0 [] []);have w2:=jy2 (glS mm) s (.mk s.kind s.type s.names s.e pt0 [] []);have w3:=jy2 (glS mm) s (.mk s.kind ty0 s.names ex0 s.proto [] []);have w4:=jy2 (glS mm) s (.mk s.kind ty0 s.names ex0 pt0 s.formals s.body);simp only[k9]at q3 q4
 (refine j7 func132 ntmps132 results132 fun w M=>?_)
 (repeat' first|refine Ca 1 ?_;(refine Cq 1 ?_)|refine Ca 10 ?_;refine z_p Dk ?_|refine Ca 3 ?_;(refine j3 3 ?_)|refine Ca 4 ?_;(refine j3 4 ?_)|refine Ca 14 ?_;refine yyp ?_;try refine Ce ?_ ?_<;>intro hb|refine Ca 23 ?_;refine yyp ?_;try refine Ce ?_ ?_<;>intro hb|refine Ca 34 ?_;refine yyp ?_;try refine Ce ?_ ?_<;>intro hb|refine Ca 39 ?_;refine yyp ?_;try refine Ce ?_ ?_<;>intro hb|refine Ca 50 ?_;refine yyp ?_;try refine Ce ?_ ?_<;>intro hb|refine Ca 55 ?_;refine yyp ?_;try refine Ce ?_ ?_<;>intro hb|refine Ca 63 ?_;refine yyp ?_;try refine Ce ?_ ?_<;>intro hb|refine Ca 75 ?_;refine yyp ?_;try refine Ce ?_ ?_<;>intro hb|refine Ca 79 ?_;refine Cg (hc:=q6) ?_|refine Ca 82 ?_;refine yyp ?_;try refine Ce ?_ ?_<;>intro hb|refine Ca 86 ?_;refine Cg (hc:=q7 _ _) ?_|refine Ca 88 ?_;refine yyp ?_;try refine Ce ?_ ?_<;>intro hb|refine yyp ?_|refine yy ?_|refine yy2 ?_ ?_<;>intro hcmp|refine Ch 172 ?_;refine Ck (hc:=q1) ?_|refine Ch 173 ?_;refine Ck (hc:=q2) ?_|refine Ch 129 ?_;refine Ck (hc:=q3) ?_|refine Ch 126 ?_;refine Ck (hc:=q4) ?_|refine Ch 174 ?_;refine Ck (hc:=q5) ?_|refine Ch 178 ?_;refine Ck (hc:=(by first|exact w1|exact w2|exact w3|exact w4)) ?_|refine at_nil ?_;refine Cc mg0 ?_|(apply Hy (x:=.region 6 _ _);focus ((refine Cf 6 ?_;refine j0 [3,5] q0h ?_);(repeat' (first|refine yyp ?_|refine yy ?_|refine at_nil ?_;refine Cc mg0 ?_|refine Hz ?_ ?_));(all_goals first|exact Wk.refl _ _|exact k8);done))|(apply Hy (x:=.region 9 _ _);focus ((refine Cf 9 ?_;refine j0 [5,7] q0e ?_);(repeat' (first|refine yyp ?_|refine yy ?_|refine at_nil ?_;refine Cc mg0 ?_|refine Hz ?_ ?_));(all_goals first|exact Wk.refl _ _|exact k8);done))|(apply Hy (x:=.region 12 _ _);focus ((refine Cf 12 ?_;refine j0 [5,7] q0e ?_);(repeat' (first|refine yyp ?_|refine yy ?_|refine at_nil ?_;refine Cc mg0 ?_|refine Hz ?_ ?_));(all_goals first|exact Wk.refl _ _|exact k8);done))|(apply Hy (x:=.region 18 _ _);focus ((refine Cf 18 ?_;refine j0 [5,7] q0e ?_);(repeat' (first|refine yyp ?_|refine yy ?_|refine at_nil ?_;refine Cc mg0 ?_|refine Hz ?_ ?_));(all_goals first|exact Wk.refl _ _|exact k8);done))|refine Cb fun K hK=>?_|refine Cf 6 ?_;refine j0 [3,5] q0h ?_|refine Cf 9 ?_;refine j0 [5,7] q0e ?_|refine Cf 12 ?_;refine j0 [5,7] q0e ?_|refine Cf 18 ?_;refine j0 [5,7] q0e ?_|apply_assumption -exfalso -symm)
 all_goals clear q1 q2 q3 q4 q5 q6 q7 w1 w2 w3 w4
 all_goals
  (refine j1 (k7 ?_))
  (repeat (rename (∀ S:Sd,TC _ _ _ S->_)=>hX;clear hX))
  simp only[oneOf,Bk,Be];rw[Ez];simp only[Lx.Kh,Lx.Ud,Lx.Vp,Lx.Ka,Sp.kind,Sp.type,Sp.names,Sp.e,Sp.proto,Sp.formals,Sp.body,Ak,Av,true_and,and_true]at *
  grind [r8,List.length_eq_zero_iff]
end
end Go.Proofs.YtklklgfpkpglgaaGreatDoor
