/- Parts. -/
import Derived.Test.YtklklgfpkpglgaaGreatDoorQ19
set_option linter.all false
set_option maxRecDepth 100000
set_option maxHeartbeats 0
namespace Go.Proofs.YtklklgfpkpglgaaGreatDoor
open Go.RowKit Go.Proofs.Tryz Lx
variable (gl:List (Nat × List D))
section
def Ws:List Nat:=[0,1,4,5,6,7,8,9,16]
def Ku:List Nat:=[0,1,2,3,4,5,6,13,22,23,26,32]
def qj3:Plan:=lin [0,5,8,12,16,21,24,28,32,36,41,44,48,52,56,60,72,76,81,66,70,86,90,92,96,100,112,124,117,129,132,106,110,122,138,140,144,148,160,172,165,177,154,158,170,182,186,188,192,196,208,220,213,225,202,206,218,230,234,236,240,244,249,253,258,260,264,268,273,277,282,284,288]
variable {mm:Int}
theorem vh1 (l:List Int)(y:Int):0<=jf4 (λx=>decide (x=y)) l↔l.any (λx=>decide (x=y))=true:=jg2 _ l
attribute [local irreducible] TR TC
theorem mn3 (l:List Int)(y:Int):FnD prog gl 191 [.d (.list 1 (l.map (.int .u8))),.d (.int .u8 y)] (λv=>v=.d (.int .i64 (jf4 (λx=>decide (x=y)) l))):=by
 (refine j4 func191 ntmps191 results191 λw M=>?_)
 refine k7 0 rfl λhn=>?_;simp only[Ab]at hn
 (repeat' first|refine yyp ?_;try refine Ce ?_ ?_<;>intro hb|refine yy ?_|apply ah;refine Cc Ws ?_|refine Cb λK hK=>?_|apply_assumption -exfalso -symm)
 refine k9 [4,5,8,9,10,11,12,13,14,15,16,17,18] [] (λk:Nat=>[(8,.d (.int .i64 k))]) (λ_=>[]) (λk=>k<=l.length/\jf4 (λx=>decide (x=y)) l=if jf4 (λx=>decide (x=y)) (l.drop k)<0 then -1 else jf4 (λx=>decide (x=y)) (l.drop k)+k) (λk=>l.length - k) 0 ⟨Ak _,by have:=ja0 (λx=>decide (x=y)) l;simp only[Ew];split<;>omega⟩ λk ⟨hk,hi⟩=>?_;dsimp only[Ac,Ae];have hlo:=ja0 (λx=>decide (x=y)) (l.drop (k+1));rcases Ai k l.length with hk2|hk2
 ·rw[l9 _ _ _ hk2]at hi
  (repeat' first|refine yyp ?_;try refine Ce ?_ ?_<;>intro hb|refine yy ?_|refine yy2 ?_ ?_<;>intro hcmp|apply ah;refine Cc Ws ?_|refine Cb λK hK=>?_|apply_assumption -exfalso -symm)
  ·(refine j1 (j7 ?_))
   rw[hi,Ad (Bm hcmp.symm)];simp[aF]
  ·refine⟨k+1,⟨by omega,?_⟩,by omega,v6⟩;rw[hi,Af (show ¬decide (l[k]=y)=true by rw[Ah];exact λe=>hcmp e.symm)];split<;>split<;>(try split)<;>omega
 ·(repeat' first|refine yyp ?_;try refine Ce ?_ ?_<;>intro hb|refine yy ?_|apply ah;refine Cc Ws ?_|refine Cb λK hK=>?_|apply_assumption -exfalso -symm)
  (refine j1 (j7 ?_))
  rw[hi,Bq hk2];simp[aF,jf4]
theorem kp6 (l:List Int)(y:Int):FnD prog gl 159 [.d (.list 1 (l.map (.int .u8))),.d (.int .u8 y)] (λv=>v=.d (.bool (l.any λx=>decide (x=y)))):=by
 have hany:=vh1 l y
 (refine j4 func159 ntmps159 results159 λw M=>?_)
 (repeat' first|refine yyp ?_;try refine Ce ?_ ?_<;>intro hb|refine yy ?_|refine yy2 ?_ ?_<;>intro hcmp|apply Cf 191;refine Ci (hc:=(mn3 gl l y)) ?_|apply ah;refine Cc [0,1,4,5,6,7] ?_|refine Cb λK hK=>?_|apply_assumption -exfalso -symm)
 all_goals (refine j1 (j7 ?_))
 all_goals simp only[aF,At,Am]
 all_goals first
  |exact(hany.1 (by omega)).symm
  |(symm;cases ha:l.any (λx=>decide (x=y)) with
   |false=>rfl
   |true=>exfalso;have:=hany.2 ha;omega)
def ki4 (g:Gu):List D:=[.int .u8 g.kind,.str g.name,
    .int .u8 g.cond.kind,.int .u8 g.cond.op,.int .u8 g.cond.ty,.int .i32 g.cond.n,.str g.cond.s,.list 6 (g.cond.l.map dEx),
    .int .u8 g.av.kind,.int .u8 g.av.op,.int .u8 g.av.ty,.int .i32 g.av.n,.str g.av.s,.list 6 (g.av.l.map dEx),
    .list 6 (g.aj.map dEx),.list 6 (g.values.map dEx),
    .int .u8 g.time.kind,.int .u8 g.time.op,.int .u8 g.time.ty,.int .i32 g.time.n,.str g.time.s,.list 6 (g.time.l.map dEx),
    .list 42 (g.body.map dPr)]
theorem jw3 (g:Gu)(l:List Int):FnE prog gl 158 [.d (.list 1 (l.map (.int .u8))),.d (.ref (ki4 g) 0)] [] (λv H1=>v=.d (.bool (l.any λx=>decide (x=g.kind)))/\H1=[]):=by
 refine FnE.ofD ?_ (by(repeat (first|exact aM.nil|apply aM.cons (Pure.d _)|apply aM.cons (Pure.nils _)));fail_if_success intros)
 (refine j4 func158 ntmps158 results158 λw M=>?_)
 (repeat' first|refine yyp ?_|refine yy ?_|apply Cf 159;refine Ci (hc:=(kp6 gl l g.kind)) ?_|apply ah;refine Cc [0,1,3,4,5,6] ?_|refine Cb λK hK=>?_|apply_assumption -exfalso -symm)
 all_goals (refine j1 (j7 ?_))
 all_goals rfl
theorem rd3 (g:Gu):FnD prog (glS mm) 121 [.d (dGu g)] (λv=>v=.d (.bool (Jr g))):=by
 have hk1:=jw3 (glS mm) g [1,2,3,4];have hk2:=jw3 (glS mm) g [7];have hk3:=jw3 (glS mm) g [3,4];have hk4:=jw3 (glS mm) g [4];have c1:=jj7 (mm:=mm) g.cond;have c2:=ka5 (glS mm) g.cond;have c3:=Ka (mm:=mm) g.av;have c4:=ka5 (glS mm) g.av;have c5:=jj7 (mm:=mm) g.time;have c6:=ka5 (glS mm) g.time;have t1:=λa b=>me0 (glS mm) Ga g.aj a b λx _=>FnE.ofD (Ka (mm:=mm) x) (by(repeat (first|exact aM.nil|apply aM.cons (Pure.d _)|apply aM.cons (Pure.nils _)));fail_if_success intros);have t2:=λa b=>mr9 (glS mm) Gd g.values a b λx _=>FnE.ofD (jj7 (mm:=mm) x) (by(repeat (first|exact aM.nil|apply aM.cons (Pure.d _)|apply aM.cons (Pure.nils _)));fail_if_success intros);have hn:=jj6 (mm:=mm) g.name;simp only[r8]at c1 c2 c3 c4 c5 c6;rw[jb7]
 (refine j4 func121 ntmps121 results121 λw M=>?_)
 refine Cb λK0 h0=>?_
 (refine y6 (id:=0) ?_;(repeat' first|apply Ca 1;(refine Ck 1 ?_)|refine yyp ?_;try refine Ce ?_ ?_<;>intro hb|apply ah;refine Cc Ku ?_))
 refine h0 _ ?_;refine jo2 (t:=1) (env':=[(2,.d (.bool false)),(0,.d (dG g))]) (H':=[]) rfl rfl (by repeat (first|exact .nil|apply Frz.cons (.d _))) rfl (by(repeat (first|exact Sub.nil|apply Sub.cons rfl));fail_if_success intros) (by(repeat (first|exact Sub.nil|apply Sub.cons rfl));fail_if_success intros) rfl rfl ?_;refine Cb λK1 h1=>?_
 (refine y6 (id:=1) ?_;(repeat' first|refine yyp ?_;try refine Ce ?_ ?_<;>intro hb|apply ah;refine Cc Ku ?_))
 refine h1 _ ?_;refine Cb λK2 h2=>?_
 (refine y6 (id:=2) ?_;(repeat' first|refine yyp ?_|apply Cf 129;refine Ci (hc:=c1) ?_|apply ah;refine Cc Ku ?_))
 refine h2 _ ?_;refine z7 (ι:=Bool) (λx=>⟨[(4,.d (.bool x)),(3,.clo (.func 158) [] [.d (.ref (ki4 g) 0)]),(1,.d (.ref (ki4 g) 0)),(2,.d (.bool false)),(0,.d (dG g))],[],glS mm⟩) (λx=>x=(Gd g.cond || ((decide (g.kind=3) || decide (g.kind=4)) && Ip g.cond))) ?_ ?_
 ·(repeat' first|apply Ca 12;(refine Fu 12 ?_)|apply Ca 13;refine Qo (hc:=hk3) ?_;try refine Ce ?_ ?_<;>intro hb|apply Ca 15;refine yyp ?_;try refine Ce ?_ ?_<;>intro hb|refine yyp ?_|refine yy ?_|apply Cf 127;refine Ci (hc:=c2) ?_|apply ah;refine Cc Ku ?_|refine Cb λK hK=>?_|apply Cg 14;(try dsimp only[List.append]);refine j0 [] qj3 ?_|apply_assumption -exfalso -symm)
  all_goals
   refine⟨_,?_,v6⟩;clear hk1 hk2 hk3 hk4 t1 t2 hn c1 c2 c3 c4 c5 c6
   (repeat (rename (∀ S,TC _ _ _ S->_)=>hX;clear hX))
   try simp only[List.any_cons,List.any_nil,Ec]at hb
   grind
 intro b hbe;refine Cb λK5 h5=>?_
 (refine y6 (id:=5) ?_;(repeat' first|apply Ca 20;refine z_p Cu ?_|apply Ca 5;(refine j2 5 ?_)|refine yy ?_|apply ah;refine Cc Ku ?_))
 refine h5 _ ?_;refine z7 (ι:=Int × Int) (λx=>⟨[(5,.ptr 5 0),(4,.d (.bool b)),(3,.clo (.func 158) [] [.d (.ref (ki4 g) 0)]),(1,.d (.ref (ki4 g) 0)),(2,.d (.bool false)),(0,.d (dG g))],[(5,.box [.d (.int .i64 x.1),.d (.int .i64 x.2)])],glS mm⟩) (λx=>x.1=(if g.kind=3 then 1 else 0)/\x.2=(if g.kind=3\/g.kind=7 then 8 else 0)) ?_ ?_
 ·(repeat' first|apply Ca 23;refine yyp ?_;try refine Ce ?_ ?_<;>intro hb|apply Ca 26;refine yyp ?_;try refine Ce ?_ ?_<;>intro hb|apply Ca 28;refine z_p Cu ?_|refine yyp ?_|refine yy ?_|refine yy2 ?_ ?_<;>intro hcmp|apply ah;refine Cc Ku ?_|refine Cb λK hK=>?_|apply Cg 14;(try dsimp only[List.append]);refine j0 [] qj3 ?_|apply_assumption -exfalso -symm)
  all_goals
   refine⟨(_,_),?_,v6⟩;simp only[*,if_true,if_false,true_or,or_true,or_self,Int.reduceEq,and_self]
 rintro⟨a1,a2⟩ ⟨e1,e2⟩;dsimp only at e1 e2 ⊢;refine Cb λK11 h11=>?_
 (refine y6 (id:=11) ?_;(repeat' first|apply Ca 29;refine z_p Cu ?_|apply Ca 6;(refine j2 6 ?_)|refine yy ?_|apply ah;refine Cc Ku ?_))
 refine h11 _ ?_;refine z7 (ι:=Int × Int) (λx=>⟨[(6,.ptr 6 0),(5,.ptr 5 0),(4,.d (.bool b)),(3,.clo (.func 158) [] [.d (.ref (ki4 g) 0)]),(1,.d (.ref (ki4 g) 0)),(2,.d (.bool false)),(0,.d (dG g))],[(6,.box [.d (.int .i64 x.1),.d (.int .i64 x.2)]),(5,.box [.d (.int .i64 a1),.d (.int .i64 a2)])],glS mm⟩) (λx=>x.1=(if g.kind=5 then 1 else 0)/\x.2=(if g.kind=5 then 8 else 0)) ?_ ?_
 ·(repeat' first|refine yyp ?_|refine yy ?_|refine yy2 ?_ ?_<;>intro hcmp|apply ah;refine Cc Ku ?_|refine Cb λK hK=>?_|apply Cg 14;(try dsimp only[List.append]);refine j0 [] qj3 ?_|apply_assumption -exfalso -symm)
  all_goals
   refine⟨(_,_),?_,v6⟩;simp only[*,if_true,if_false,and_self]
 rintro⟨a3,a4⟩ ⟨e3,e4⟩;dsimp only at e3 e4 ⊢
 as_aux_lemma=>
  (repeat' first|apply Ca 37;(refine Od [0,1,2,3,4,5,6,13,22,23,26,32,36,37,38,39,40,41,42,43,44,45,46,47,48,49,50,51,52,53,54,55,56,57,58,59,60,61,62,63,64,65,66,67,68,69,70,71,72,73,74,75,76,77,78,79,80,81,82,83,84,85,86,87,88,89,90,91,92,93,94,95,96,97,98,99,100,101,102,103,104,105] ?_);(first|refine yyp ?_;try refine Ce ?_ ?_<;>intro hb|refine yy2 ?_ ?_<;>intro hcmp);all_goals try refine Dj false 37 2 Ku ?_|apply Ca 42;(refine Od [0,1,2,3,4,5,6,13,22,23,26,32,41,42,43,44,45,46,47,48,49,50,51,52,53,54,55,56,57,58,59,60,61,62,63,64,65,66,67,68,69,70,71,72,73,74,75,76,77,78,79,80,81,82,83,84,85,86,87,88,89,90,91,92,93,94,95,96,97,98,99,100,101,102,103,104,105] ?_);(first|refine yyp ?_;try refine Ce ?_ ?_<;>intro hb|refine yy2 ?_ ?_<;>intro hcmp);all_goals try refine Dj false 42 2 Ku ?_|apply Ca 48;(refine Od [0,1,2,3,4,5,6,13,22,23,26,32,47,48,49,50,51,52,53,54,55,56,57,58,59,60,61,62,63,64,65,66,67,68,69,70,71,72,73,74,75,76,77,78,79,80,81,82,83,84,85,86,87,88,89,90,91,92,93,94,95,96,97,98,99,100,101,102,103,104,105] ?_);(first|refine yyp ?_;try refine Ce ?_ ?_<;>intro hb|refine yy2 ?_ ?_<;>intro hcmp);all_goals try refine Dj false 48 2 Ku ?_|apply Ca 50;(refine Fu 50 ?_)|apply Ca 51;refine Qo (hc:=hk1) ?_|apply Ca 58;(refine Od [0,1,2,3,4,5,6,13,22,23,26,32,57,58,59,60,61,62,63,64,65,66,67,68,69,70,71,72,73,74,75,76,77,78,79,80,81,82,83,84,85,86,87,88,89,90,91,92,93,94,95,96,97,98,99,100,101,102,103,104,105] ?_);(first|refine yyp ?_;try refine Ce ?_ ?_<;>intro hb|refine yy2 ?_ ?_<;>intro hcmp);all_goals try refine Dj false 58 2 Ku ?_|apply Ca 60;(refine Fu 60 ?_)|apply Ca 61;refine Qo (hc:=hk2) ?_|apply Ca 70;(refine Od [0,1,2,3,4,5,6,13,22,23,26,32,69,70,71,72,73,74,75,76,77,78,79,80,81,82,83,84,85,86,87,88,89,90,91,92,93,94,95,96,97,98,99,100,101,102,103,104,105] ?_);(first|refine yyp ?_;try refine Ce ?_ ?_<;>intro hb|refine yy2 ?_ ?_<;>intro hcmp);all_goals try refine Dj false 70 2 Ku ?_|apply Ca 72;(refine Fu 72 ?_)|apply Ca 73;refine Qo (hc:=hk3) ?_|apply Ca 82;(refine Od [0,1,2,3,4,5,6,13,22,23,26,32,81,82,83,84,85,86,87,88,89,90,91,92,93,94,95,96,97,98,99,100,101,102,103,104,105] ?_);(first|refine yyp ?_;try refine Ce ?_ ?_<;>intro hb|refine yy2 ?_ ?_<;>intro hcmp);all_goals try refine Dj false 82 2 Ku ?_|apply Ca 84;(refine Fu 84 ?_)|apply Ca 85;refine Qo (hc:=hk4) ?_|apply Ca 94;(refine Od [0,1,2,3,4,5,6,13,22,23,26,32,93,94,95,96,97,98,99,100,101,102,103,104,105] ?_);(first|refine yyp ?_;try refine Ce ?_ ?_<;>intro hb|refine yy2 ?_ ?_<;>intro hcmp);all_goals try refine Dj false 94 2 Ku ?_|apply Ca 98;refine Ch (hc:=t1 _ _) ?_|apply Ca 100;(refine Od [0,1,2,3,4,5,6,13,22,23,26,32,99,100,101,102,103,104,105] ?_);(first|refine yyp ?_;try refine Ce ?_ ?_<;>intro hb|refine yy2 ?_ ?_<;>intro hcmp);all_goals try refine Dj false 100 2 Ku ?_|apply Ca 104;refine Ch (hc:=t2 _ _) ?_|refine yyp ?_|refine yy2 ?_ ?_<;>intro hcmp|apply Cf 127;refine Ci (hc:=c2) ?_|apply Cf 124;refine Ci (hc:=(md7 _ _ _ _)) ?_|apply Cf 125;refine Ci (hc:=hn) ?_|apply Cf 126;refine Ci (hc:=c3) ?_|apply Cf 127;refine Ci (hc:=c4) ?_|apply Cf 129;refine Ci (hc:=c5) ?_|apply Cf 127;refine Ci (hc:=c6) ?_|apply ah;refine Cc Ku ?_|refine Cb λK hK=>?_|apply Cg 14;(try dsimp only[List.append]);refine j0 [64,70] (lin [0,5,8,12,16,21,24,28,32,36,41,44,48,52,56,60,72,76,81,66,70,86,90,92,96,100,112,124,117,129,132,106,110,122,138,140,144,148,160,172,165,177,154,158,170,182,186,188,192,196,208,220,213,225,202,206,218,230,234,236,240,244,249,253,259,260,264,268,273,277,283,284,288]) ?_|apply_assumption -exfalso -symm)
  all_goals clear hk1 hk2 hk3 hk4 t1 t2 hn c1 c2 c3 c4 c5 c6
  all_goals as_aux_lemma=>first
   |((refine j1 (j7 ?_))
     (repeat (rename (∀ S,TC _ _ _ S->_)=>hX;clear hX))
     simp only[aF,At,Am,Jr]
     try simp only[List.any_cons,List.any_nil,Ec,jf5]at *
     clear K0
     grind)
end
section
def me9:List Nat:=[0,1,2,3,4,5,6,13,14,23,39,55,63]
variable {mm:Int}
theorem vv2:dSp sp0=.agg [.int .u8 0,.int .u8 0,.int .i64 0,.int .u8 0,.str ⟨#[]⟩,.list 1 [],.int .u8 0,.int .u8 0,.int .u8 0,.int .i32 0,.str ⟨#[]⟩,.list 6 [],.bool false,.list 2 [],.list 6 [],.list 42 []]:=rfl
attribute [local irreducible] TR TC
theorem ru9 (s:Sp):FnD prog (glS mm) 132 [.d (dSp s)] (λv=>v=.d (.bool (Hr s))):=by
 have q1:=kw0 (mm:=mm) s.type;have q2:=ms4 (mm:=mm) s.type;have q3:=jj7 (mm:=mm) s.e;have q4:=Ka (mm:=mm) s.e;have q5:=rc4 (mm:=mm) s.aN;have q6:=rt6 (glS mm) Lr s.ax 0 8 λx _=>FnE.ofD (qi7 (mm:=mm) x) (by(repeat (first|exact aM.nil|apply aM.cons (Pure.d _)|apply aM.cons (Pure.nils _)));fail_if_success intros);have q7:=λa b=>rb5 (glS mm) Cw s.names a b λx _=>FnE.ofD (jj6 (mm:=mm) x) (by(repeat (first|exact aM.nil|apply aM.cons (Pure.d _)|apply aM.cons (Pure.nils _)));fail_if_success intros);have w1:=jw1 (glS mm) s (.mk s.kind s.type s.names ex0 pt0 [] []);have w2:=jw1 (glS mm) s (.mk s.kind s.type s.names s.e pt0 [] []);have w3:=jw1 (glS mm) s (.mk s.kind ty0 s.names ex0 s.aN [] []);have w4:=jw1 (glS mm) s (.mk s.kind ty0 s.names ex0 pt0 s.ax s.body);simp only[r8]at q3 q4
 (refine j4 func132 ntmps132 results132 λw M=>?_)
 (repeat' first|apply Ca 1;(refine Ck 1 ?_)|apply Ca 10;refine z_p Cu ?_|apply Ca 3;(refine j2 3 ?_)|apply Ca 4;(refine j2 4 ?_)|apply Ca 14;refine yyp ?_;try refine Ce ?_ ?_<;>intro hb|apply Ca 23;refine yyp ?_;try refine Ce ?_ ?_<;>intro hb|apply Ca 34;refine yyp ?_;try refine Ce ?_ ?_<;>intro hb|apply Ca 39;refine yyp ?_;try refine Ce ?_ ?_<;>intro hb|apply Ca 50;refine yyp ?_;try refine Ce ?_ ?_<;>intro hb|apply Ca 55;refine yyp ?_;try refine Ce ?_ ?_<;>intro hb|apply Ca 63;refine yyp ?_;try refine Ce ?_ ?_<;>intro hb|apply Ca 75;refine yyp ?_;try refine Ce ?_ ?_<;>intro hb|apply Ca 79;refine Ch (hc:=q6) ?_|apply Ca 82;refine yyp ?_;try refine Ce ?_ ?_<;>intro hb|apply Ca 86;refine Ch (hc:=q7 _ _) ?_|apply Ca 88;refine yyp ?_;try refine Ce ?_ ?_<;>intro hb|refine yyp ?_|refine yy ?_|refine yy2 ?_ ?_<;>intro hcmp|apply Cf 172;refine Ci (hc:=q1) ?_|apply Cf 173;refine Ci (hc:=q2) ?_|apply Cf 129;refine Ci (hc:=q3) ?_|apply Cf 126;refine Ci (hc:=q4) ?_|apply Cf 174;refine Ci (hc:=q5) ?_|apply Cf 178;refine Ci (hc:=(by first|exact w1|exact w2|exact w3|exact w4)) ?_|apply ah;refine Cc me9 ?_|(apply Iz (x:=.region 6 _ _);focus ((apply Cg 6;refine j0 [3,5] q0h ?_);(repeat' (first|refine yyp ?_|refine yy ?_|apply ah;refine Cc me9 ?_|refine Jd ?_ ?_));(all_goals first|exact Wk.refl _ _|exact v6);done))|(apply Iz (x:=.region 9 _ _);focus ((apply Cg 9;refine j0 [5,7] q0e ?_);(repeat' (first|refine yyp ?_|refine yy ?_|apply ah;refine Cc me9 ?_|refine Jd ?_ ?_));(all_goals first|exact Wk.refl _ _|exact v6);done))|(apply Iz (x:=.region 12 _ _);focus ((apply Cg 12;refine j0 [5,7] q0e ?_);(repeat' (first|refine yyp ?_|refine yy ?_|apply ah;refine Cc me9 ?_|refine Jd ?_ ?_));(all_goals first|exact Wk.refl _ _|exact v6);done))|(apply Iz (x:=.region 18 _ _);focus ((apply Cg 18;refine j0 [5,7] q0e ?_);(repeat' (first|refine yyp ?_|refine yy ?_|apply ah;refine Cc me9 ?_|refine Jd ?_ ?_));(all_goals first|exact Wk.refl _ _|exact v6);done))|refine Cb λK hK=>?_|apply Cg 6;refine j0 [3,5] q0h ?_|apply Cg 9;refine j0 [5,7] q0e ?_|apply Cg 12;refine j0 [5,7] q0e ?_|apply Cg 18;refine j0 [5,7] q0e ?_|apply_assumption -exfalso -symm)
 all_goals clear q1 q2 q3 q4 q5 q6 q7 w1 w2 w3 w4
 all_goals
  (refine j1 (j7 ?_))
  (repeat (rename (∀ S,TC _ _ _ S->_)=>hX;clear hX))
  simp only[aF,At,Am];rw[Ej];simp only[Hr,Vi,Xk,Ip,Sp.kind,Sp.type,Sp.names,Sp.e,Sp.aN,Sp.ax,Sp.body,Ah,Az,true_and,and_true]at *
  grind [j9,Em]
end
end Go.Proofs.YtklklgfpkpglgaaGreatDoor
