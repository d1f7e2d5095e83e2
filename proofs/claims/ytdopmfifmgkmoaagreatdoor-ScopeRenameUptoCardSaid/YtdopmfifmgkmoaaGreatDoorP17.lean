/- Parts: O20, O21. -/
import Derived.Test.YtdopmfifmgkmoaaGreatDoorP16
set_option linter.all false
set_option maxRecDepth 100000
set_option maxHeartbeats 16000000
namespace Go.Proofs.YtdopmfifmgkmoaaGreatDoor
open Go.RowKit Go.Proofs.Tryz
section
def Vq:List Nat:=[0,1,4,5,6,7,8,9,16]
def Kn:List Nat:=[0,1,2,3,4,5,6,13,22,23,26,32]
variable {mm:Int}
theorem rk7 (l:List Int)(y:Int):0<=jd5 (fun x=>decide (x=y)) l↔l.any (fun x=>decide (x=y))=true:=je1 _ l
attribute [local irreducible] TR TC
theorem me9 (gl:List (Nat × List D))(l:List Int)(y:Int):FnD prog gl 198 [.d (.list 1 (l.map (.int .u8))),.d (.int .u8 y)] (fun v=>v=.d (.int .i64 (jd5 (fun x=>decide (x=y)) l))):=by
 (refine j3 func198 ntmps198 results198 fun w M=>?_)
 refine r7 0 rfl fun hn=>?_;simp only[Aa]at hn
 (repeat' first|refine yyp ?_;try refine Cc ?_ ?_<;>intro hb|refine yy ?_|refine at_nil ?_;refine Ce Vq ?_|refine Cb fun K hK=>?_|apply_assumption -exfalso -symm)
 refine j8 [4,5,8,9,10,11,12,13,14,15,16,17,18] [] (fun k:Nat=>[(8,.d (.int .i64 k))]) (fun _=>[]) (fun k=>k<=l.length/\jd5 (fun x=>decide (x=y)) l=if jd5 (fun x=>decide (x=y)) (l.drop k)<0 then -1 else jd5 (fun x=>decide (x=y)) (l.drop k)+k) (fun k=>l.length - k) 0 ⟨Ak _,by have:=p8 (fun x=>decide (x=y)) l;simp only[Et];split<;>omega⟩ fun k ⟨hk,hi⟩=>?_;dsimp only[Ac,Ad];have hlo:=p8 (fun x=>decide (x=y)) (l.drop (k+1));rcases Ah k l.length with hk2|hk2
 ·rw[g9 _ _ _ hk2]at hi
  (repeat' first|refine yyp ?_;try refine Cc ?_ ?_<;>intro hb|refine yy ?_|refine yy2 ?_ ?_<;>intro hcmp|refine at_nil ?_;refine Ce Vq ?_|refine Cb fun K hK=>?_|apply_assumption -exfalso -symm)
  ·(refine j0 (j5 ?_))
   rw[hi,Ae (Bt hcmp.symm)];simp[oneOf]
  ·refine⟨k+1,⟨by omega,?_⟩,by omega,v6⟩;rw[hi,Af (show ¬decide (l[k]=y)=true by rw[Al];exact fun e=>hcmp e.symm)];split<;>split<;>(try split)<;>omega
 ·(repeat' first|refine yyp ?_;try refine Cc ?_ ?_<;>intro hb|refine yy ?_|refine at_nil ?_;refine Ce Vq ?_|refine Cb fun K hK=>?_|apply_assumption -exfalso -symm)
  (refine j0 (j5 ?_))
  rw[hi,Br hk2];simp[oneOf,jd5]
theorem kl1 (gl:List (Nat × List D))(l:List Int)(y:Int):FnD prog gl 172 [.d (.list 1 (l.map (.int .u8))),.d (.int .u8 y)] (fun v=>v=.d (.bool (l.any fun x=>decide (x=y)))):=by
 have hany:=rk7 l y
 (refine j3 func172 ntmps172 results172 fun w M=>?_)
 (repeat' first|refine yyp ?_;try refine Cc ?_ ?_<;>intro hb|refine yy ?_|refine yy2 ?_ ?_<;>intro hcmp|refine Cf 198 ?_;refine Cg (hc:=(me9 gl l y)) ?_|refine at_nil ?_;refine Ce [0,1,4,5,6,7] ?_|refine Cb fun K hK=>?_|apply_assumption -exfalso -symm)
 all_goals (refine j0 (j5 ?_))
 all_goals simp only[oneOf,Ax,An]
 all_goals first
  |exact(hany.1 (by omega)).symm
  |(symm;cases ha:l.any (fun x=>decide (x=y)) with
   |false=>rfl
   |true=>exfalso;have:=hany.2 ha;omega)
def kf1 (g:Gu):List D:=[.int .u8 g.kind,.str g.name,
    .int .u8 g.cond.kind,.int .u8 g.cond.op,.int .u8 g.cond.ty,.int .i32 g.cond.n,.str g.cond.s,.list 6 (g.cond.l.map dEx),
    .int .u8 g.chan.kind,.int .u8 g.chan.op,.int .u8 g.chan.ty,.int .i32 g.chan.n,.str g.chan.s,.list 6 (g.chan.l.map dEx),
    .list 6 (g.targets.map dEx),.list 6 (g.values.map dEx),
    .int .u8 g.time.kind,.int .u8 g.time.op,.int .u8 g.time.ty,.int .i32 g.time.n,.str g.time.s,.list 6 (g.time.l.map dEx),
    .list 42 (g.body.map dPr)]
theorem jv2 (gl:List (Nat × List D))(g:Gu)(l:List Int):FnE prog gl 171 [.d (.list 1 (l.map (.int .u8))),.d (.ref (kf1 g) 0)] [] (fun v H1=>v=.d (.bool (l.any fun x=>decide (x=g.kind)))/\H1=[]):=by
 refine FnE.ofD ?_ (by(repeat (first|exact Pures.nil|apply Pures.cons (Pure.d _)|apply Pures.cons (Pure.nils _)));fail_if_success intros)
 (refine j3 func171 ntmps171 results171 fun w M=>?_)
 (repeat' first|refine yyp ?_|refine yy ?_|refine Cf 172 ?_;refine Cg (hc:=(kl1 gl l g.kind)) ?_|refine at_nil ?_;refine Ce [0,1,3,4,5,6] ?_|refine Cb fun K hK=>?_|apply_assumption -exfalso -symm)
 all_goals (refine j0 (j5 ?_))
 all_goals rfl
theorem qo8 (g:Gu):FnD prog (glS mm) 136 [.d (dGu g)] (fun v=>v=.d (.bool (Lx.Lh g))):=by
 have hk1:=jv2 (glS mm) g [1,2,3,4];have hk2:=jv2 (glS mm) g [7];have hk3:=jv2 (glS mm) g [3,4];have hk4:=jv2 (glS mm) g [4];have c1:=ji8 (mm:=mm) g.cond;have c2:=jy0 (glS mm) g.cond;have c3:=jl0 (mm:=mm) g.chan;have c4:=jy0 (glS mm) g.chan;have c5:=ji8 (mm:=mm) g.time;have c6:=jy0 (glS mm) g.time;have t1:=fun a b=>ky0 (glS mm) Lx.Hf g.targets a b fun x _=>FnE.ofD (jl0 (mm:=mm) x) (by(repeat (first|exact Pures.nil|apply Pures.cons (Pure.d _)|apply Pures.cons (Pure.nils _)));fail_if_success intros);have t2:=fun a b=>mj5 (glS mm) Lx.Gr g.values a b fun x _=>FnE.ofD (ji8 (mm:=mm) x) (by(repeat (first|exact Pures.nil|apply Pures.cons (Pure.d _)|apply Pures.cons (Pure.nils _)));fail_if_success intros);have hn:=ji7 (mm:=mm) g.name;simp only[r9]at c1 c2 c3 c4 c5 c6;rw[je9]
 (refine j3 func136 ntmps136 results136 fun w M=>?_)
 refine Cb fun K0 h0=>?_
 (refine x7 (id:=0) ?_;(repeat' first|refine Ca 1 ?_;(refine j6 1 ?_)|refine yyp ?_;try refine Cc ?_ ?_<;>intro hb|refine at_nil ?_;refine Ce Kn ?_))
 refine h0 _ ?_;refine jp2 (t:=1) (env':=[(2,.d (.bool false)),(0,.d (dG g))]) (H':=[]) rfl rfl (by repeat (first|exact .nil|apply Frz.cons (.d _))) rfl (by(repeat (first|exact Sub.nil|apply Sub.cons rfl));fail_if_success intros) (by(repeat (first|exact Sub.nil|apply Sub.cons rfl));fail_if_success intros) rfl rfl ?_;refine Cb fun K1 h1=>?_
 (refine x7 (id:=1) ?_;(repeat' first|refine yyp ?_;try refine Cc ?_ ?_<;>intro hb|refine at_nil ?_;refine Ce Kn ?_))
 refine h1 _ ?_;refine Cb fun K2 h2=>?_
 (refine x7 (id:=2) ?_;(repeat' first|refine yyp ?_|refine Cf 144 ?_;refine Cg (hc:=c1) ?_|refine at_nil ?_;refine Ce Kn ?_))
 refine h2 _ ?_;refine g8 (ι:=Bool) (fun x=>⟨[(4,.d (.bool x)),(3,.clo (.func 171) [] [.d (.ref (kf1 g) 0)]),(1,.d (.ref (kf1 g) 0)),(2,.d (.bool false)),(0,.d (dG g))],[],glS mm⟩) (fun x=>x=(Lx.Gr g.cond || ((decide (g.kind=3) || decide (g.kind=4)) && Lx.Jm g.cond))) ?_ ?_
 ·(repeat' first|refine Ca 12 ?_;(refine Dh 12 ?_)|refine Ca 13 ?_;refine Qz (hc:=hk3) ?_;try refine Cc ?_ ?_<;>intro hb|refine Ca 15 ?_;refine yyp ?_;try refine Cc ?_ ?_<;>intro hb|refine yyp ?_|refine yy ?_|refine Cf 142 ?_;refine Cg (hc:=c2) ?_|refine at_nil ?_;refine Ce Kn ?_|refine Cb fun K hK=>?_|refine Ck 14 ?_;(try dsimp only[List.append]);refine j1 [] qo20_2 ?_|apply_assumption -exfalso -symm)
  all_goals
   refine⟨_,?_,v6⟩;clear hk1 hk2 hk3 hk4 t1 t2 hn c1 c2 c3 c4 c5 c6
   (repeat (rename (∀ S:Sd,TC _ _ _ S->_)=>hX;clear hX))
   try simp only[List.any_cons,List.any_nil,Ea]at hb
   grind
 intro b hbe;refine Cb fun K5 h5=>?_
 (refine x7 (id:=5) ?_;(repeat' first|refine Ca 20 ?_;refine z_p Cr ?_|refine Ca 5 ?_;(refine Cj 5 ?_)|refine yy ?_|refine at_nil ?_;refine Ce Kn ?_))
 refine h5 _ ?_;refine g8 (ι:=Int × Int) (fun x=>⟨[(5,.ptr 5 0),(4,.d (.bool b)),(3,.clo (.func 171) [] [.d (.ref (kf1 g) 0)]),(1,.d (.ref (kf1 g) 0)),(2,.d (.bool false)),(0,.d (dG g))],[(5,.box [.d (.int .i64 x.1),.d (.int .i64 x.2)])],glS mm⟩) (fun x=>x.1=(if g.kind=3 then 1 else 0)/\x.2=(if g.kind=3\/g.kind=7 then 8 else 0)) ?_ ?_
 ·(repeat' first|refine Ca 23 ?_;refine yyp ?_;try refine Cc ?_ ?_<;>intro hb|refine Ca 26 ?_;refine yyp ?_;try refine Cc ?_ ?_<;>intro hb|refine Ca 28 ?_;refine z_p Cr ?_|refine yyp ?_|refine yy ?_|refine yy2 ?_ ?_<;>intro hcmp|refine at_nil ?_;refine Ce Kn ?_|refine Cb fun K hK=>?_|refine Ck 14 ?_;(try dsimp only[List.append]);refine j1 [] qo20_2 ?_|apply_assumption -exfalso -symm)
  all_goals
   refine⟨(_,_),?_,v6⟩;simp only[*,if_true,if_false,true_or,or_true,or_self,Int.reduceEq,and_self]
 rintro⟨a1,a2⟩ ⟨e1,e2⟩;dsimp only at e1 e2 ⊢;refine Cb fun K11 h11=>?_
 (refine x7 (id:=11) ?_;(repeat' first|refine Ca 29 ?_;refine z_p Cr ?_|refine Ca 6 ?_;(refine Cj 6 ?_)|refine yy ?_|refine at_nil ?_;refine Ce Kn ?_))
 refine h11 _ ?_;refine g8 (ι:=Int × Int) (fun x=>⟨[(6,.ptr 6 0),(5,.ptr 5 0),(4,.d (.bool b)),(3,.clo (.func 171) [] [.d (.ref (kf1 g) 0)]),(1,.d (.ref (kf1 g) 0)),(2,.d (.bool false)),(0,.d (dG g))],[(6,.box [.d (.int .i64 x.1),.d (.int .i64 x.2)]),(5,.box [.d (.int .i64 a1),.d (.int .i64 a2)])],glS mm⟩) (fun x=>x.1=(if g.kind=5 then 1 else 0)/\x.2=(if g.kind=5 then 8 else 0)) ?_ ?_
 ·(repeat' first|refine yyp ?_|refine yy ?_|refine yy2 ?_ ?_<;>intro hcmp|refine at_nil ?_;refine Ce Kn ?_|refine Cb fun K hK=>?_|refine Ck 14 ?_;(try dsimp only[List.append]);refine j1 [] qo20_2 ?_|apply_assumption -exfalso -symm)
  all_goals
   refine⟨(_,_),?_,v6⟩;simp only[*,if_true,if_false,and_self]
 rintro⟨a3,a4⟩ ⟨e3,e4⟩;dsimp only at e3 e4 ⊢
 as_aux_lemma=>
  (repeat' first|refine Ca 37 ?_;(refine Od [0,1,2,3,4,5,6,13,22,23,26,32,36,37,38,39,40,41,42,43,44,45,46,47,48,49,50,51,52,53,54,55,56,57,58,59,60,61,62,63,64,65,66,67,68,69,70,71,72,73,74,75,76,77,78,79,80,81,82,83,84,85,86,87,88,89,90,91,92,93,94,95,96,97,98,99,100,101,102,103,104,105] ?_);(first|refine yyp ?_;try refine Cc ?_ ?_<;>intro hb|refine yy2 ?_ ?_<;>intro hcmp);all_goals try refine Db false 37 2 Kn ?_|refine Ca 42 ?_;(refine Od [0,1,2,3,4,5,6,13,22,23,26,32,41,42,43,44,45,46,47,48,49,50,51,52,53,54,55,56,57,58,59,60,61,62,63,64,65,66,67,68,69,70,71,72,73,74,75,76,77,78,79,80,81,82,83,84,85,86,87,88,89,90,91,92,93,94,95,96,97,98,99,100,101,102,103,104,105] ?_);(first|refine yyp ?_;try refine Cc ?_ ?_<;>intro hb|refine yy2 ?_ ?_<;>intro hcmp);all_goals try refine Db false 42 2 Kn ?_|refine Ca 48 ?_;(refine Od [0,1,2,3,4,5,6,13,22,23,26,32,47,48,49,50,51,52,53,54,55,56,57,58,59,60,61,62,63,64,65,66,67,68,69,70,71,72,73,74,75,76,77,78,79,80,81,82,83,84,85,86,87,88,89,90,91,92,93,94,95,96,97,98,99,100,101,102,103,104,105] ?_);(first|refine yyp ?_;try refine Cc ?_ ?_<;>intro hb|refine yy2 ?_ ?_<;>intro hcmp);all_goals try refine Db false 48 2 Kn ?_|refine Ca 50 ?_;(refine Dh 50 ?_)|refine Ca 51 ?_;refine Qz (hc:=hk1) ?_|refine Ca 58 ?_;(refine Od [0,1,2,3,4,5,6,13,22,23,26,32,57,58,59,60,61,62,63,64,65,66,67,68,69,70,71,72,73,74,75,76,77,78,79,80,81,82,83,84,85,86,87,88,89,90,91,92,93,94,95,96,97,98,99,100,101,102,103,104,105] ?_);(first|refine yyp ?_;try refine Cc ?_ ?_<;>intro hb|refine yy2 ?_ ?_<;>intro hcmp);all_goals try refine Db false 58 2 Kn ?_|refine Ca 60 ?_;(refine Dh 60 ?_)|refine Ca 61 ?_;refine Qz (hc:=hk2) ?_|refine Ca 70 ?_;(refine Od [0,1,2,3,4,5,6,13,22,23,26,32,69,70,71,72,73,74,75,76,77,78,79,80,81,82,83,84,85,86,87,88,89,90,91,92,93,94,95,96,97,98,99,100,101,102,103,104,105] ?_);(first|refine yyp ?_;try refine Cc ?_ ?_<;>intro hb|refine yy2 ?_ ?_<;>intro hcmp);all_goals try refine Db false 70 2 Kn ?_|refine Ca 72 ?_;(refine Dh 72 ?_)|refine Ca 73 ?_;refine Qz (hc:=hk3) ?_|refine Ca 82 ?_;(refine Od [0,1,2,3,4,5,6,13,22,23,26,32,81,82,83,84,85,86,87,88,89,90,91,92,93,94,95,96,97,98,99,100,101,102,103,104,105] ?_);(first|refine yyp ?_;try refine Cc ?_ ?_<;>intro hb|refine yy2 ?_ ?_<;>intro hcmp);all_goals try refine Db false 82 2 Kn ?_|refine Ca 84 ?_;(refine Dh 84 ?_)|refine Ca 85 ?_;refine Qz (hc:=hk4) ?_|refine Ca 94 ?_;(refine Od [0,1,2,3,4,5,6,13,22,23,26,32,93,94,95,96,97,98,99,100,101,102,103,104,105] ?_);(first|refine yyp ?_;try refine Cc ?_ ?_<;>intro hb|refine yy2 ?_ ?_<;>intro hcmp);all_goals try refine Db false 94 2 Kn ?_|refine Ca 98 ?_;refine Ch (hc:=t1 _ _) ?_|refine Ca 100 ?_;(refine Od [0,1,2,3,4,5,6,13,22,23,26,32,99,100,101,102,103,104,105] ?_);(first|refine yyp ?_;try refine Cc ?_ ?_<;>intro hb|refine yy2 ?_ ?_<;>intro hcmp);all_goals try refine Db false 100 2 Kn ?_|refine Ca 104 ?_;refine Ch (hc:=t2 _ _) ?_|refine yyp ?_|refine yy2 ?_ ?_<;>intro hcmp|refine Cf 142 ?_;refine Cg (hc:=c2) ?_|refine Cf 139 ?_;refine Cg (hc:=(kx8 _ _ _ _)) ?_|refine Cf 140 ?_;refine Cg (hc:=hn) ?_|refine Cf 141 ?_;refine Cg (hc:=c3) ?_|refine Cf 142 ?_;refine Cg (hc:=c4) ?_|refine Cf 144 ?_;refine Cg (hc:=c5) ?_|refine Cf 142 ?_;refine Cg (hc:=c6) ?_|refine at_nil ?_;refine Ce Kn ?_|refine Cb fun K hK=>?_|refine Ck 14 ?_;(try dsimp only[List.append]);refine j1 [64,70] (lin [0,5,8,12,16,21,24,28,32,36,41,44,48,52,56,60,72,76,81,66,70,86,90,92,96,100,112,124,117,129,132,106,110,122,138,140,144,148,160,172,165,177,154,158,170,182,186,188,192,196,208,220,213,225,202,206,218,230,234,236,240,244,249,253,259,260,264,268,273,277,283,284,288]) ?_|apply_assumption -exfalso -symm)
  all_goals clear hk1 hk2 hk3 hk4 t1 t2 hn c1 c2 c3 c4 c5 c6
  all_goals as_aux_lemma=>first
   |((refine j0 (j5 ?_))
     (repeat (rename (∀ S:Sd,TC _ _ _ S->_)=>hX;clear hX))
     simp only[oneOf,Ax,An,Lx.Lh]
     try simp only[List.any_cons,List.any_nil,Ea,jf0]at *
     clear K0
     grind)
end
section
def ky7:List Nat:=[0,1,2,3,4,5,6,13,14,23,39,55,63]
variable {mm:Int}
theorem rs1:dSp sp0=.agg [.int .u8 0,.int .u8 0,.int .i64 0,.int .u8 0,.str ⟨#[]⟩,.list 1 [],.int .u8 0,.int .u8 0,.int .u8 0,.int .i32 0,.str ⟨#[]⟩,.list 6 [],.bool false,.list 2 [],.list 6 [],.list 42 []]:=rfl
attribute [local irreducible] TR TC
theorem ra9 (s:Sp):FnD prog (glS mm) 147 [.d (dSp s)] (fun v=>v=.d (.bool (Lx.Jf s))):=by
 have q1:=kq9 (mm:=mm) s.type;have q2:=mj7 (mm:=mm) s.type;have q3:=ji8 (mm:=mm) s.e;have q4:=jl0 (mm:=mm) s.e;have q5:=qo2 (mm:=mm) s.proto;have q6:=ra3 (glS mm) Lx.Mg s.formals 0 8 fun x _=>FnE.ofD (mz4 (mm:=mm) x) (by(repeat (first|exact Pures.nil|apply Pures.cons (Pure.d _)|apply Pures.cons (Pure.nils _)));fail_if_success intros);have q7:=fun a b=>qn3 (glS mm) Lx.Dg s.names a b fun x _=>FnE.ofD (ji7 (mm:=mm) x) (by(repeat (first|exact Pures.nil|apply Pures.cons (Pure.d _)|apply Pures.cons (Pure.nils _)));fail_if_success intros);have w1:=jv1 (glS mm) s (.mk s.kind s.type s.names ex0 pt0 [] []);have w2:=jv1 (glS mm) s (.mk s.kind s.type s.names s.e pt0 [] []);have w3:=jv1 (glS mm) s (.mk s.kind ty0 s.names ex0 s.proto [] []);have w4:=jv1 (glS mm) s (.mk s.kind ty0 s.names ex0 pt0 s.formals s.body);simp only[r9]at q3 q4
 (refine j3 func147 ntmps147 results147 fun w M=>?_)
 (repeat' first|refine Ca 1 ?_;(refine j6 1 ?_)|refine Ca 10 ?_;refine z_p Cr ?_|refine Ca 3 ?_;(refine Cj 3 ?_)|refine Ca 4 ?_;(refine Cj 4 ?_)|refine Ca 14 ?_;refine yyp ?_;try refine Cc ?_ ?_<;>intro hb|refine Ca 23 ?_;refine yyp ?_;try refine Cc ?_ ?_<;>intro hb|refine Ca 34 ?_;refine yyp ?_;try refine Cc ?_ ?_<;>intro hb|refine Ca 39 ?_;refine yyp ?_;try refine Cc ?_ ?_<;>intro hb|refine Ca 50 ?_;refine yyp ?_;try refine Cc ?_ ?_<;>intro hb|refine Ca 55 ?_;refine yyp ?_;try refine Cc ?_ ?_<;>intro hb|refine Ca 63 ?_;refine yyp ?_;try refine Cc ?_ ?_<;>intro hb|refine Ca 75 ?_;refine yyp ?_;try refine Cc ?_ ?_<;>intro hb|refine Ca 79 ?_;refine Ch (hc:=q6) ?_|refine Ca 82 ?_;refine yyp ?_;try refine Cc ?_ ?_<;>intro hb|refine Ca 86 ?_;refine Ch (hc:=q7 _ _) ?_|refine Ca 88 ?_;refine yyp ?_;try refine Cc ?_ ?_<;>intro hb|refine yyp ?_|refine yy ?_|refine yy2 ?_ ?_<;>intro hcmp|refine Cf 184 ?_;refine Cg (hc:=q1) ?_|refine Cf 185 ?_;refine Cg (hc:=q2) ?_|refine Cf 144 ?_;refine Cg (hc:=q3) ?_|refine Cf 141 ?_;refine Cg (hc:=q4) ?_|refine Cf 186 ?_;refine Cg (hc:=q5) ?_|refine Cf 125 ?_;refine Cg (hc:=(by first|exact w1|exact w2|exact w3|exact w4)) ?_|refine at_nil ?_;refine Ce ky7 ?_|(apply Dp (x:=.region 6 _ _);focus ((refine Ck 6 ?_;refine j1 [3,5] (Cm [4,1] (.mid 2 (lin [15,16,23]) 3 (lin [9,16,23]))) ?_);(repeat' (first|refine yyp ?_|refine yy ?_|refine at_nil ?_;refine Ce ky7 ?_|refine n9 ?_ ?_));(all_goals first|exact Wk.refl _ _|exact v6);done))|(apply Dp (x:=.region 9 _ _);focus ((refine Ck 9 ?_;refine j1 [5,7] (Cm [0,8,5,16] (.mid 3 (lin [23,24,31]) 5 (lin [13,24,31]))) ?_);(repeat' (first|refine yyp ?_|refine yy ?_|refine at_nil ?_;refine Ce ky7 ?_|refine n9 ?_ ?_));(all_goals first|exact Wk.refl _ _|exact v6);done))|(apply Dp (x:=.region 12 _ _);focus ((refine Ck 12 ?_;refine j1 [5,7] (Cm [0,8,5,16] (.mid 3 (lin [23,24,31]) 5 (lin [13,24,31]))) ?_);(repeat' (first|refine yyp ?_|refine yy ?_|refine at_nil ?_;refine Ce ky7 ?_|refine n9 ?_ ?_));(all_goals first|exact Wk.refl _ _|exact v6);done))|(apply Dp (x:=.region 18 _ _);focus ((refine Ck 18 ?_;refine j1 [5,7] (Cm [0,8,5,16] (.mid 3 (lin [23,24,31]) 5 (lin [13,24,31]))) ?_);(repeat' (first|refine yyp ?_|refine yy ?_|refine at_nil ?_;refine Ce ky7 ?_|refine n9 ?_ ?_));(all_goals first|exact Wk.refl _ _|exact v6);done))|refine Cb fun K hK=>?_|refine Ck 6 ?_;refine j1 [3,5] (Cm [4,1] (.mid 2 (lin [15,16,23]) 3 (lin [9,16,23]))) ?_|refine Ck 9 ?_;refine j1 [5,7] (Cm [0,8,5,16] (.mid 3 (lin [23,24,31]) 5 (lin [13,24,31]))) ?_|refine Ck 12 ?_;refine j1 [5,7] (Cm [0,8,5,16] (.mid 3 (lin [23,24,31]) 5 (lin [13,24,31]))) ?_|refine Ck 18 ?_;refine j1 [5,7] (Cm [0,8,5,16] (.mid 3 (lin [23,24,31]) 5 (lin [13,24,31]))) ?_|apply_assumption -exfalso -symm)
 all_goals clear q1 q2 q3 q4 q5 q6 q7 w1 w2 w3 w4
 all_goals
  (refine j0 (j5 ?_))
  (repeat (rename (∀ S:Sd,TC _ _ _ S->_)=>hX;clear hX))
  simp only[oneOf,Ax,An];rw[Ej];simp only[Lx.Jf,Lx.Us,Lx.Wo,Lx.Jm,Sp.kind,Sp.type,Sp.names,Sp.e,Sp.proto,Sp.formals,Sp.body,Al,Aq,true_and,and_true]at *
  grind [k7,El]
end
end Go.Proofs.YtdopmfifmgkmoaaGreatDoor
