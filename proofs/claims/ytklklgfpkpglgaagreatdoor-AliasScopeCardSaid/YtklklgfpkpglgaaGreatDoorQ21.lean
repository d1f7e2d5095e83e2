/- Parts. -/
import Derived.Test.YtklklgfpkpglgaaGreatDoorQ20
set_option linter.all false
set_option maxRecDepth 100000
set_option maxHeartbeats 0
namespace Go.Proofs.YtklklgfpkpglgaaGreatDoor
open Go.RowKit Go.Proofs.Tryz Lx
abbrev ubx (u:Lx.Uses):List V:=[.d (.bool u.rep),.d (.bool u.name),.d (.bool u.channel),.d (.bool u.spec),.d (.bool u.ay),.d (.int .i64 u.t0),.d (.int .i64 u.t1),.d (.int .i64 u.e0),.d (.int .i64 u.e1),.d (.int .i64 u.p0),.d (.int .i64 u.p1),.d (.int .i64 u.g0),.d (.int .i64 u.g1),.d (.int .u8 u.a),.d (.int .u8 u.b)]
variable (gl:List (Nat × List D))
section
def Wt:List Nat:=[0,1,4,5,6,7,8,9,16]
attribute [local irreducible] TR TC
theorem vq3 (u:Lx.Uses)(x:Gu)(b:Bool)(h:FnE prog gl 120 [.d (dGu (x)),.ptr 3 0] [(3,.box (ubx u))] (λv H1=>v=.d (.bool b)/\H1=[(3,.box (ubx u))])):
 FnE prog gl 161 [.d (dGu (x)),.ptr 5 0] [(5,.box [.clo (.func 120) [] [.ptr 3 0]]),(3,.box (ubx u))] (λv H1=>v=.d (.bool (!b))/\H1=[(5,.box [.clo (.func 120) [] [.ptr 3 0]]),(3,.box (ubx u))]):=by
 simp only[jb7]at h ⊢
 (refine j3 func161 ntmps161 results161 λw M E b0=>?_)
 (repeat' first|apply Ca 2;(refine Ck 2 ?_)|apply Ca 6;refine Ch (hc:=h) ?_;try refine Ce ?_ ?_<;>intro hb|refine yyp ?_;try refine Ce ?_ ?_<;>intro hb|refine yy ?_|apply ah;refine Cc [0,1,2,3,4,5,6] ?_|refine Cb λK hK=>?_|apply_assumption -exfalso -symm)
 all_goals (refine j1 (j8 ⟨?_,rfl⟩))
 all_goals simp only[aF, *,Bool.not_true,Bool.not_false]
theorem vq4 (u:Lx.Uses)(q:Gu->Bool)(l:List Gu)(h:∀ (k:Nat) (hk:k<l.length),FnE prog gl 161 [.d (dGu (l[k])),.ptr 5 0] [(5,.box [.clo (.func 120) [] [.ptr 3 0]]),(3,.box (ubx u))] (λv H1=>v=.d (.bool (q l[k]))/\H1=[(5,.box [.clo (.func 120) [] [.ptr 3 0]]),(3,.box (ubx u))])):
 FnE prog gl 192 [.d (.list 23 (l.map (λx=>dGu (x)))),.clo (.func 161) [] [.ptr 5 0]] [(5,.box [.clo (.func 120) [] [.ptr 3 0]]),(3,.box (ubx u))] (λv H1=>v=.d (.int .i64 (jf4 q l))/\H1=[(5,.box [.clo (.func 120) [] [.ptr 3 0]]),(3,.box (ubx u))]):=by
 simp only[jb7]at h ⊢
 (refine j3 func192 ntmps192 results192 λw M E b0=>?_)
 refine k7 0 rfl λhn=>?_;simp only[Ab]at hn
 (repeat' first|refine yyp ?_;try refine Ce ?_ ?_<;>intro hb|refine yy ?_|apply ah;refine Cc Wt ?_|refine Cb λK hK=>?_|apply_assumption -exfalso -symm)
 refine k9 [4,5,8,9,10,11,12,13,14,15,16,17,18] [] (λk:Nat=>[(8,.d (.int .i64 k))]) (λ_=>[]) (λk=>k<=l.length/\jf4 q l=if jf4 q (l.drop k)<0 then -1 else jf4 q (l.drop k)+k) (λk=>l.length - k) 0 ⟨Ak _,by have:=ja0 q l;simp only[Ew];split<;>omega⟩ λk ⟨hk,hi⟩=>?_;dsimp only[Ac,Ae];have hlo:=ja0 q (l.drop (k+1));rcases Ai k l.length with hk2|hk2
 ·have hone:=h k hk2
  (repeat' first|apply Ca 16;refine Ch (hc:=hone) ?_;try refine Ce ?_ ?_<;>intro hb|refine yyp ?_;try refine Ce ?_ ?_<;>intro hb|refine yy ?_|apply ah;refine Cc Wt ?_|refine Cb λK hK=>?_|apply_assumption -exfalso -symm)
  ·(refine j1 (j8 ⟨?_,rfl⟩))
   rw[hi,l9 _ _ _ hk2,Ad hb];simp[aF]
  ·refine⟨k+1,⟨by omega,?_⟩,by omega,v6⟩;rw[hi,l9 _ _ _ hk2,Af (show ¬q l[k]=true by rw[hb];exact Bool.false_ne_true)];split<;>split<;>(try split)<;>omega
 ·(repeat' first|refine yyp ?_;try refine Ce ?_ ?_<;>intro hb|refine yy ?_|apply ah;refine Cc Wt ?_|refine Cb λK hK=>?_|apply_assumption -exfalso -symm)
  (refine j1 (j8 ⟨?_,rfl⟩))
  have:k=l.length:=by omega
  rw[hi,this,Fl];simp[aF,jf4]
theorem vq5 (u:Lx.Uses)(q:Gu->Bool)(l:List Gu)(h:∀ (k:Nat) (hk:k<l.length),FnE prog gl 161 [.d (dGu (l[k])),.ptr 5 0] [(5,.box [.clo (.func 120) [] [.ptr 3 0]]),(3,.box (ubx u))] (λv H1=>v=.d (.bool (q l[k]))/\H1=[(5,.box [.clo (.func 120) [] [.ptr 3 0]]),(3,.box (ubx u))])):
 FnE prog gl 160 [.d (.list 23 (l.map (λx=>dGu (x)))),.clo (.func 161) [] [.ptr 5 0]] [(5,.box [.clo (.func 120) [] [.ptr 3 0]]),(3,.box (ubx u))] (λv H1=>v=.d (.bool (l.any q))/\H1=[(5,.box [.clo (.func 120) [] [.ptr 3 0]]),(3,.box (ubx u))]):=by
 have hix:=vq4 gl u q l h;have hany:=jg2 q l
 (refine j3 func160 ntmps160 results160 λw M E b0=>?_)
 (repeat' first|apply Ca 7;refine Ch (hc:=hix) ?_|refine yyp ?_;try refine Ce ?_ ?_<;>intro hb|refine yy ?_|refine yy2 ?_ ?_<;>intro hcmp|apply ah;refine Cc [0,1,4,5,6,7] ?_|refine Cb λK hK=>?_|apply_assumption -exfalso -symm)
 all_goals (refine j1 (j8 ⟨?_,rfl⟩))
 all_goals simp only[aF,At,Am]
 all_goals first
  |exact(hany.1 (by omega)).symm
  |(symm;cases ha:l.any q with
   |false=>rfl
   |true=>exfalso;have:=hany.2 ha;omega)
theorem rv0 (u:Lx.Uses)(p:Gu->Bool)(l:List Gu)(a b:Int)(h:∀ x∈l,FnE prog gl 120 [.d (dGu (x)),.ptr 3 0] [(3,.box (ubx u))] (λv H1=>v=.d (.bool (p x))/\H1=[(3,.box (ubx u))])):
 FnE prog gl 123 [.d (.list 23 (l.map (λx=>dGu (x)))),.d (.agg [.int .i64 a,.int .i64 b]),.clo (.func 120) [] [.ptr 3 0]] [(3,.box (ubx u))] (λv H1=>v=.d (.bool (Cq l a b p))/\H1=[(3,.box (ubx u))]):=by
 have hcf:=vq5 gl u (λx=>!p x) l λk hk=>vq3 gl u l[k] (p l[k]) (h _ (Ao _));rw[jo5]at hcf
 (refine j3 func123 ntmps123 results123 λw M E b0=>?_)
 (repeat' first|apply Ca 4;(refine Ck 4 ?_)|apply Ca 5;(refine Ck 5 ?_)|apply Ca 14;refine Ch (hc:=hcf) ?_;try refine Ce ?_ ?_<;>intro hb|refine yyp ?_;try refine Ce ?_ ?_<;>intro hb|refine yy ?_|apply Cf 122;refine Ci (hc:=(kh6 gl a b l.length)) ?_;try refine Ce ?_ ?_<;>intro hb|apply ah;refine Cc [0,1,2,4,5,6,7,8] ?_|refine Cb λK hK=>?_|apply_assumption -exfalso -symm)
 all_goals (refine j1 (j8 ⟨?_,rfl⟩))
 all_goals simp only[aF,Cq, *,Bf,As,Bool.not_not,Bool.not_true,Bool.not_false]
 all_goals (try (simp_all;done))
theorem qj4 (n:Int):FnD prog gl 131 [.d (.int .i64 n)] (λv=>v=.d (.bool (decide (0<=n) && decide (n<8)))):=by
 (refine j4 func131 ntmps131 results131 λw M=>?_)
 (repeat' first|refine yyp ?_;try refine Ce ?_ ?_<;>intro hb|refine yy ?_|refine yy2 ?_ ?_<;>intro hcmp|apply ah;refine Cc [0,2,3,4,5,6] ?_|refine Cb λK hK=>?_|apply_assumption -exfalso -symm)
 all_goals
  (refine j1 (j7 ?_))
  simp only[aF, *,decide_true,decide_false,Bu,Be,Bf,As]
theorem qj5 {mm:Int}(u:Lx.Uses)(g:Gu):FnE prog (glS mm) 120 [.d (dGu g),.ptr 3 0] [(3,.box (ubx u))] (λv H1=>v=.d (.bool (decide (u.a<=g.kind) && decide (g.kind<=u.b) && Jr g))/\H1=[(3,.box (ubx u))]):=by
 have h:=rd3 (mm:=mm) g;simp only[jb7]at h ⊢
 (refine j3 func120 ntmps120 results120 λw M E b0=>?_)
 (repeat' first|apply Ca 2;(refine Ck 2 ?_)|apply Ca 9;refine yyp ?_;try refine Ce ?_ ?_<;>intro hb|apply Ca 16;refine yyp ?_;try refine Ce ?_ ?_<;>intro hb|refine yyp ?_|refine yy ?_|refine yy2 ?_ ?_<;>intro hcmp|apply Cf 121;refine Ci (hc:=h) ?_|apply ah;refine Cc [0,1,2,3,4,5,6] ?_|refine Cb λK hK=>?_|apply_assumption -exfalso -symm)
 all_goals (refine j1 (j8 ⟨?_,rfl⟩))
 all_goals simp only[aF, *,ge_iff_le,decide_true,decide_false,Bf,As]
end
section
def Ra:List Nat:=[0,1,2,3,4,5,6,20,24,27,31,38]
def qj6:Plan:=lin [0,8,5,13,16,22,24,28,36,44,33,41,50,52,56,60,68,80,65,73,85,88,78,94,96,100,104,112,124,109,117,129,122,134,138,140,144,148,156,153,161,166,168,172,176,184,181,189,194,196,200,204,209,213,218,220,224,228,233,236,240,245,250,252,256,260,265,268,272,276,284,281,290,292,296,300,304]
variable {mm:Int}
instance spanEq:TEq prog 176 [1,1]:=⟨by kernel_rfl⟩
def kd1 (p:Pr):List D:=[.int .u8 p.kind,.str p.name,
    .int .u8 p.av.kind,.int .u8 p.av.op,.int .u8 p.av.ty,.int .i32 p.av.n,.str p.av.s,.list 6 (p.av.l.map dEx),
    .list 6 (p.aj.map dEx),.list 6 (p.au.map dEx),
    .str p.rep.name,.int .u8 p.rep.base.kind,.int .u8 p.rep.base.op,.int .u8 p.rep.base.ty,.int .i32 p.rep.base.n,.str p.rep.base.s,.list 6 (p.rep.base.l.map dEx),
    .int .u8 p.rep.count.kind,.int .u8 p.rep.count.op,.int .u8 p.rep.count.ty,.int .i32 p.rep.count.n,.str p.rep.count.s,.list 6 (p.rep.count.l.map dEx),
    .list 23 (p.ak.map dGu),.list 42 (p.l.map dPr),.list 1 (p.ay.map (.int .i64)),
    .int .u8 p.spec.kind,.int .u8 p.spec.type.kind,.int .i64 p.spec.type.dim,.int .u8 p.spec.type.item,.str p.spec.type.aN,.list 1 (p.spec.names.map .str),
    .int .u8 p.spec.e.kind,.int .u8 p.spec.e.op,.int .u8 p.spec.e.ty,.int .i32 p.spec.e.n,.str p.spec.e.s,.list 6 (p.spec.e.l.map dEx),
    .bool p.spec.aN.cases,.list 2 (p.spec.aN.l.map dVa),.list 6 (p.spec.ax.map dFo),.list 42 (p.spec.body.map dPr)]
theorem qj7 (u:Lx.Uses)(r:ByteArray):(Ht u r).rep=u.rep/\(Ht u r).name=u.name/\(Ht u r).channel=u.channel/\(Ht u r).spec=u.spec/\(Ht u r).ay=u.ay:=by
 unfold Ht;split
 ·simp
 ·split<;>simp
attribute [local irreducible] TR TC
theorem rd4 (p:Pr):FnD prog (glS mm) 77 [.d (dPr p)] (λv=>v=.d (.bool (Gy p))):=by
 have q1:=qi8 (mm:=mm) p.kind;have q2:=vg1 (mm:=mm) p.rep;have q3:=λu=>rv0 (glS mm) u (λg=>decide (u.a<=g.kind) && decide (g.kind<=u.b) && Jr g) p.ak u.g0 u.g1 λg _=>qj5 (mm:=mm) u g;have q4:=jj6 (mm:=mm) p.name;have q5:=Ka (mm:=mm) p.av;have q6:=ka5 (glS mm) p.av;have q7:=λa b=>me0 (glS mm) Ga p.aj a b λx _=>FnE.ofD (Ka (mm:=mm) x) (by(repeat (first|exact aM.nil|apply aM.cons (Pure.d _)|apply aM.cons (Pure.nils _)));fail_if_success intros);have q8:=λa b=>mr9 (glS mm) Gd p.au a b λx _=>FnE.ofD (jj7 (mm:=mm) x) (by(repeat (first|exact aM.nil|apply aM.cons (Pure.d _)|apply aM.cons (Pure.nils _)));fail_if_success intros);have q9:=λa b=>rb6 (glS mm) (λn=>decide (0<=n) && decide (n<8)) p.ay a b λx _=>FnE.ofD (qj4 (glS mm) x) (by(repeat (first|exact aM.nil|apply aM.cons (Pure.d _)|apply aM.cons (Pure.nils _)));fail_if_success intros);have r1:=ru9 (mm:=mm) p.spec;have r2:=vh0 (glS mm) p.spec sp0;have hpl:Gy p=Gy p:=rfl;generalize hres:Gy p=res at hpl ⊢;clear hpl;unfold Gy at hres;obtain⟨u,ok,hu⟩:∃ u ok,Hf p.kind=(u,ok):=⟨_,_,rfl⟩;rw[hu]at q1 hres;dsimp only at q1 hres;simp only[r8]at q5 q6;rw[vv2]at r2;rw[v7]
 (refine j4 func77 ntmps77 results77 λw M=>?_)
 refine Cb λK0 h0=>?_
 (refine y6 (id:=0) ?_;(repeat' first|apply Ca 1;(refine Ck 1 ?_)|refine yyp ?_;try refine Ce ?_ ?_<;>intro hb|apply ah;refine Cc Ra ?_))
 refine h0 _ ?_;refine jo2 (t:=1) (env':=[(2,.d (.bool false)),(0,.d (dP p))]) (H':=[]) rfl rfl (by repeat (first|exact .nil|apply Frz.cons (.d _))) rfl (by(repeat (first|exact Sub.nil|apply Sub.cons rfl));fail_if_success intros) (by(repeat (first|exact Sub.nil|apply Sub.cons rfl));fail_if_success intros) rfl rfl ?_;refine Cb λK1 h1=>?_
 (refine y6 (id:=1) ?_;(repeat' first|apply Ca 3;(refine j2 3 ?_)|refine yyp ?_|refine yy ?_|apply Cf 118;refine Ci (hc:=q1) ?_|apply ah;refine Cc Ra ?_))
 refine h1 _ ?_;refine z7 (ι:=Unit) (λ_=>⟨[(3,.ptr 3 0),(1,.d (.ref (kd1 p) 0)),(2,.d (.bool false)),(0,.d (dP p))],[(3,.box (ubx u))],glS mm⟩) (λ_=>ok=true/\Hw p.rep=true) ?_ ?_
 ·(repeat' first|apply Ca 15;refine yyp ?_;try refine Ce ?_ ?_<;>intro hb|apply Ca 20;refine yyp ?_;try refine Ce ?_ ?_<;>intro hb|refine yyp ?_|refine yy ?_|apply Cf 119;refine Ci (hc:=q2) ?_|apply ah;refine Cc Ra ?_|refine Cb λK hK=>?_|apply Cg 14;(try dsimp only[List.append]);refine j0 [] qj6 ?_|apply_assumption -exfalso -symm)
  all_goals first
   |(refine⟨(),?_,v6⟩
     clear q1 q2 q3 q4 q5 q6 q7 q8 q9 r1 r2 hres;simp_all)
   |(refine j1 ?_
     dsimp only[Exit.Oc];refine j7 ?_
     (repeat (rename (∀ S,TC _ _ _ S->_)=>hX;clear hX))
     clear q1 q2 q3 q4 q5 q6 q7 q8 q9 r1 r2;simp only[aF,At,Am];rw[<-hres];clear hres;cases ok<;>simp_all)
 rintro _ ⟨hok,hrep⟩;rw[hok,hrep]at hres;refine z7 (ι:=Lx.Uses) (λx=>⟨[(3,.ptr 3 0),(1,.d (.ref (kd1 p) 0)),(2,.d (.bool false)),(0,.d (dP p))],[(3,.box [.d (.bool x.rep),.d (.bool x.name),.d (.bool x.channel),.d (.bool x.spec),.d (.bool x.ay),.d (.int .i64 x.t0),.d (.int .i64 x.t1),.d (.int .i64 x.e0),.d (.int .i64 x.e1),.d (.int .i64 x.p0),.d (.int .i64 x.p1),.d (.int .i64 x.g0),.d (.int .i64 x.g1),.d (.int .u8 x.a),.d (.int .u8 x.b)])],glS mm⟩) (λx=>x=Ht u p.rep.name/\(p.rep.name=ByteArray.empty\/u.rep=true)) ?_ ?_
 ·(repeat' first|apply Ca 27;refine yyp ?_;try refine Ce ?_ ?_<;>intro hb|refine yyp ?_|refine yy ?_|refine yy2 ?_ ?_<;>intro hcmp|apply ah;refine Cc Ra ?_|refine Cb λK hK=>?_|apply Cg 14;(try dsimp only[List.append]);refine j0 [] qj6 ?_|apply_assumption -exfalso -symm)
  all_goals first
   |(refine⟨{u with p0:=1,p1:=1},?_,v6⟩
     clear q1 q2 q3 q4 q5 q6 q7 q8 q9 r1 r2
     (repeat (rename (∀ S,TC _ _ _ S->_)=>hX;clear hX))
     clear hres;unfold Ht;simp only[jf5]at *;simp_all;done)
   |(refine⟨{u with g0:=1,g1:=1},?_,v6⟩
     clear q1 q2 q3 q4 q5 q6 q7 q8 q9 r1 r2
     (repeat (rename (∀ S,TC _ _ _ S->_)=>hX;clear hX))
     clear hres;unfold Ht;simp only[jf5]at *;simp_all;done)
   |(refine⟨u,?_,v6⟩
     clear q1 q2 q3 q4 q5 q6 q7 q8 q9 r1 r2
     (repeat (rename (∀ S,TC _ _ _ S->_)=>hX;clear hX))
     clear hres;unfold Ht;simp only[jf5]at *;simp_all;done)
   |(refine j1 ?_
     dsimp only[Exit.Oc];refine j7 ?_;clear q1 q2 q3 q4 q5 q6 q7 q8 q9 r1 r2
     (repeat (rename (∀ S,TC _ _ _ S->_)=>hX;clear hX))
     simp only[aF,At,Am];rw[<-hres];clear hres;simp only[jf5]at *;simp_all;done)
 rintro x ⟨hx,hru⟩;rw[<-hx]at hres;have hxs:=qj7 u p.rep.name;rw[<-hx]at hxs;have hor:(decide (p.rep.name=ByteArray.empty) || u.rep)=true:=by
  rcases hru with h|h
  ·rw[Bm h];rfl
  ·rw[h,Eh]
 rw[hor]at hres;clear q1 q2 hu hok hrep hxs hor hru hx;simp only[Bf]at hres;refine Cb λK10 h10=>?_
 (refine y6 (id:=10) ?_;(repeat' first|apply Ca 36;refine z_p Cu ?_|apply Ca 5;(refine j2 5 ?_)|refine yy ?_|apply ah;refine Cc Ra ?_))
 refine h10 _ ?_;refine z7 (ι:=Int) (λn=>⟨[(5,.ptr 5 0),(3,.ptr 3 0),(1,.d (.ref (kd1 p) 0)),(2,.d (.bool false)),(0,.d (dP p))],[(5,.box [.d (.int .i64 n),.d (.int .i64 n)]),(3,.box [.d (.bool x.rep),.d (.bool x.name),.d (.bool x.channel),.d (.bool x.spec),.d (.bool x.ay),.d (.int .i64 x.t0),.d (.int .i64 x.t1),.d (.int .i64 x.e0),.d (.int .i64 x.e1),.d (.int .i64 x.p0),.d (.int .i64 x.p1),.d (.int .i64 x.g0),.d (.int .i64 x.g1),.d (.int .u8 x.a),.d (.int .u8 x.b)])],glS mm⟩) (λn=>n=if x.ay then (p.l.length:Int) else 0) ?_ ?_
 ·(repeat' first|apply Ca 38;refine yyp ?_;try refine Ce ?_ ?_<;>intro hb|apply Ca 45;refine z_p Cu ?_|refine yyp ?_|refine yy ?_|apply ah;refine Cc Ra ?_|refine Cb λK hK=>?_|apply Cg 14;(try dsimp only[List.append]);refine j0 [] qj6 ?_|apply_assumption -exfalso -symm)
  all_goals
   refine⟨_,?_,v6⟩;rw[hb]
   try rfl
 intro n hn;rw[<-hn]at hres
 as_aux_lemma=>
  (repeat' first|apply Ca 53;refine yyp ?_;try refine Ce ?_ ?_<;>intro hb|apply Ca 59;refine Ch (hc:=q3 x) ?_|apply Ca 61;refine yyp ?_;try refine Ce ?_ ?_<;>intro hb|apply Ca 72;refine yyp ?_;try refine Ce ?_ ?_<;>intro hb|apply Ca 83;refine yyp ?_;try refine Ce ?_ ?_<;>intro hb|apply Ca 88;refine Ch (hc:=q7 _ _) ?_|apply Ca 90;refine yyp ?_;try refine Ce ?_ ?_<;>intro hb|apply Ca 95;refine Ch (hc:=q8 _ _) ?_|apply Ca 97;refine yyp ?_;try refine Ce ?_ ?_<;>intro hb|apply Ca 101;refine Ch (hc:=q9 _ _) ?_|apply Ca 103;refine yyp ?_;try refine Ce ?_ ?_<;>intro hb|apply Ca 106;refine yyp ?_;try refine Ce ?_ ?_<;>intro hb|apply Ca 111;refine yyp ?_;try refine Ce ?_ ?_<;>intro hb|apply Ca 115;refine yyp ?_;try refine Ce ?_ ?_<;>intro hb|refine yyp ?_|refine yy ?_|refine yy2 ?_ ?_<;>intro hcmp|apply Cf 122;refine Ci (hc:=(kh6 _ _ _ _)) ?_|apply Cf 125;refine Ci (hc:=q4) ?_|apply Cf 124;refine Ci (hc:=(md7 _ _ _ _)) ?_|apply Cf 126;refine Ci (hc:=q5) ?_|apply Cf 127;refine Ci (hc:=q6) ?_|apply Cf 132;refine Ci (hc:=r1) ?_|apply Cf 133;refine Ci (hc:=r2) ?_|apply ah;refine Cc Ra ?_|refine Cb λK hK=>?_|apply Cg 14;(try dsimp only[List.append]);refine j0 [12,41,48,54] (lin [0,8,5,13,16,22,24,28,36,44,33,41,51,52,56,60,68,80,65,73,85,88,78,94,96,100,104,112,124,109,117,129,122,134,138,140,144,148,156,153,161,167,168,172,176,184,181,189,195,196,200,204,209,213,219,220,224,228,233,236,240,245,250,252,256,260,265,268,272,276,284,281,290,292,296,300,304]) ?_|apply_assumption -exfalso -symm)
  all_goals clear q3 q4 q5 q6 q7 q8 q9 r1 r2
  all_goals as_aux_lemma=>first
   |((refine j1 (j7 ?_))
     (repeat (rename (∀ S,TC _ _ _ S->_)=>hX;clear hX))
     simp only[aF,At,Am];rw[<-hres];simp only[jf5]at *
     grind)
end
end Go.Proofs.YtklklgfpkpglgaaGreatDoor
