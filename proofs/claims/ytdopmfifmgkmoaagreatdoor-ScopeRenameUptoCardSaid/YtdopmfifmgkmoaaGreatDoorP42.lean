/- Parts: L2, L3, L4, L5. -/
import Derived.Test.YtdopmfifmgkmoaaGreatDoorP34
set_option linter.all false
set_option maxRecDepth 100000
set_option maxHeartbeats 16000000
namespace Go.Proofs.YtdopmfifmgkmoaaGreatDoor
open Go.RowKit Go.Proofs.Tryz
section
def kb5 (s:ByteArray):Ex:=.mk 4 0 0 0 s []
def Di (x y:ByteArray):Pr:=.mk 3 ByteArray.empty ex0 [kb5 x] [kb5 y] rp0 [] [] [] sp0
def Ci (p:Pr)(ns:List ByteArray):Pr:=.mk 18 ByteArray.empty ex0 [] [] rp0 [] [p] [] (.mk 1 ⟨1,0,0,ByteArray.empty⟩ ns ex0 pt0 [] [])
attribute [local irreducible] TR TC
theorem mm6 (gl:List (Nat × List D))(s:ByteArray):FnD prog gl 54 [.d (.str s)] (fun v=>v=.d (dEx (kb5 s))):=by
 rw[r9]
 (refine j3 func54 ntmps54 results54 fun w M=>?_)
 (repeat' first|refine Ca 2 ?_;(refine Cj 2 ?_)|refine Ca 4 ?_;refine z_p Cr ?_|refine yyp ?_;try refine Cc ?_ ?_<;>intro hb|refine yy ?_|refine at_nil ?_;refine Ce [0,2,3,4,28] ?_|refine Cb fun K hK=>?_|apply_assumption -exfalso -symm)
 all_goals first
  |((refine j0 (j5 ?_))
    rfl)
theorem jo9 (gl:List (Nat × List D))(x y:ByteArray):FnD prog gl 29 [.d (.str x),.d (.str y)] (fun v=>v=.d (dPr (Di x y))):=by
 have c1:=mm6 gl x;have c2:=mm6 gl y;rw[v8];rw[r9]at c1 c2
 (refine j3 func29 ntmps29 results29 fun w M=>?_)
 (repeat' first|refine Ca 4 ?_;(refine Cj 4 ?_)|refine Ca 7 ?_;(refine Dh 7 ?_)|refine Ca 10 ?_;(refine Dh 10 ?_)|refine Ca 11 ?_;refine z_p Cr ?_|refine yyp ?_;try refine Cc ?_ ?_<;>intro hb|refine yy ?_|refine Cf 54 ?_;refine Cg (hc:=(by first|exact c1|exact c2)) ?_|refine at_nil ?_;refine Ce [0,1,4,5,6,7,45] ?_|refine Cb fun K hK=>?_|apply_assumption -exfalso -symm)
 all_goals first
  |((refine j0 (j5 ?_))
    rfl)
theorem mt1 (p:Pr)(ns:List ByteArray):dP (Ci p ns)=.agg [.int .u8 (Ci p ns).kind,.str (Ci p ns).name,
 .int .u8 (Ci p ns).chan.kind,.int .u8 (Ci p ns).chan.op,.int .u8 (Ci p ns).chan.ty,.int .i32 (Ci p ns).chan.n,.str (Ci p ns).chan.s,.list 6 ((Ci p ns).chan.l.map dEx),
 .list 6 ((Ci p ns).targets.map dEx),.list 6 ((Ci p ns).exprs.map dEx),
 .str (Ci p ns).rep.name,.int .u8 (Ci p ns).rep.base.kind,.int .u8 (Ci p ns).rep.base.op,.int .u8 (Ci p ns).rep.base.ty,.int .i32 (Ci p ns).rep.base.n,.str (Ci p ns).rep.base.s,.list 6 ((Ci p ns).rep.base.l.map dEx),
 .int .u8 (Ci p ns).rep.count.kind,.int .u8 (Ci p ns).rep.count.op,.int .u8 (Ci p ns).rep.count.ty,.int .i32 (Ci p ns).rep.count.n,.str (Ci p ns).rep.count.s,.list 6 ((Ci p ns).rep.count.l.map dEx),
 .list 23 ((Ci p ns).guards.map dGu),.list 42 [dP p],.list 1 ((Ci p ns).procs.map (.int .i64)),
 .int .u8 (Ci p ns).spec.kind,.int .u8 (Ci p ns).spec.type.kind,.int .i64 (Ci p ns).spec.type.dim,.int .u8 (Ci p ns).spec.type.item,.str (Ci p ns).spec.type.proto,.list 1 ((Ci p ns).spec.names.map .str),
 .int .u8 (Ci p ns).spec.e.kind,.int .u8 (Ci p ns).spec.e.op,.int .u8 (Ci p ns).spec.e.ty,.int .i32 (Ci p ns).spec.e.n,.str (Ci p ns).spec.e.s,.list 6 ((Ci p ns).spec.e.l.map dEx),
 .bool (Ci p ns).spec.proto.cases,.list 2 ((Ci p ns).spec.proto.l.map dVa),.list 6 ((Ci p ns).spec.formals.map dFo),.list 42 ((Ci p ns).spec.body.map dPr)]:=by
 have e:(Ci p ns).l.map dPr=[dP p]:=by rw[v8];rfl
 show D.agg [.int .u8 (Ci p ns).kind,.str (Ci p ns).name,
  .int .u8 (Ci p ns).chan.kind,.int .u8 (Ci p ns).chan.op,.int .u8 (Ci p ns).chan.ty,.int .i32 (Ci p ns).chan.n,.str (Ci p ns).chan.s,.list 6 ((Ci p ns).chan.l.map dEx),
  .list 6 ((Ci p ns).targets.map dEx),.list 6 ((Ci p ns).exprs.map dEx),
  .str (Ci p ns).rep.name,.int .u8 (Ci p ns).rep.base.kind,.int .u8 (Ci p ns).rep.base.op,.int .u8 (Ci p ns).rep.base.ty,.int .i32 (Ci p ns).rep.base.n,.str (Ci p ns).rep.base.s,.list 6 ((Ci p ns).rep.base.l.map dEx),
  .int .u8 (Ci p ns).rep.count.kind,.int .u8 (Ci p ns).rep.count.op,.int .u8 (Ci p ns).rep.count.ty,.int .i32 (Ci p ns).rep.count.n,.str (Ci p ns).rep.count.s,.list 6 ((Ci p ns).rep.count.l.map dEx),
  .list 23 ((Ci p ns).guards.map dGu),.list 42 ((Ci p ns).l.map dPr),.list 1 ((Ci p ns).procs.map (.int .i64)),
  .int .u8 (Ci p ns).spec.kind,.int .u8 (Ci p ns).spec.type.kind,.int .i64 (Ci p ns).spec.type.dim,.int .u8 (Ci p ns).spec.type.item,.str (Ci p ns).spec.type.proto,.list 1 ((Ci p ns).spec.names.map .str),
  .int .u8 (Ci p ns).spec.e.kind,.int .u8 (Ci p ns).spec.e.op,.int .u8 (Ci p ns).spec.e.ty,.int .i32 (Ci p ns).spec.e.n,.str (Ci p ns).spec.e.s,.list 6 ((Ci p ns).spec.e.l.map dEx),
  .bool (Ci p ns).spec.proto.cases,.list 2 ((Ci p ns).spec.proto.l.map dVa),.list 6 ((Ci p ns).spec.formals.map dFo),.list 42 ((Ci p ns).spec.body.map dPr)]=_
 rw[e]
theorem jd6 (gl:List (Nat × List D))(p:Pr)(ns:List ByteArray):FnD prog gl 26 [.d (dPr p),.d (.list 1 (ns.map .str))] (fun v=>v=.d (dPr (Ci p ns))):=by
 simp only[v8];rw[mt1]
 (refine j3 func26 ntmps26 results26 fun w M=>?_)
 (repeat' first|refine Ca 2 ?_;(refine j6 2 ?_)|refine Ca 4 ?_;(refine Cj 4 ?_)|refine Ca 9 ?_;(refine Dh 9 ?_)|refine Ca 10 ?_;refine z_p Cr ?_|refine yyp ?_;try refine Cc ?_ ?_<;>intro hb|refine yy ?_|refine at_nil ?_;refine Ce [0,1,2,4,5,6,7,45] ?_|refine Cb fun K hK=>?_|apply_assumption -exfalso -symm)
 (refine j0 (j5 ?_))
 rfl
end
section
theorem nx:Lx.Dg ⟨#[120]⟩=true:=by decide
theorem ny:Lx.Dg ⟨#[121]⟩=true:=by decide
theorem nz:Lx.Dg ⟨#[122]⟩=true:=by decide
theorem nq:Lx.Dg ⟨#[113]⟩=true:=by decide
theorem nr:Lx.Dg ⟨#[114]⟩=true:=by decide
theorem np:Lx.prim 1=true:=by decide
theorem ki9 (a b x z:ByteArray)(ha:Lx.Dg a=true)(hb:Lx.Dg b=true)(hx:Lx.Dg x=true)(hz:Lx.Dg z=true):Lx.Dz (Ci (Di x z) [a,b])=true:=by
 simp[ha,hb,hx,hz,np,Lx.Dz,Ci,Di,Lx.Fz,Lx.Gg,Lx.Df,Lx.Ib,Lx.Il,Lx.Ia,Lx.Ir,Lx.Gx,Lx.Iz,Lx.Jm,Lx.hasB,Lx.Da,Lx.Jf,Lx.Qp,Lx.Hf,Lx.Gr,Lx.Dx,Lx.Gi,Lx.Lg,Lx.Ka,kb5,rp0,ex0,sp0,pt0,Pr.kind,Pr.name,Pr.chan,Pr.targets,Pr.exprs,Pr.rep,Pr.guards,Pr.l,Pr.procs,Pr.spec,Sp.kind,Sp.type,Sp.names,Sp.e,Sp.proto,Sp.formals,Sp.body,Ex.kind,Ex.op,Ex.ty,Ex.n,Ex.s,Ex.l,eqB]
theorem mm7:Lx.Dz pr0=false:=by
 simp[Lx.Dz,pr0,Lx.Fz,Lx.Il,Lx.Ia,Lx.Gx,rp0,ex0,sp0,pt0,Pr.kind]
end
section
namespace Sc
open Lx
theorem rr1:newName 1=⟨#[110,49]⟩:=by unfold newName;rw[dec,dif_pos (by omega)];rfl
theorem rr2:newName 2=⟨#[110,50]⟩:=by unfold newName;rw[dec,dif_pos (by omega)];rfl
theorem mm8 (σ:W)(n:Nat)(hc:σ.count=n)(h:¬σ.has (newName (n+1))):Ct σ=(newName (n+1),{σ with count:=(n+1:Nat)}):=by
 unfold Ct;dsimp only;rw[hc,Int.toNat_natCast,skip,Af h]
theorem ma2 (σ:W)(u v:ByteArray):Fv σ (Di u v)=(Di (nameOf σ u).1 (nameOf (nameOf σ u).2 v).1,(nameOf (nameOf σ u).2 v).2):=by
 have h0:∀ σ:W,j2 σ ex0=(ex0,σ):=fun σ=>by simp[ex0,j2,Dt,l3]
 have h1:∀ (σ:W) s,j2 σ (kb5 s)=(kb5 (nameOf σ s).1,(nameOf σ s).2):=fun σ s=>by simp[kb5,j2,Dt,l3]
 have hr:∀ σ:W,Iw σ ⟨ByteArray.empty,ex0,ex0⟩=((⟨ByteArray.empty,ex0,ex0⟩,[]),σ):=fun σ=>by simp[Iw]
 have he:(nameOf (nameOf σ u).2 v).2.env=σ.env:=by rw[(Ho _ _).env,(Ho _ _).env]
 simp only[Di,sp0,Fv,Gv,Hw,Hg,Cv,kf7,Cy,h0,h1,hr,Int.reduceEq,if_false,if_true,rp0];simp only[<-he]
theorem qg6 (σ:W)(a b:ByteArray):Cu σ [a,b]={σ with ev:=σ.ev++(if a=b then [(b,true)] else [])}:=by
 unfold Cu;have:(List.range 2)=[0,1]:=rfl;simp only[Ai,Aq,Ft,Nat.reduceAdd,this];by_cases h:a=b
 ·subst h;simp[isB]
 ·simp[isB,h]
theorem kj0 (σ:W)(p:Pr)(a b:ByteArray):Fv σ (Ci p [a,b])=
 let σ1:=Cu σ [a,b]
 let f1:=Ct σ1
 let f2:=Ct f1.2
 let q:=Fv {f2.2 with env:=Cn σ.env [a,b] [⟨f1.1,false,[]⟩,⟨f2.1,false,[]⟩]} p
 (Ci q.1 [f1.1,f2.1],{q.2 with env:=σ.env}):=by
 have h0:∀ σ:W,j2 σ ex0=(ex0,σ):=fun σ=>by simp[ex0,j2,Dt,l3]
 have ht2:∀ σ:W,Cu σ []=σ:=fun σ=>by
  unfold Cu;simp
 have hr:∀ σ:W,Iw σ rp0=((rp0,[]),σ):=fun σ=>by simp[Iw,rp0]
 simp only[Ci,Fv,Gv,Hw,Hg,Fu,Cv,Dn,h0,hr,ht2,Co,Am,Aw,Gn,named,Dy,Cz,Sp.names,Sp.formals,Sp.type,Sp.e,Sp.kind,if_true,if_false,reduceCtorEq,Int.reduceEq,false_and]
theorem rp7 (tk:List (ByteArray × Int))(a b u v:ByteArray)(hab:a≠b)(h1:¬(start tk).has ⟨#[110,49]⟩)(h2:¬(start tk).has ⟨#[110,50]⟩):
 Fv (start tk) (Ci (Di u v) [a,b])=
  (Ci (Di (if u=a then ⟨#[110,49]⟩ else if u=b then ⟨#[110,50]⟩ else u) (if v=a then ⟨#[110,49]⟩ else if v=b then ⟨#[110,50]⟩ else v)) [⟨#[110,49]⟩,⟨#[110,50]⟩],
    ⟨fun _=>[],tk,2,(if u=a\/u=b then [] else [(u,false)])++(if v=a\/v=b then [] else [(v,false)])⟩):=by
 have f1:Ct (Cu (start tk) [a,b])=(newName 1,{start tk with count:=1}):=by
  rw[qg6,Af hab,Bp];exact mm8 _ 0 rfl (by rw[rr1];exact h1)
 have f2:Ct {start tk with count:=1}=(newName 2,{start tk with count:=2}):=mm8 _ 1 rfl (by rw[rr2];exact h2);have hn:∀ (ev:List (ByteArray × Bool)) (s:ByteArray),nameOf ⟨Cn (start tk).env [a,b] [⟨⟨#[110,49]⟩,false,[]⟩,⟨⟨#[110,50]⟩,false,[]⟩],tk,2,ev⟩ s=
  (if s=a then ⟨#[110,49]⟩ else if s=b then ⟨#[110,50]⟩ else s,⟨Cn (start tk).env [a,b] [⟨⟨#[110,49]⟩,false,[]⟩,⟨⟨#[110,50]⟩,false,[]⟩],tk,2,ev++(if s=a\/s=b then [] else [(s,false)])⟩):=fun ev s=>by
  unfold nameOf step;dsimp only[Cn,start];by_cases ha:s=a
  ·subst ha;simp[hab]
  ·by_cases hb:s=b
   ·subst hb;simp[ha]
   ·simp[ha,hb]
 rw[kj0];dsimp only;rw[f1];dsimp only;rw[f2];dsimp only;rw[rr1,rr2,ma2];have e:({start tk with count:=2,env:=Cn (start tk).env [a,b] [⟨⟨#[110,49]⟩,false,[]⟩,⟨⟨#[110,50]⟩,false,[]⟩]}:W)=⟨Cn (start tk).env [a,b] [⟨⟨#[110,49]⟩,false,[]⟩,⟨⟨#[110,50]⟩,false,[]⟩],tk,2,[]⟩:=rfl;rw[e,hn];dsimp only;rw[hn];rfl
theorem qx4 {s t:ByteArray}(tk:List (ByteArray × Int))(h:tk=[]\/∃ n,tk=[(t,n)])(hne:s≠t):¬(start tk).has s:=by
 unfold W.has start;rcases h with rfl|⟨n,rfl⟩
 ·simp
 ·simpa using hne
structure AtHead (p q:Pr):Prop where
 may:Dz p=true
 free:Dl p=[⟨#[122]⟩]
 check:∀ ns,Hq p ns=if ns.any (isB ⟨#[122]⟩) then (ByteArray.empty,0) else (⟨#[122]⟩,120)
 err:Je p=0
 un:Ke p=q
theorem Uo {a b u:ByteArray}(hab:a≠b)(ha:Dg a=true)(hb:Dg b=true)(hu:u=a\/u=b)(hza:(⟨#[122]⟩:ByteArray)≠a)(hzb:(⟨#[122]⟩:ByteArray)≠b):
 AtHead (Ci (Di u ⟨#[122]⟩) [a,b]) (Ci (Di (if u=a then ⟨#[110,49]⟩ else ⟨#[110,50]⟩) ⟨#[122]⟩) [⟨#[110,49]⟩,⟨#[110,50]⟩]):=by
 have z1:(⟨#[110,49]⟩:ByteArray)≠⟨#[122]⟩:=by decide
 have z2:(⟨#[110,50]⟩:ByteArray)≠⟨#[122]⟩:=by decide
 have hw:=fun(tk:List (ByteArray × Int)) (h:tk=[]\/∃ n,tk=[(⟨#[122]⟩,n)])=>rp7 tk a b u ⟨#[122]⟩ hab (qx4 tk h z1) (qx4 tk h z2);have hm:Dz (Ci (Di u ⟨#[122]⟩) [a,b])=true:=ki9 a b u _ ha hb (by rcases hu with rfl|rfl<;>assumption) nz;have hw0:=hw [] (.inl rfl);have hev:(Fv (start []) (Ci (Di u ⟨#[122]⟩) [a,b])).2.ev=[(⟨#[122]⟩,false)]:=by
  rw[hw0];dsimp only;rw[Ae hu,Af (by simp[hza,hzb])];rfl
 have hfree:Dl (Ci (Di u ⟨#[122]⟩) [a,b])=[⟨#[122]⟩]:=by
  unfold Dl;rw[hev];simp[Ih,once,Lu]
 have hck:∀ ns,Hq (Ci (Di u ⟨#[122]⟩) [a,b]) ns=if ns.any (isB ⟨#[122]⟩) then (ByteArray.empty,0) else (⟨#[122]⟩,120):=fun ns=>by
  unfold Hq;rw[hev];simp[Hu]
 have hck0:(Hq (Ci (Di u ⟨#[122]⟩) [a,b]) (Dl (Ci (Di u ⟨#[122]⟩) [a,b]))).2=0:=by
  rw[hck,hfree,Ae (by simp[isB])]
 have htk:Km (Ci (Di u ⟨#[122]⟩) [a,b])=[(⟨#[122]⟩,1)]:=by
  unfold Km;rw[hfree];simp[Dk,Ci,Di,Du,Gb,pt0,sp0,Fw,Mx]
 refine⟨hm,hfree,hck,?_,?_⟩
 ·unfold Je;rw[Ae hm];exact hck0
 ·unfold Ke;rw[Ae ⟨hm,hck0⟩];unfold Qm;rw[htk,hw _ (.inr ⟨1,rfl⟩)];dsimp only;congr 2
  ·rcases hu with rfl|rfl
   ·simp
   ·simp[Ne.symm hab]
  ·simp[hza,hzb]
theorem Vf:Hq (Ci (Di ⟨#[120]⟩ ⟨#[120]⟩) [⟨#[120]⟩,⟨#[120]⟩]) []=(⟨#[120]⟩,121):=by
 unfold Hq;rw[kj0];dsimp only;have he:(⟨#[120]⟩,true)∈(Cu (start []) [(⟨#[120]⟩:ByteArray),⟨#[120]⟩]).ev:=by rw[qg6];simp
 rw[ma2];unfold nameOf;simp[Cn,Ct,qg6,start,Hu]
theorem Vs:eqB (Ci (Di ⟨#[110,49]⟩ ⟨#[122]⟩) [⟨#[110,49]⟩,⟨#[110,50]⟩]) (Ci (Di ⟨#[110,50]⟩ ⟨#[122]⟩) [⟨#[110,49]⟩,⟨#[110,50]⟩])=false:=by
 rw[v7];intro h;simp[Ci,Di,kb5]at h
end Sc
end
section
def Oe:List Nat:=[0,1,2,3,4,5,6,7,8,9,10,11,13]
variable {mm:Int}
attribute [local irreducible] TR TC
theorem jz2:FnD prog (glS mm) 11 [] (fun v=>v=.d (.bool true)):=by
 have xy:(⟨#[120]⟩:ByteArray)≠⟨#[121]⟩:=by decide
 have qr:(⟨#[113]⟩:ByteArray)≠⟨#[114]⟩:=by decide
 have hx:=Sc.Uo (u:=⟨#[120]⟩) xy nx ny (.inl rfl) (by decide) (by decide);have hy:=Sc.Uo (u:=⟨#[121]⟩) xy nx ny (.inr rfl) (by decide) (by decide);have hq:=Sc.Uo (u:=⟨#[113]⟩) qr nq nr (.inl rfl) (by decide) (by decide);have hm2:Lx.Dz (Ci (Di ⟨#[120]⟩ ⟨#[120]⟩) [⟨#[120]⟩,⟨#[120]⟩])=true:=ki9 _ _ _ _ nx nx nx nx;rw[Ae rfl]at hx hq;rw[Af (Ne.symm xy)]at hy;have f1:=jv9 (mm:=mm) (Ci (Di ⟨#[120]⟩ ⟨#[122]⟩) [⟨#[120]⟩,⟨#[121]⟩]);have f2:=jw0 (mm:=mm) (Ci (Di ⟨#[120]⟩ ⟨#[122]⟩) [⟨#[120]⟩,⟨#[121]⟩]) [⟨#[97]⟩];have f3:=jw0 (mm:=mm) (Ci (Di ⟨#[120]⟩ ⟨#[120]⟩) [⟨#[120]⟩,⟨#[120]⟩]) [];have f4:=jy6 (mm:=mm) (Ci (Di ⟨#[120]⟩ ⟨#[122]⟩) [⟨#[120]⟩,⟨#[121]⟩]);have f5:=jw0 (mm:=mm) (Ci (Di ⟨#[120]⟩ ⟨#[122]⟩) [⟨#[120]⟩,⟨#[121]⟩]) [⟨#[122]⟩];have f6:=jv9 (mm:=mm) pr0;have f7:=jo6 (mm:=mm) (Ci (Di ⟨#[120]⟩ ⟨#[122]⟩) [⟨#[120]⟩,⟨#[121]⟩]) (Ci (Di ⟨#[113]⟩ ⟨#[122]⟩) [⟨#[113]⟩,⟨#[114]⟩]);have f8:=jo6 (mm:=mm) (Ci (Di ⟨#[120]⟩ ⟨#[122]⟩) [⟨#[120]⟩,⟨#[121]⟩]) (Ci (Di ⟨#[121]⟩ ⟨#[122]⟩) [⟨#[120]⟩,⟨#[121]⟩]);have f9:=jx8 (glS mm) [⟨#[122]⟩] [⟨#[122]⟩];have f10:=jq3 (glS mm) (Ci (Di ⟨#[110,49]⟩ ⟨#[122]⟩) [⟨#[110,49]⟩,⟨#[110,50]⟩]) (Ci (Di ⟨#[110,49]⟩ ⟨#[122]⟩) [⟨#[110,49]⟩,⟨#[110,50]⟩]);rw[Ae hx.may,hx.free,Ae hx.may]at f1;rw[Ae hx.may,Ae hx.may,hx.check,Af (by simp[Sc.isB])]at f2;rw[Ae hm2,Ae hm2,Sc.Vf]at f3;rw[hx.un,hx.err]at f4;rw[Ae hx.may,Ae hx.may,hx.check,Ae (by simp[Sc.isB])]at f5;rw[Af (by rw[mm7];simp),Af (by rw[mm7];simp)]at f6;rw[hx.un,hx.err,hq.un,hq.err,k7.2 rfl]at f7;rw[hx.un,hx.err,hy.un,hy.err,Sc.Vs]at f8;rw[k7.2 rfl]at f9 f10;simp only[decide_true,Bool.and_self,Az]at f7 f8;have a1:=jo9 (glS mm) ⟨#[120]⟩ ⟨#[122]⟩;have a2:=jo9 (glS mm) ⟨#[120]⟩ ⟨#[120]⟩;have a3:=jo9 (glS mm) ⟨#[110,49]⟩ ⟨#[122]⟩;have a4:=jo9 (glS mm) ⟨#[113]⟩ ⟨#[122]⟩;have a5:=jo9 (glS mm) ⟨#[121]⟩ ⟨#[122]⟩;have d1:=jd6 (glS mm) (Di ⟨#[120]⟩ ⟨#[122]⟩) [⟨#[120]⟩,⟨#[121]⟩];have d2:=jd6 (glS mm) (Di ⟨#[120]⟩ ⟨#[120]⟩) [⟨#[120]⟩,⟨#[120]⟩];have d3:=jd6 (glS mm) (Di ⟨#[110,49]⟩ ⟨#[122]⟩) [⟨#[110,49]⟩,⟨#[110,50]⟩];have d4:=jd6 (glS mm) (Di ⟨#[113]⟩ ⟨#[122]⟩) [⟨#[113]⟩,⟨#[114]⟩];have d5:=jd6 (glS mm) (Di ⟨#[121]⟩ ⟨#[122]⟩) [⟨#[120]⟩,⟨#[121]⟩];clear hx hy hq hm2 xy qr;simp only[v8]at a1 a2 a3 a4 a5 d1 d2 d3 d4 d5 f1 f2 f3 f4 f5 f6 f7 f8 f10;generalize Ci (Di ⟨#[120]⟩ ⟨#[122]⟩) [⟨#[120]⟩,⟨#[121]⟩]=P1 at d1 d2 d3 d4 d5 f1 f2 f3 f4 f5 f6 f7 f8 f10;generalize Ci (Di ⟨#[120]⟩ ⟨#[120]⟩) [⟨#[120]⟩,⟨#[120]⟩]=P2 at d1 d2 d3 d4 d5 f1 f2 f3 f4 f5 f6 f7 f8 f10;generalize Ci (Di ⟨#[110,49]⟩ ⟨#[122]⟩) [⟨#[110,49]⟩,⟨#[110,50]⟩]=P3 at d1 d2 d3 d4 d5 f1 f2 f3 f4 f5 f6 f7 f8 f10;generalize Ci (Di ⟨#[113]⟩ ⟨#[122]⟩) [⟨#[113]⟩,⟨#[114]⟩]=P4 at d1 d2 d3 d4 d5 f1 f2 f3 f4 f5 f6 f7 f8 f10;generalize Ci (Di ⟨#[121]⟩ ⟨#[122]⟩) [⟨#[120]⟩,⟨#[121]⟩]=P5 at d1 d2 d3 d4 d5 f1 f2 f3 f4 f5 f6 f7 f8 f10;generalize Di ⟨#[120]⟩ ⟨#[122]⟩=A1 at a1 a2 a3 a4 a5 d1 d2 d3 d4 d5;generalize Di ⟨#[120]⟩ ⟨#[120]⟩=A2 at a1 a2 a3 a4 a5 d1 d2 d3 d4 d5;generalize Di ⟨#[110,49]⟩ ⟨#[122]⟩=A3 at a1 a2 a3 a4 a5 d1 d2 d3 d4 d5;generalize Di ⟨#[113]⟩ ⟨#[122]⟩=A4 at a1 a2 a3 a4 a5 d1 d2 d3 d4 d5;generalize Di ⟨#[121]⟩ ⟨#[122]⟩=A5 at a1 a2 a3 a4 a5 d1 d2 d3 d4 d5
 (refine j3 func11 ntmps11 results11 fun w M=>?_)
 ((repeat' first|refine Ca 15 ?_;(refine Dh 15 ?_)|refine Ca 1 ?_;(refine Cj 1 ?_)|refine Ca 24 ?_;(refine Dh 24 ?_)|refine Ca 30 ?_;(refine Dh 30 ?_)|refine Ca 8 ?_;(refine Cj 8 ?_)|refine Ca 42 ?_;(refine Dh 42 ?_)|refine Ck 8 ?_;refine halt ?_|refine yyp ?_;try refine Cc ?_ ?_<;>intro hb|refine yy ?_|refine Cf 29 ?_;refine Cg (hc:=(by first|exact a1|exact a2|exact a3|exact a4|exact a5)) ?_|refine Cf 26 ?_;refine Cg (hc:=(by first|exact d1|exact d2|exact d3|exact d4|exact d5)) ?_|refine Cf 12 ?_;refine Cg (hc:=(by first|exact f1|exact f6)) ?_|refine Cf 15 ?_;refine Cg (hc:=(by first|exact f2|exact f3|exact f5)) ?_|refine Cf 18 ?_;refine Cg (hc:=(by first|exact f4)) ?_|refine at_nil ?_;refine Ce Oe ?_|refine Cb fun K hK=>?_|apply_assumption -exfalso -symm);all_goals try refine unhalt ?_)
 (refine Ck 8 ?_;(try dsimp only[List.append]);refine j1 [] (Cm [0,4,8,12,18,22,24,28,32,36,40,44,48,52,56,60,64,68,72,76,80,84,88,92,96,100,104,108,113] (.two 29 (Cm [122,126,130,132,136,140,144,148,152,156,160,164,168,172,176,180,184,189] (.two 48 (Cm [198,202,206,208,212,217] (.two 55 (lin [226,230,234,236,240,244]) 56 (lin [222,230,234,236,240,244]))) 49 (Cm [194,202,206,208,212,217] (.two 55 (lin [226,230,234,236,240,244]) 56 (lin [222,230,234,236,240,244]))))) 30 (Cm [118,126,130,132,136,140,144,148,152,156,160,164,168,172,176,180,184,189] (.two 48 (Cm [198,202,206,208,212,217] (.two 55 (lin [226,230,234,236,240,244]) 56 (lin [222,230,234,236,240,244]))) 49 (Cm [194,202,206,208,212,217] (.two 55 (lin [226,230,234,236,240,244]) 56 (lin [222,230,234,236,240,244]))))))) ?_;(repeat' first|refine Ca 53 ?_;(first|refine yyp ?_;try refine Cc ?_ ?_<;>intro hb|refine yy2 ?_ ?_<;>intro hcmp);all_goals try refine Db false 53 0 Oe ?_|refine Ca 55 ?_;(refine Dh 55 ?_)|refine Ca 58 ?_;(first|refine yyp ?_;try refine Cc ?_ ?_<;>intro hb|refine yy2 ?_ ?_<;>intro hcmp);all_goals try refine Db false 58 0 Oe ?_|refine Ca 60 ?_;(refine z_p (Ov rfl rfl rfl rfl (b:=true) (propext ⟨fun _=>rfl,fun _=>rfl⟩)) ?_)|refine Ca 62 ?_;(first|refine yyp ?_;try refine Cc ?_ ?_<;>intro hb|refine yy2 ?_ ?_<;>intro hcmp);all_goals try refine Db false 62 0 Oe ?_|refine Ca 66 ?_;(first|refine yyp ?_;try refine Cc ?_ ?_<;>intro hb|refine yy2 ?_ ?_<;>intro hcmp);all_goals try refine Db false 66 0 Oe ?_|refine Ca 68 ?_;(refine z_p (Ov rfl rfl rfl rfl (b:=true) (propext ⟨fun _=>rfl,fun _=>rfl⟩)) ?_)|refine Ca 70 ?_;(first|refine yyp ?_;try refine Cc ?_ ?_<;>intro hb|refine yy2 ?_ ?_<;>intro hcmp);all_goals try refine Db false 70 0 Oe ?_|refine Ca 74 ?_;(first|refine yyp ?_;try refine Cc ?_ ?_<;>intro hb|refine yy2 ?_ ?_<;>intro hcmp);all_goals try refine Db false 74 0 Oe ?_|refine Ca 78 ?_;(first|refine yyp ?_;try refine Cc ?_ ?_<;>intro hb|refine yy2 ?_ ?_<;>intro hcmp);all_goals try refine Db false 78 0 Oe ?_|refine Ca 81 ?_;(refine Dh 81 ?_)|refine Ca 85 ?_;(first|refine yyp ?_;try refine Cc ?_ ?_<;>intro hb|refine yy2 ?_ ?_<;>intro hcmp);all_goals try refine Db false 85 0 Oe ?_|refine Ca 87 ?_;(refine z_p (Ov rfl rfl rfl rfl (b:=true) (propext ⟨fun _=>rfl,fun _=>rfl⟩)) ?_)|refine Ca 89 ?_;(first|refine yyp ?_;try refine Cc ?_ ?_<;>intro hb|refine yy2 ?_ ?_<;>intro hcmp);all_goals try refine Db false 89 0 Oe ?_|refine Ca 93 ?_;(first|refine yyp ?_;try refine Cc ?_ ?_<;>intro hb|refine yy2 ?_ ?_<;>intro hcmp);all_goals try refine Db false 93 0 Oe ?_|refine Ca 97 ?_;(first|refine yyp ?_;try refine Cc ?_ ?_<;>intro hb|refine yy2 ?_ ?_<;>intro hcmp);all_goals try refine Db false 97 0 Oe ?_|refine Ca 100 ?_;(refine Dh 100 ?_)|refine Ca 104 ?_;(first|refine yyp ?_;try refine Cc ?_ ?_<;>intro hb|refine yy2 ?_ ?_<;>intro hcmp);all_goals try refine Db false 104 0 Oe ?_|refine Ca 107 ?_;(refine Dh 107 ?_)|refine yyp ?_;try refine Cc ?_ ?_<;>intro hb|refine Cf 29 ?_;refine Cg (hc:=(by first|exact a1|exact a2|exact a3|exact a4|exact a5)) ?_|refine Cf 26 ?_;refine Cg (hc:=(by first|exact d1|exact d2|exact d3|exact d4|exact d5)) ?_|refine Cf 14 ?_;refine Cg (hc:=(by first|exact f9)) ?_;try refine Cc ?_ ?_<;>intro hb|refine Cf 19 ?_;refine Cg (hc:=(by first|exact f10)) ?_;try refine Cc ?_ ?_<;>intro hb|refine Cf 20 ?_;refine Cg (hc:=(by first|exact f7|exact f8)) ?_;try refine Cc ?_ ?_<;>intro hb|refine at_nil ?_;refine Ce Oe ?_|refine Oh ?_ ?_))
 all_goals clear a1 a2 a3 a4 a5 d1 d2 d3 d4 d5 f1 f2 f3 f4 f5 f6 f7 f8 f9 f10
 all_goals as_aux_lemma=>
  apply_assumption -exfalso -symm
  (refine j0 (j5 ?_))
  first
   |rfl
   |contradiction
end
end Go.Proofs.YtdopmfifmgkmoaaGreatDoor
