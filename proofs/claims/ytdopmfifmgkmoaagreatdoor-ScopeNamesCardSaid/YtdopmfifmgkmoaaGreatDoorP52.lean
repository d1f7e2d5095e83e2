/- Parts: L2, L3, L4, L5, L6. -/
import Derived.Test.YtdopmfifmgkmoaaGreatDoorP32
import Derived.Test.YtdopmfifmgkmoaaGreatDoorP20
import Derived.Test.YtdopmfifmgkmoaaGreatDoorP43
import Derived.Test.YtdopmfifmgkmoaaGreatDoorP45
import Derived.Test.YtdopmfifmgkmoaaGreatDoorP47
import Derived.Test.YtdopmfifmgkmoaaGreatDoorP51
set_option linter.all false
set_option maxRecDepth 100000
set_option maxHeartbeats 16000000
namespace Go.Proofs.YtdopmfifmgkmoaaGreatDoor
open Go.RowKit Go.Proofs.Tryz
section
def jz5 (s:ByteArray):Ex:=.mk 4 0 0 0 s []
def prAssign (x y:ByteArray):Pr:=.mk 3 ByteArray.empty ex0 [jz5 x] [jz5 y] rp0 [] [] [] sp0
def prDeclare (p:Pr)(ns:List ByteArray):Pr:=.mk 18 ByteArray.empty ex0 [] [] rp0 [] [p] [] (.mk 1 ⟨1,0,0,ByteArray.empty⟩ ns ex0 pt0 [] [])
attribute [local irreducible] TR TC
theorem mi1 (gl:List (Nat × List D))(s:ByteArray):FnD prog gl 54 [.d (.str s)] (fun v=>v=.d (dEx (jz5 s))):=by
 rw[r9]
 (refine j4 func54 ntmps54 results54 fun w M=>?_)
 (repeat' first|refine tr_at 2 ?_;(refine j1 2 ?_)|refine tr_at 4 ?_;refine z_p w_buildn ?_|refine yyp ?_;try refine s_bu ?_ ?_<;>intro hb|refine yy ?_|refine at_nil ?_;refine z_nil [0,2,3,4,28] ?_|refine tc_seq fun K hK=>?_|apply_assumption -exfalso -symm)
 all_goals first
  |((refine j0 (j6 ?_))
    rfl)
theorem jn8 (gl:List (Nat × List D))(x y:ByteArray):FnD prog gl 29 [.d (.str x),.d (.str y)] (fun v=>v=.d (dPr (prAssign x y))):=by
 have c1:=mi1 gl x
 have c2:=mi1 gl y
 rw[x5]
 rw[r9]at c1 c2
 (refine j4 func29 ntmps29 results29 fun w M=>?_)
 (repeat' first|refine tr_at 4 ?_;(refine j1 4 ?_)|refine tr_at 7 ?_;(refine z_lit 7 ?_)|refine tr_at 10 ?_;(refine z_lit 10 ?_)|refine tr_at 11 ?_;refine z_p w_buildn ?_|refine yyp ?_;try refine s_bu ?_ ?_<;>intro hb|refine yy ?_|refine at_call 54 ?_;refine y_call (hc:=(by first|exact c1|exact c2)) ?_|refine at_nil ?_;refine z_nil [0,1,4,5,6,7,45] ?_|refine tc_seq fun K hK=>?_|apply_assumption -exfalso -symm)
 all_goals first
  |((refine j0 (j6 ?_))
    rfl)
theorem mn7 (p:Pr)(ns:List ByteArray):dP (prDeclare p ns)=.agg [.int .u8 (prDeclare p ns).kind,.str (prDeclare p ns).name,
 .int .u8 (prDeclare p ns).chan.kind,.int .u8 (prDeclare p ns).chan.op,.int .u8 (prDeclare p ns).chan.ty,.int .i32 (prDeclare p ns).chan.n,.str (prDeclare p ns).chan.s,.list 6 ((prDeclare p ns).chan.l.map dEx),
 .list 6 ((prDeclare p ns).targets.map dEx),.list 6 ((prDeclare p ns).exprs.map dEx),
 .str (prDeclare p ns).rep.name,.int .u8 (prDeclare p ns).rep.base.kind,.int .u8 (prDeclare p ns).rep.base.op,.int .u8 (prDeclare p ns).rep.base.ty,.int .i32 (prDeclare p ns).rep.base.n,.str (prDeclare p ns).rep.base.s,.list 6 ((prDeclare p ns).rep.base.l.map dEx),
 .int .u8 (prDeclare p ns).rep.count.kind,.int .u8 (prDeclare p ns).rep.count.op,.int .u8 (prDeclare p ns).rep.count.ty,.int .i32 (prDeclare p ns).rep.count.n,.str (prDeclare p ns).rep.count.s,.list 6 ((prDeclare p ns).rep.count.l.map dEx),
 .list 23 ((prDeclare p ns).guards.map dGu),.list 42 [dP p],.list 1 ((prDeclare p ns).procs.map (.int .i64)),
 .int .u8 (prDeclare p ns).spec.kind,.int .u8 (prDeclare p ns).spec.type.kind,.int .i64 (prDeclare p ns).spec.type.dim,.int .u8 (prDeclare p ns).spec.type.item,.str (prDeclare p ns).spec.type.proto,.list 1 ((prDeclare p ns).spec.names.map .str),
 .int .u8 (prDeclare p ns).spec.e.kind,.int .u8 (prDeclare p ns).spec.e.op,.int .u8 (prDeclare p ns).spec.e.ty,.int .i32 (prDeclare p ns).spec.e.n,.str (prDeclare p ns).spec.e.s,.list 6 ((prDeclare p ns).spec.e.l.map dEx),
 .bool (prDeclare p ns).spec.proto.cases,.list 2 ((prDeclare p ns).spec.proto.l.map dVa),.list 6 ((prDeclare p ns).spec.formals.map dFo),.list 42 ((prDeclare p ns).spec.body.map dPr)]:=by
 have e:(prDeclare p ns).l.map dPr=[dP p]:=by rw[x5];rfl
 show D.agg [.int .u8 (prDeclare p ns).kind,.str (prDeclare p ns).name,
  .int .u8 (prDeclare p ns).chan.kind,.int .u8 (prDeclare p ns).chan.op,.int .u8 (prDeclare p ns).chan.ty,.int .i32 (prDeclare p ns).chan.n,.str (prDeclare p ns).chan.s,.list 6 ((prDeclare p ns).chan.l.map dEx),
  .list 6 ((prDeclare p ns).targets.map dEx),.list 6 ((prDeclare p ns).exprs.map dEx),
  .str (prDeclare p ns).rep.name,.int .u8 (prDeclare p ns).rep.base.kind,.int .u8 (prDeclare p ns).rep.base.op,.int .u8 (prDeclare p ns).rep.base.ty,.int .i32 (prDeclare p ns).rep.base.n,.str (prDeclare p ns).rep.base.s,.list 6 ((prDeclare p ns).rep.base.l.map dEx),
  .int .u8 (prDeclare p ns).rep.count.kind,.int .u8 (prDeclare p ns).rep.count.op,.int .u8 (prDeclare p ns).rep.count.ty,.int .i32 (prDeclare p ns).rep.count.n,.str (prDeclare p ns).rep.count.s,.list 6 ((prDeclare p ns).rep.count.l.map dEx),
  .list 23 ((prDeclare p ns).guards.map dGu),.list 42 ((prDeclare p ns).l.map dPr),.list 1 ((prDeclare p ns).procs.map (.int .i64)),
  .int .u8 (prDeclare p ns).spec.kind,.int .u8 (prDeclare p ns).spec.type.kind,.int .i64 (prDeclare p ns).spec.type.dim,.int .u8 (prDeclare p ns).spec.type.item,.str (prDeclare p ns).spec.type.proto,.list 1 ((prDeclare p ns).spec.names.map .str),
  .int .u8 (prDeclare p ns).spec.e.kind,.int .u8 (prDeclare p ns).spec.e.op,.int .u8 (prDeclare p ns).spec.e.ty,.int .i32 (prDeclare p ns).spec.e.n,.str (prDeclare p ns).spec.e.s,.list 6 ((prDeclare p ns).spec.e.l.map dEx),
  .bool (prDeclare p ns).spec.proto.cases,.list 2 ((prDeclare p ns).spec.proto.l.map dVa),.list 6 ((prDeclare p ns).spec.formals.map dFo),.list 42 ((prDeclare p ns).spec.body.map dPr)]=_
 rw[e]
theorem jk4 (gl:List (Nat × List D))(p:Pr)(ns:List ByteArray):FnD prog gl 26 [.d (dPr p),.d (.list 1 (ns.map .str))] (fun v=>v=.d (dPr (prDeclare p ns))):=by
 simp only[x5]
 rw[mn7]
 (refine j4 func26 ntmps26 results26 fun w M=>?_)
 (repeat' first|refine tr_at 2 ?_;(refine k7 2 ?_)|refine tr_at 4 ?_;(refine j1 4 ?_)|refine tr_at 9 ?_;(refine z_lit 9 ?_)|refine tr_at 10 ?_;refine z_p w_buildn ?_|refine yyp ?_;try refine s_bu ?_ ?_<;>intro hb|refine yy ?_|refine at_nil ?_;refine z_nil [0,1,2,4,5,6,7,45] ?_|refine tc_seq fun K hK=>?_|apply_assumption -exfalso -symm)
 (refine j0 (j6 ?_))
 rfl
end
section
theorem nx:Lx.isName ⟨#[120]⟩=true:=by decide
theorem ny:Lx.isName ⟨#[121]⟩=true:=by decide
theorem nz:Lx.isName ⟨#[122]⟩=true:=by decide
theorem nq:Lx.isName ⟨#[113]⟩=true:=by decide
theorem nr:Lx.isName ⟨#[114]⟩=true:=by decide
theorem np:Lx.prim 1=true:=by decide
theorem kh1 (a b x z:ByteArray)(ha:Lx.isName a=true)(hb:Lx.isName b=true)(hx:Lx.isName x=true)(hz:Lx.isName z=true):Lx.prMay (prDeclare (prAssign x z) [a,b])=true:=by
 simp[ha,hb,hx,hz,np,Lx.prMay,prDeclare,prAssign,Lx.prVisit,Lx.prsVisit,Lx.headVisit,Lx.gusVisit,Lx.plainB,Lx.usesOf,Lx.usesRep,Lx.uses0,Lx.repMay,Lx.noneB,Lx.hasB,Lx.eachB,Lx.spMay,Lx.tyMay,Lx.elemB,Lx.exMay,Lx.visitOf,Lx.visitsOf,Lx.exOwn,Lx.exParts,jz5,rp0,ex0,sp0,pt0,Pr.kind,Pr.name,Pr.chan,Pr.targets,Pr.exprs,Pr.rep,Pr.guards,Pr.l,Pr.procs,Pr.spec,Sp.kind,Sp.type,Sp.names,Sp.e,Sp.proto,Sp.formals,Sp.body,Ex.kind,Ex.op,Ex.ty,Ex.n,Ex.s,Ex.l,eqB]
theorem mi2:Lx.prMay pr0=false:=by
 simp[Lx.prMay,pr0,Lx.prVisit,Lx.plainB,Lx.usesOf,Lx.uses0,rp0,ex0,sp0,pt0,Pr.kind]
end
section
namespace Sc
open Lx
theorem rh0:newName 1=⟨#[110,49]⟩:=by unfold newName;rw[dec,dif_pos (by omega)];rfl
theorem rh1:newName 2=⟨#[110,50]⟩:=by unfold newName;rw[dec,dif_pos (by omega)];rfl
theorem mi3 (σ:W)(n:Nat)(hc:σ.count=n)(h:¬σ.has (newName (n+1))):freshOf σ=(newName (n+1),{σ with count:=(n+1:Nat)}):=by
 unfold freshOf
 dsimp only
 rw[hc,Int.toNat_natCast,skip,if_neg h]
theorem ky4 (σ:W)(u v:ByteArray):prOf σ (prAssign u v)=(prAssign (nameOf σ u).1 (nameOf (nameOf σ u).2 v).1,(nameOf (nameOf σ u).2 v).2):=by
 have h0:∀ σ:W,exprOf σ ex0=(ex0,σ):=fun σ=>by simp[ex0,exprOf,exNamed,z6]
 have h1:∀ (σ:W) s,exprOf σ (jz5 s)=(jz5 (nameOf σ s).1,(nameOf σ s).2):=fun σ s=>by simp[jz5,exprOf,exNamed,z6]
 have hr:∀ σ:W,repOf σ ⟨ByteArray.empty,ex0,ex0⟩=((⟨ByteArray.empty,ex0,ex0⟩,[]),σ):=fun σ=>by simp[repOf]
 have he:(nameOf (nameOf σ u).2 v).2.env=σ.env:=by rw[(grow_name _ _).env,(grow_name _ _).env]
 simp only[prAssign,sp0,prOf,prsOf,gusOf,pheadOf,y4,jw6,taggedB,h0,h1,hr,Int.reduceEq,if_false,if_true,rp0]
 simp only[<-he]
theorem qa5 (σ:W)(a b:ByteArray):twiceOf σ [a,b]={σ with ev:=σ.ev++(if a=b then [(b,true)] else [])}:=by
 unfold twiceOf
 have:(List.range 2)=[0,1]:=rfl
 simp only[List.length_cons,List.length_nil,Nat.zero_add,Nat.reduceAdd,this]
 by_cases h:a=b
 ·subst h
  simp[isB]
 ·simp[isB,h]
theorem kh2 (σ:W)(p:Pr)(a b:ByteArray):prOf σ (prDeclare p [a,b])=
 let σ1:=twiceOf σ [a,b]
 let f1:=freshOf σ1
 let f2:=freshOf f1.2
 let q:=prOf {f2.2 with env:=pushE σ.env [a,b] [⟨f1.1,false,[]⟩,⟨f2.1,false,[]⟩]} p
 (prDeclare q.1 [f1.1,f2.1],{q.2 with env:=σ.env}):=by
 have h0:∀ σ:W,exprOf σ ex0=(ex0,σ):=fun σ=>by simp[ex0,exprOf,exNamed,z6]
 have ht2:∀ σ:W,twiceOf σ []=σ:=fun σ=>by
  unfold twiceOf
  simp
 have hr:∀ σ:W,repOf σ rp0=((rp0,[]),σ):=fun σ=>by simp[repOf,rp0]
 simp only[prDeclare,prOf,prsOf,gusOf,pheadOf,headOf,y4,outOf,h0,hr,ht2,declOf,List.map_cons,List.map_nil,typedOf,named,ownTags,carriedOf,Sp.names,Sp.formals,Sp.type,Sp.e,Sp.kind,if_true,if_false,reduceCtorEq,Int.reduceEq,false_and]
theorem rf5 (tk:List (ByteArray × Int))(a b u v:ByteArray)(hab:a≠b)(h1:¬(start tk).has ⟨#[110,49]⟩)(h2:¬(start tk).has ⟨#[110,50]⟩):
 prOf (start tk) (prDeclare (prAssign u v) [a,b])=
  (prDeclare (prAssign (if u=a then ⟨#[110,49]⟩ else if u=b then ⟨#[110,50]⟩ else u) (if v=a then ⟨#[110,49]⟩ else if v=b then ⟨#[110,50]⟩ else v)) [⟨#[110,49]⟩,⟨#[110,50]⟩],
    ⟨fun _=>[],tk,2,(if u=a\/u=b then [] else [(u,false)])++(if v=a\/v=b then [] else [(v,false)])⟩):=by
 have f1:freshOf (twiceOf (start tk) [a,b])=(newName 1,{start tk with count:=1}):=by
  rw[qa5,if_neg hab,List.append_nil]
  exact mi3 _ 0 rfl (by rw[rh0];exact h1)
 have f2:freshOf {start tk with count:=1}=(newName 2,{start tk with count:=2}):=mi3 _ 1 rfl (by rw[rh1];exact h2)
 have hn:∀ (ev:List (ByteArray × Bool)) (s:ByteArray),nameOf ⟨pushE (start tk).env [a,b] [⟨⟨#[110,49]⟩,false,[]⟩,⟨⟨#[110,50]⟩,false,[]⟩],tk,2,ev⟩ s=
  (if s=a then ⟨#[110,49]⟩ else if s=b then ⟨#[110,50]⟩ else s,⟨pushE (start tk).env [a,b] [⟨⟨#[110,49]⟩,false,[]⟩,⟨⟨#[110,50]⟩,false,[]⟩],tk,2,ev++(if s=a\/s=b then [] else [(s,false)])⟩):=fun ev s=>by
  unfold nameOf step
  dsimp only[pushE,start]
  by_cases ha:s=a
  ·subst ha
   simp[hab]
  ·by_cases hb:s=b
   ·subst hb
    simp[ha]
   ·simp[ha,hb]
 rw[kh2]
 dsimp only
 rw[f1]
 dsimp only
 rw[f2]
 dsimp only
 rw[rh0,rh1,ky4]
 have e:({start tk with count:=2,env:=pushE (start tk).env [a,b] [⟨⟨#[110,49]⟩,false,[]⟩,⟨⟨#[110,50]⟩,false,[]⟩]}:W)=⟨pushE (start tk).env [a,b] [⟨⟨#[110,49]⟩,false,[]⟩,⟨⟨#[110,50]⟩,false,[]⟩],tk,2,[]⟩:=rfl
 rw[e,hn]
 dsimp only
 rw[hn]
 rfl
theorem qo9 {s t:ByteArray}(tk:List (ByteArray × Int))(h:tk=[]\/∃ n,tk=[(t,n)])(hne:s≠t):¬(start tk).has s:=by
 unfold W.has start
 rcases h with rfl|⟨n,rfl⟩
 ·simp
 ·simpa using hne
structure AtHead (p q:Pr):Prop where
 may:prMay p=true
 free:freeOf p=[⟨#[122]⟩]
 check:∀ ns,checkOf p ns=if ns.any (isB ⟨#[122]⟩) then (ByteArray.empty,0) else (⟨#[122]⟩,120)
 err:errOf p=0
 un:unOf p=q
theorem at_head {a b u:ByteArray}(hab:a≠b)(ha:isName a=true)(hb:isName b=true)(hu:u=a\/u=b)(hza:(⟨#[122]⟩:ByteArray)≠a)(hzb:(⟨#[122]⟩:ByteArray)≠b):
 AtHead (prDeclare (prAssign u ⟨#[122]⟩) [a,b]) (prDeclare (prAssign (if u=a then ⟨#[110,49]⟩ else ⟨#[110,50]⟩) ⟨#[122]⟩) [⟨#[110,49]⟩,⟨#[110,50]⟩]):=by
 have z1:(⟨#[110,49]⟩:ByteArray)≠⟨#[122]⟩:=by decide
 have z2:(⟨#[110,50]⟩:ByteArray)≠⟨#[122]⟩:=by decide
 have hw:=fun(tk:List (ByteArray × Int)) (h:tk=[]\/∃ n,tk=[(⟨#[122]⟩,n)])=>rf5 tk a b u ⟨#[122]⟩ hab (qo9 tk h z1) (qo9 tk h z2)
 have hm:prMay (prDeclare (prAssign u ⟨#[122]⟩) [a,b])=true:=kh1 a b u _ ha hb (by rcases hu with rfl|rfl<;>assumption) nz
 have hw0:=hw [] (.inl rfl)
 have hev:(prOf (start []) (prDeclare (prAssign u ⟨#[122]⟩) [a,b])).2.ev=[(⟨#[122]⟩,false)]:=by
  rw[hw0]
  dsimp only
  rw[if_pos hu,if_neg (by simp[hza,hzb])]
  rfl
 have hfree:freeOf (prDeclare (prAssign u ⟨#[122]⟩) [a,b])=[⟨#[122]⟩]:=by
  unfold freeOf
  rw[hev]
  simp[freeEv,once,ky9]
 have hck:∀ ns,checkOf (prDeclare (prAssign u ⟨#[122]⟩) [a,b]) ns=if ns.any (isB ⟨#[122]⟩) then (ByteArray.empty,0) else (⟨#[122]⟩,120):=fun ns=>by
  unfold checkOf
  rw[hev]
  simp[firstEv]
 have hck0:(checkOf (prDeclare (prAssign u ⟨#[122]⟩) [a,b]) (freeOf (prDeclare (prAssign u ⟨#[122]⟩) [a,b]))).2=0:=by
  rw[hck,hfree,if_pos (by simp[isB])]
 have htk:takenOf (prDeclare (prAssign u ⟨#[122]⟩) [a,b])=[(⟨#[122]⟩,1)]:=by
  unfold takenOf
  rw[hfree]
  simp[tagsPr,prDeclare,prAssign,tagsPrs,tagsGus,pt0,sp0,upAll,upTk]
 refine⟨hm,hfree,hck,?_,?_⟩
 ·unfold errOf
  rw[if_pos hm]
  exact hck0
 ·unfold unOf
  rw[if_pos ⟨hm,hck0⟩]
  unfold uniqOf
  rw[htk,hw _ (.inr ⟨1,rfl⟩)]
  dsimp only
  congr 2
  ·rcases hu with rfl|rfl
   ·simp
   ·simp[Ne.symm hab]
  ·simp[hza,hzb]
theorem check_twice:checkOf (prDeclare (prAssign ⟨#[120]⟩ ⟨#[120]⟩) [⟨#[120]⟩,⟨#[120]⟩]) []=(⟨#[120]⟩,121):=by
 unfold checkOf
 rw[kh2]
 dsimp only
 have he:(⟨#[120]⟩,true)∈(twiceOf (start []) [(⟨#[120]⟩:ByteArray),⟨#[120]⟩]).ev:=by rw[qa5];simp
 rw[ky4]
 unfold nameOf
 simp[pushE,freshOf,qa5,start,firstEv]
theorem head_apart:eqB (prDeclare (prAssign ⟨#[110,49]⟩ ⟨#[122]⟩) [⟨#[110,49]⟩,⟨#[110,50]⟩]) (prDeclare (prAssign ⟨#[110,50]⟩ ⟨#[122]⟩) [⟨#[110,49]⟩,⟨#[110,50]⟩])=false:=by
 rw[r8]
 intro h
 simp[prDeclare,prAssign,jz5]at h
end Sc
end
section
def ql5_0:List Nat:=[0,1,2,3,4,5,6,7,8,9,10,11,13]
variable {mm:Int}
attribute [local irreducible] TR TC
theorem kr6:FnD prog (glS mm) 11 [] (fun v=>v=.d (.bool true)):=by
 have xy:(⟨#[120]⟩:ByteArray)≠⟨#[121]⟩:=by decide
 have qr:(⟨#[113]⟩:ByteArray)≠⟨#[114]⟩:=by decide
 have hx:=Sc.at_head (u:=⟨#[120]⟩) xy nx ny (.inl rfl) (by decide) (by decide)
 have hy:=Sc.at_head (u:=⟨#[121]⟩) xy nx ny (.inr rfl) (by decide) (by decide)
 have hq:=Sc.at_head (u:=⟨#[113]⟩) qr nq nr (.inl rfl) (by decide) (by decide)
 have hm2:Lx.prMay (prDeclare (prAssign ⟨#[120]⟩ ⟨#[120]⟩) [⟨#[120]⟩,⟨#[120]⟩])=true:=kh1 _ _ _ _ nx nx nx nx
 rw[if_pos rfl]at hx hq
 rw[if_neg (Ne.symm xy)]at hy
 have f1:=jp2 (mm:=mm) (prDeclare (prAssign ⟨#[120]⟩ ⟨#[122]⟩) [⟨#[120]⟩,⟨#[121]⟩])
 have f2:=jn4 (mm:=mm) (prDeclare (prAssign ⟨#[120]⟩ ⟨#[122]⟩) [⟨#[120]⟩,⟨#[121]⟩]) [⟨#[97]⟩]
 have f3:=jn4 (mm:=mm) (prDeclare (prAssign ⟨#[120]⟩ ⟨#[120]⟩) [⟨#[120]⟩,⟨#[120]⟩]) []
 have f4:=jp3 (mm:=mm) (prDeclare (prAssign ⟨#[120]⟩ ⟨#[122]⟩) [⟨#[120]⟩,⟨#[121]⟩])
 have f5:=jn4 (mm:=mm) (prDeclare (prAssign ⟨#[120]⟩ ⟨#[122]⟩) [⟨#[120]⟩,⟨#[121]⟩]) [⟨#[122]⟩]
 have f6:=jp2 (mm:=mm) pr0
 have f7:=jn5 (mm:=mm) (prDeclare (prAssign ⟨#[120]⟩ ⟨#[122]⟩) [⟨#[120]⟩,⟨#[121]⟩]) (prDeclare (prAssign ⟨#[113]⟩ ⟨#[122]⟩) [⟨#[113]⟩,⟨#[114]⟩])
 have f8:=jn5 (mm:=mm) (prDeclare (prAssign ⟨#[120]⟩ ⟨#[122]⟩) [⟨#[120]⟩,⟨#[121]⟩]) (prDeclare (prAssign ⟨#[121]⟩ ⟨#[122]⟩) [⟨#[120]⟩,⟨#[121]⟩])
 have f9:=kk8 (glS mm) [⟨#[122]⟩] [⟨#[122]⟩]
 have f10:=ju2 (glS mm) (prDeclare (prAssign ⟨#[110,49]⟩ ⟨#[122]⟩) [⟨#[110,49]⟩,⟨#[110,50]⟩]) (prDeclare (prAssign ⟨#[110,49]⟩ ⟨#[122]⟩) [⟨#[110,49]⟩,⟨#[110,50]⟩])
 rw[if_pos hx.may,hx.free,if_pos hx.may]at f1
 rw[if_pos hx.may,if_pos hx.may,hx.check,if_neg (by simp[Sc.isB])]at f2
 rw[if_pos hm2,if_pos hm2,Sc.check_twice]at f3
 rw[hx.un,hx.err]at f4
 rw[if_pos hx.may,if_pos hx.may,hx.check,if_pos (by simp[Sc.isB])]at f5
 rw[if_neg (by rw[mi2];simp),if_neg (by rw[mi2];simp)]at f6
 rw[hx.un,hx.err,hq.un,hq.err,j9.2 rfl]at f7
 rw[hx.un,hx.err,hy.un,hy.err,Sc.head_apart]at f8
 rw[j9.2 rfl]at f9 f10
 simp only[decide_true,Bool.and_self,Bool.and_false]at f7 f8
 have a1:=jn8 (glS mm) ⟨#[120]⟩ ⟨#[122]⟩
 have a2:=jn8 (glS mm) ⟨#[120]⟩ ⟨#[120]⟩
 have a3:=jn8 (glS mm) ⟨#[110,49]⟩ ⟨#[122]⟩
 have a4:=jn8 (glS mm) ⟨#[113]⟩ ⟨#[122]⟩
 have a5:=jn8 (glS mm) ⟨#[121]⟩ ⟨#[122]⟩
 have d1:=jk4 (glS mm) (prAssign ⟨#[120]⟩ ⟨#[122]⟩) [⟨#[120]⟩,⟨#[121]⟩]
 have d2:=jk4 (glS mm) (prAssign ⟨#[120]⟩ ⟨#[120]⟩) [⟨#[120]⟩,⟨#[120]⟩]
 have d3:=jk4 (glS mm) (prAssign ⟨#[110,49]⟩ ⟨#[122]⟩) [⟨#[110,49]⟩,⟨#[110,50]⟩]
 have d4:=jk4 (glS mm) (prAssign ⟨#[113]⟩ ⟨#[122]⟩) [⟨#[113]⟩,⟨#[114]⟩]
 have d5:=jk4 (glS mm) (prAssign ⟨#[121]⟩ ⟨#[122]⟩) [⟨#[120]⟩,⟨#[121]⟩]
 clear hx hy hq hm2 xy qr
 simp only[x5]at a1 a2 a3 a4 a5 d1 d2 d3 d4 d5 f1 f2 f3 f4 f5 f6 f7 f8 f10
 generalize prDeclare (prAssign ⟨#[120]⟩ ⟨#[122]⟩) [⟨#[120]⟩,⟨#[121]⟩]=P1 at d1 d2 d3 d4 d5 f1 f2 f3 f4 f5 f6 f7 f8 f10
 generalize prDeclare (prAssign ⟨#[120]⟩ ⟨#[120]⟩) [⟨#[120]⟩,⟨#[120]⟩]=P2 at d1 d2 d3 d4 d5 f1 f2 f3 f4 f5 f6 f7 f8 f10
 generalize prDeclare (prAssign ⟨#[110,49]⟩ ⟨#[122]⟩) [⟨#[110,49]⟩,⟨#[110,50]⟩]=P3 at d1 d2 d3 d4 d5 f1 f2 f3 f4 f5 f6 f7 f8 f10
 generalize prDeclare (prAssign ⟨#[113]⟩ ⟨#[122]⟩) [⟨#[113]⟩,⟨#[114]⟩]=P4 at d1 d2 d3 d4 d5 f1 f2 f3 f4 f5 f6 f7 f8 f10
 generalize prDeclare (prAssign ⟨#[121]⟩ ⟨#[122]⟩) [⟨#[120]⟩,⟨#[121]⟩]=P5 at d1 d2 d3 d4 d5 f1 f2 f3 f4 f5 f6 f7 f8 f10
 generalize prAssign ⟨#[120]⟩ ⟨#[122]⟩=A1 at a1 a2 a3 a4 a5 d1 d2 d3 d4 d5
 generalize prAssign ⟨#[120]⟩ ⟨#[120]⟩=A2 at a1 a2 a3 a4 a5 d1 d2 d3 d4 d5
 generalize prAssign ⟨#[110,49]⟩ ⟨#[122]⟩=A3 at a1 a2 a3 a4 a5 d1 d2 d3 d4 d5
 generalize prAssign ⟨#[113]⟩ ⟨#[122]⟩=A4 at a1 a2 a3 a4 a5 d1 d2 d3 d4 d5
 generalize prAssign ⟨#[121]⟩ ⟨#[122]⟩=A5 at a1 a2 a3 a4 a5 d1 d2 d3 d4 d5
 (refine j4 func11 ntmps11 results11 fun w M=>?_)
 ((repeat' first|refine tr_at 15 ?_;(refine z_lit 15 ?_)|refine tr_at 1 ?_;(refine j1 1 ?_)|refine tr_at 24 ?_;(refine z_lit 24 ?_)|refine tr_at 30 ?_;(refine z_lit 30 ?_)|refine tr_at 8 ?_;(refine j1 8 ?_)|refine tr_at 42 ?_;(refine z_lit 42 ?_)|refine j5 8 ?_;refine halt ?_|refine yyp ?_;try refine s_bu ?_ ?_<;>intro hb|refine yy ?_|refine at_call 29 ?_;refine y_call (hc:=(by first|exact a1|exact a2|exact a3|exact a4|exact a5)) ?_|refine at_call 26 ?_;refine y_call (hc:=(by first|exact d1|exact d2|exact d3|exact d4|exact d5)) ?_|refine at_call 12 ?_;refine y_call (hc:=(by first|exact f1|exact f6)) ?_|refine at_call 15 ?_;refine y_call (hc:=(by first|exact f2|exact f3|exact f5)) ?_|refine at_call 18 ?_;refine y_call (hc:=(by first|exact f4)) ?_|refine at_nil ?_;refine z_nil ql5_0 ?_|refine tc_seq fun K hK=>?_|apply_assumption -exfalso -symm);all_goals try refine unhalt ?_)
 (refine j5 8 ?_;(try dsimp only[List.append]);refine j2 [] (linT [0,4,8,12,18,22,24,28,32,36,40,44,48,52,56,60,64,68,72,76,80,84,88,92,96,100,104,108,113] (.two 29 (linT [122,126,130,132,136,140,144,148,152,156,160,164,168,172,176,180,184,189] (.two 48 (linT [198,202,206,208,212,217] (.two 55 (lin [226,230,234,236,240,244]) 56 (lin [222,230,234,236,240,244]))) 49 (linT [194,202,206,208,212,217] (.two 55 (lin [226,230,234,236,240,244]) 56 (lin [222,230,234,236,240,244]))))) 30 (linT [118,126,130,132,136,140,144,148,152,156,160,164,168,172,176,180,184,189] (.two 48 (linT [198,202,206,208,212,217] (.two 55 (lin [226,230,234,236,240,244]) 56 (lin [222,230,234,236,240,244]))) 49 (linT [194,202,206,208,212,217] (.two 55 (lin [226,230,234,236,240,244]) 56 (lin [222,230,234,236,240,244]))))))) ?_;(repeat' first|refine tr_at 53 ?_;(first|refine yyp ?_;try refine s_bu ?_ ?_<;>intro hb|refine yy2 ?_ ?_<;>intro hcmp);all_goals try refine z_sh false 53 0 ql5_0 ?_|refine tr_at 55 ?_;(refine z_lit 55 ?_)|refine tr_at 58 ?_;(first|refine yyp ?_;try refine s_bu ?_ ?_<;>intro hb|refine yy2 ?_ ?_<;>intro hcmp);all_goals try refine z_sh false 58 0 ql5_0 ?_|refine tr_at 60 ?_;(refine z_p (q_str_eql rfl rfl rfl rfl (b:=true) (propext ⟨fun _=>rfl,fun _=>rfl⟩)) ?_)|refine tr_at 62 ?_;(first|refine yyp ?_;try refine s_bu ?_ ?_<;>intro hb|refine yy2 ?_ ?_<;>intro hcmp);all_goals try refine z_sh false 62 0 ql5_0 ?_|refine tr_at 66 ?_;(first|refine yyp ?_;try refine s_bu ?_ ?_<;>intro hb|refine yy2 ?_ ?_<;>intro hcmp);all_goals try refine z_sh false 66 0 ql5_0 ?_|refine tr_at 68 ?_;(refine z_p (q_str_eql rfl rfl rfl rfl (b:=true) (propext ⟨fun _=>rfl,fun _=>rfl⟩)) ?_)|refine tr_at 70 ?_;(first|refine yyp ?_;try refine s_bu ?_ ?_<;>intro hb|refine yy2 ?_ ?_<;>intro hcmp);all_goals try refine z_sh false 70 0 ql5_0 ?_|refine tr_at 74 ?_;(first|refine yyp ?_;try refine s_bu ?_ ?_<;>intro hb|refine yy2 ?_ ?_<;>intro hcmp);all_goals try refine z_sh false 74 0 ql5_0 ?_|refine tr_at 78 ?_;(first|refine yyp ?_;try refine s_bu ?_ ?_<;>intro hb|refine yy2 ?_ ?_<;>intro hcmp);all_goals try refine z_sh false 78 0 ql5_0 ?_|refine tr_at 81 ?_;(refine z_lit 81 ?_)|refine tr_at 85 ?_;(first|refine yyp ?_;try refine s_bu ?_ ?_<;>intro hb|refine yy2 ?_ ?_<;>intro hcmp);all_goals try refine z_sh false 85 0 ql5_0 ?_|refine tr_at 87 ?_;(refine z_p (q_str_eql rfl rfl rfl rfl (b:=true) (propext ⟨fun _=>rfl,fun _=>rfl⟩)) ?_)|refine tr_at 89 ?_;(first|refine yyp ?_;try refine s_bu ?_ ?_<;>intro hb|refine yy2 ?_ ?_<;>intro hcmp);all_goals try refine z_sh false 89 0 ql5_0 ?_|refine tr_at 93 ?_;(first|refine yyp ?_;try refine s_bu ?_ ?_<;>intro hb|refine yy2 ?_ ?_<;>intro hcmp);all_goals try refine z_sh false 93 0 ql5_0 ?_|refine tr_at 97 ?_;(first|refine yyp ?_;try refine s_bu ?_ ?_<;>intro hb|refine yy2 ?_ ?_<;>intro hcmp);all_goals try refine z_sh false 97 0 ql5_0 ?_|refine tr_at 100 ?_;(refine z_lit 100 ?_)|refine tr_at 104 ?_;(first|refine yyp ?_;try refine s_bu ?_ ?_<;>intro hb|refine yy2 ?_ ?_<;>intro hcmp);all_goals try refine z_sh false 104 0 ql5_0 ?_|refine tr_at 107 ?_;(refine z_lit 107 ?_)|refine yyp ?_;try refine s_bu ?_ ?_<;>intro hb|refine at_call 29 ?_;refine y_call (hc:=(by first|exact a1|exact a2|exact a3|exact a4|exact a5)) ?_|refine at_call 26 ?_;refine y_call (hc:=(by first|exact d1|exact d2|exact d3|exact d4|exact d5)) ?_|refine at_call 14 ?_;refine y_call (hc:=(by first|exact f9)) ?_;try refine s_bu ?_ ?_<;>intro hb|refine at_call 19 ?_;refine y_call (hc:=(by first|exact f10)) ?_;try refine s_bu ?_ ?_<;>intro hb|refine at_call 20 ?_;refine y_call (hc:=(by first|exact f7|exact f8)) ?_;try refine s_bu ?_ ?_<;>intro hb|refine at_nil ?_;refine z_nil ql5_0 ?_|refine tr_two ?_ ?_))
 all_goals clear a1 a2 a3 a4 a5 d1 d2 d3 d4 d5 f1 f2 f3 f4 f5 f6 f7 f8 f9 f10
 all_goals as_aux_lemma=>
  apply_assumption -exfalso -symm
  (refine j0 (j6 ?_))
  first
   |rfl
   |contradiction
end
section
variable {mm:Int}
section
variable {E:Set}{S:Sd}{dst:Option Tmp}{ty:TypeId}{pos:String}{af:Array Edge}{gd:Option (Nat × Bool)}
end
attribute [local irreducible] TR TC
end
end Go.Proofs.YtdopmfifmgkmoaaGreatDoor
