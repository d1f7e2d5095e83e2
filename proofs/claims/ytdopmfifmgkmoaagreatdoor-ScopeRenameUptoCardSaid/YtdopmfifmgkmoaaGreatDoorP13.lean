/- Parts: O6, S1, S2, S3, O7. -/
import Derived.Test.YtdopmfifmgkmoaaGreatDoorP12
set_option linter.all false
set_option maxRecDepth 100000
set_option maxHeartbeats 16000000
namespace Go.Proofs.YtdopmfifmgkmoaaGreatDoor
open Go.RowKit Go.Proofs.Tryz
section
def Xf:List Nat:=[0,2,3,4,5,6,7,26]
theorem km9 (e:Ex):dE e=.agg [.int .u8 e.kind,.int .u8 e.op,.int .u8 e.ty,.int .i32 e.n,.str e.s,.list 6 (e.l.map dE)]:=by
 rw[dE,r9]
theorem FnE.ofD {P:Program}{gl:List (Nat × List D)}{f:FuncId}{args:List V}{x:D}(h:FnD P gl f args (fun v=>v=.d x))(hp:Pures args):FnE P gl f args [] (fun v H1=>v=.d x/\H1=[]):=fun w M β us h1 h2 h3 h4=>by
 have hlow:∀ b o,Mut M β [] b o->b<w.heap.size:=by
  rintro b o (hm|⟨n,ob,hl,_⟩)
  ·exact h1 b o hm
  ·cases hl
 refine(h w (Mut M β []) us hlow (Dc.pure (fun v hv u hu=>(hp.all v hv).keep (Keeps.refl _ _) u hu) h2) h4).mono ?_;rintro e w' ⟨v,y,rfl,hpv,rfl,hb,hv⟩;exact⟨_,y,[],β,⟨rfl,rfl⟩,rfl,rfl,Frm.of_below hb _,fun _ _=>rfl,fun n ob b hl=>(by cases hl),⟨fun n ob hl=>(by cases hl),fun n m b ob ob' _ hl=>(by cases hl),fun n ob b o hl=>(by cases hl)⟩,hpv.keep (Keeps.refl _ _) y hv⟩
attribute [local irreducible] TR TC
theorem ke4 (gl:List (Nat × List D))(a b:Int)(n:Nat):FnD prog gl 137 [.d (.agg [.int .i64 a,.int .i64 b]),.d (.int .i64 n)] (fun v=>v=.d (.bool (Lx.hasB a b n))):=by
 (refine j3 func137 ntmps137 results137 fun w M=>?_)
 (repeat' first|refine Ca 2 ?_;(refine j6 2 ?_)|refine yyp ?_;try refine Cc ?_ ?_<;>intro hb|refine yy ?_|refine yy2 ?_ ?_<;>intro hcmp|refine at_nil ?_;refine Ce [0,1,2,4,5,6,7] ?_|refine Cb fun K hK=>?_|apply_assumption -exfalso -symm)
 all_goals
  (refine j0 (j5 ?_))
  simp only[oneOf,Lx.hasB, *,decide_true,decide_false,Bn,Az,Bc,Av]
theorem kx8 (gl:List (Nat × List D))(a b c:Bool):FnD prog gl 139 [.d (.bool a),.d (.bool b),.d (.bool c)] (fun v=>v=.d (.bool (if a then b else c))):=by
 (refine j3 func139 ntmps139 results139 fun w M=>?_)
 (repeat' first|refine yyp ?_;try refine Cc ?_ ?_<;>intro hb|refine yy ?_|refine at_nil ?_;refine Ce [0,1,2,6,7,8] ?_|refine Cb fun K hK=>?_|apply_assumption -exfalso -symm)
 all_goals
  (refine j0 (j5 ?_))
  simp only[oneOf, *,if_true,if_false,Ay]
theorem ke5 (gl:List (Nat × List D))(c:UInt8):FnD prog gl 175 [.d (.int .u8 c.toNat)] (fun v=>v=.d (.bool (Lx.letter c))):=by
 (refine j3 func175 ntmps175 results175 fun w M=>?_)
 (repeat' first|refine yyp ?_;try refine Cc ?_ ?_<;>intro hb|refine yy ?_|refine yy2 ?_ ?_<;>intro hcmp|refine at_nil ?_;refine Ce [0,2,3,4,5,6] ?_|refine Cb fun K hK=>?_|apply_assumption -exfalso -symm)
 all_goals
  (refine j0 (j5 ?_))
  simp only[oneOf,Ax,An,Lx.letter]
  first|(symm;simp only[Bo,Al];omega)|(symm;simp only[Bool.or_eq_false_iff,decide_eq_false_iff_not];omega)
theorem qn2 (gl:List (Nat × List D))(c:UInt8):FnD prog gl 200 [.d (.int .u8 c.toNat)] (fun v=>v=.d (.bool (Lx.digit c))):=by
 (refine j3 func200 ntmps200 results200 fun w M=>?_)
 (repeat' first|refine yyp ?_;try refine Cc ?_ ?_<;>intro hb|refine yy ?_|refine yy2 ?_ ?_<;>intro hcmp|refine at_nil ?_;refine Ce [0,2,3,4,5,6] ?_|refine Cb fun K hK=>?_|apply_assumption -exfalso -symm)
 all_goals
  (refine j0 (j5 ?_))
  simp only[oneOf,Ax,An,Lx.digit]
  first|(symm;simp only[Al];omega)|(symm;simp only[decide_eq_false_iff_not];omega)
theorem ri4 (l:List UInt8)(k:Nat)(hk:k<l.length):Lx.run (l.drop k)=if Lx.Md l[k] then Lx.run (l.drop (k+1))+1 else 0:=by
 rw[Bd hk];rfl
theorem qw4 (gl:List (Nat × List D))(s:ByteArray)(hs:s.size<=1000000000000):FnD prog gl 176 [.d (.str s)] (fun v=>v=.d (.int .i64 (Lx.run s.data.toList))):=by
 have hsz:s.data.toList.length=s.size:=by simp
 (refine j3 func176 ntmps176 results176 fun w M=>?_)
 (repeat' first|refine yyp ?_;try refine Cc ?_ ?_<;>intro hb|refine yy ?_|refine at_nil ?_;refine Ce Xf ?_|refine Cb fun K hK=>?_|apply_assumption -exfalso -symm)
 refine j8 [2,3,6,7,8,9,10,11,12,13,14,15,16,17,18,19,20,21,22,23,24,25,26,27,28] [] (fun k:Nat=>[(6,.d (.int .i64 k))]) (fun _=>[]) (fun k=>k<=s.size/\Lx.run s.data.toList=Lx.run (s.data.toList.drop k)+k) (fun k=>s.size - k) 0 ⟨by simp,by simp⟩ fun k ⟨hk,hr⟩=>?_;dsimp only[Ac,Ad];by_cases hk2:k<s.size
 ·have hat:s.data.toList[k]? =some (s.data.toList[k]'(by omega)):=Be (by omega);generalize hc:s.data.toList[k]'(by omega)=c at hat;have hrun:=ri4 s.data.toList k (by omega);rw[hc]at hrun
  (repeat' first|refine yyp ?_;try refine Cc ?_ ?_<;>intro hb|refine yy ?_|refine yy2 ?_ ?_<;>intro hcmp|refine Cf 175 ?_;refine Cg (hc:=(ke5 gl c)) ?_;try refine Cc ?_ ?_<;>intro hb|refine Cf 200 ?_;refine Cg (hc:=(qn2 gl c)) ?_;try refine Cc ?_ ?_<;>intro hb|refine at_nil ?_;refine Ce Xf ?_|refine Cb fun K hK=>?_|apply_assumption -exfalso -symm)
  ·refine⟨k+1,⟨by omega,?_⟩,by omega,v6⟩;rw[hr,hrun,Ae (by unfold Lx.Md;rw[hb];simp)];omega
  ·refine⟨k+1,⟨by omega,?_⟩,by omega,v6⟩;rw[hr,hrun,Ae (by unfold Lx.Md;rw[hb];simp)];omega
  ·(refine j0 (j5 ?_))
   have h46:¬c.toNat=46:=by omega
   rw[hr,hrun,Af (by simp only[Lx.Md, *,decide_false,Ea,Ay,not_false_eq_true])];simp[oneOf]
  ·refine⟨k+1,⟨by omega,?_⟩,by omega,v6⟩;have h46:c.toNat=46:=by omega
   rw[hr,hrun,Ae (by unfold Lx.Md;rw[h46];simp)];omega
 ·(repeat' first|refine yyp ?_;try refine Cc ?_ ?_<;>intro hb|refine yy ?_|refine at_nil ?_;refine Ce Xf ?_|refine Cb fun K hK=>?_|apply_assumption -exfalso -symm)
  (refine j0 (j5 ?_))
  have:k=s.size:=by omega
  rw[hr,this,<-hsz,Eu];simp[oneOf,Lx.run]
end
section
namespace Sc
structure Ent where
 fresh:ByteArray
 proto:Bool
 tags:List ByteArray
inductive Kind where
 |free
 |check (names:List ByteArray)
 |none
structure W where
 env:ByteArray->List Ent
 tk:List (ByteArray × Int)
 count:Int
 ev:List (ByteArray × Bool)
open Classical in
noncomputable def isB (y x:ByteArray):Bool:=decide (x=y)
theorem Li {x y:ByteArray}:isB y x=true↔x=y:=by simp[isB]
def Ih:List (ByteArray × Bool)->List ByteArray
 |[]=>[]
 |x::l=>if x.2 then Ih l else x.1::Ih l
theorem Og:∀ l m:List (ByteArray × Bool),Ih (l++m)=Ih l++Ih m
 |[],m=>rfl
 |x::l,m=>by simp only[Ac,Ih,Og l m];split<;>rfl
theorem Nr:∀ l:List (ByteArray × Bool),(Ih l).length<=l.length
 |[]=>As _
 |x::l=>by have:=Nr l;simp only[Ih,Ai];split<;>(try simp only[Ai])<;>omega
noncomputable def Hu (ns:List ByteArray):List (ByteArray × Bool)->ByteArray × Int
 |[]=>(ByteArray.empty,0)
 |x::l=>if x.2 then (x.1,121) else if ns.any (isB x.1) then Hu ns l else (x.1,120)
theorem Qv (ns:List ByteArray)(x:ByteArray × Bool):∀ l:List (ByteArray × Bool),Hu ns (l++[x])=if (Hu ns l).2=0 then (if x.2 then (x.1,121) else if ns.any (isB x.1) then Hu ns l else (x.1,120)) else Hu ns l
 |[]=>by simp[Hu]
 |y::l=>by
  simp only[Ac,Hu,Qv ns x l];split
  ·simp
  ·split
   ·rfl
   ·simp
def tkK (l:List (ByteArray × Int)):List D:=l.map fun x=>.str x.1
def tkV (l:List (ByteArray × Int)):List D:=l.map fun x=>.int .i64 x.2
end Sc
def Ga (x:Sc.Ent):D:=.agg [.str x.fresh,.bool x.proto,.list 1 (x.tags.map .str)]
abbrev Ig (f:ByteArray->List Sc.Ent)(s:ByteArray):List D:=(f s).map Ga
def ja4:Sc.Kind->V
 |.free=>.clo (.func 32) [] [.ptr 903 0]
 |.check _=>.clo (.func 38) [] [.ptr 905 0,.ptr 904 0,.ptr 903 0]
 |.none=>.clo (.func 42) [] []
noncomputable def n6 (k:Sc.Kind)(σ:Sc.W):List (Nat × Ob):=match k with
 |.free=>[(903,.hbox 9 1 ((Sc.Ih σ.ev).map .str) 0 [.nils 0])]
 |.check ns=>[(903,.box [.d (.list 1 (ns.map .str))]),(904,.box [.d (.str (Sc.Hu ns σ.ev).1)]),(905,.box [.d (.int .i64 (Sc.Hu ns σ.ev).2)])]
 |.none=>[]
noncomputable def HW (k:Sc.Kind)(σ:Sc.W):List (Nat × Ob):=(900,.box [.map 901,.map 902,.d (.int .i64 σ.count),ja4 k])::(901,.smap 120 3 (Ig σ.env) none)::(902,.map (Sc.tkK σ.tk) (Sc.tkV σ.tk))::n6 k σ
theorem qz9 {α:Type}(l:List α)(d:α)(i:Nat)(hi:i<l.length)(e:i+1=l.length):l.getLast?.getD d=l[i]:=by
 rw[List.getLast?_eq_getElem?,show l.length - 1=i by omega,Be hi];rfl
attribute [local irreducible] TR TC
theorem me0 (gl:List (Nat × List D))(k:Sc.Kind)(σ:Sc.W)(s:ByteArray):FnE prog gl 94 [.ptr 900 0,.d (.str s)] (HW k σ)
 (fun v H1=>v=.tup [.d (Ga ((σ.env s).getLast?.getD ⟨ByteArray.empty,false,[]⟩)),.d (.bool (!(σ.env s).isEmpty))]/\H1=HW k σ):=by
 obtain⟨env,tk,c,ev⟩:=σ;cases k
 all_goals dsimp only[HW,ja4,n6]
 all_goals (refine j4 func94 ntmps94 results94 fun w M E b0=>?_)
 all_goals (repeat' first|refine Ca 4 ?_;(refine Cj 4 ?_)|refine Ca 12 ?_;(refine jf4 950 ?_;refine jd0 950 rfl fun hsm=>?_;simp only[Aa]at hsm)|refine Ca 16 ?_;refine z_p Cr ?_|refine yyp ?_;try refine Cc ?_ ?_<;>intro hb|refine yy ?_|refine yy2 ?_ ?_<;>intro hcmp|refine at_nil ?_;refine Ce [0,1,4,5,6,7,15,120] ?_|refine Cb fun K hK=>?_|apply_assumption -exfalso -symm)
 all_goals (refine jd9 (qz6 (n:=901) (q:=950)) ?_)
 all_goals (refine j0 (j7 ⟨?_,rfl⟩))
 all_goals first
  |(have h0:env s=[]:=At (by omega)
    rw[h0];rfl)
  |(have hne:env s≠[]:=fun e=>hcmp (by rw[e];rfl)
    have hpos:0<(env s).length:=List.length_pos_iff.2 hne;rw[qz9 (env s) ⟨ByteArray.empty,false,[]⟩ ((env s).length - 1:Int).toNat (by omega) (by omega)];have he:(env s).isEmpty=false:=by simpa using hne
    rw[he];rfl)
end
section
open Sc (isB Li)
def Sc.step (σ:Sc.W)(s:ByteArray)(tw:Bool):Sc.W:={σ with ev:=σ.ev++[(s,tw)]}
attribute [local irreducible] TR TC
theorem kq7 (gl:List (Nat × List D))(σ:Sc.W)(s:ByteArray)(tw:Bool)(hl:σ.ev.length<=1000000000):FnE prog gl 32 [.d (.str s),.d (.bool tw),.ptr 903 0] (n6 .free σ)
 (fun v H1=>v=.tup []/\H1=n6 .free (Sc.step σ s tw)):=by
 have hlf:=Sc.Nr σ.ev;dsimp only[n6,Sc.step]
 (refine j4 func32 ntmps32 results32 fun w M E b0=>?_)
 refine qn0 ?_;refine jd9 (jf2 (n:=903) (q:=950) rfl rfl) ?_
 (repeat' first|refine Ca 9 ?_;(refine Dh 9 ?_)|refine yyp ?_;try refine Cc ?_ ?_<;>intro hb|refine yy ?_|(refine Cq ?_;first|(refine Cs (fun kv=>?_))|(refine z_append_suf (fun sx sp kv hsx hsp hsl=>?_)))|refine at_nil ?_;refine Ce [0,1,2,5,6,7] ?_|refine Cb fun K hK=>?_|apply_assumption -exfalso -symm)
 all_goals refine rn6 (jf3 (n:=903) (q:=950) (i:=0) rfl rfl rfl rfl (by(repeat (first|exact Drop.nil|apply Drop.drop rfl|apply Drop.take rfl));fail_if_success intros) rfl) ?_
 all_goals simp only[Sc.Og,Sc.Ih,Bp,hb,if_true,if_false,Ay,Ap,Am,Aw,Ff]
 all_goals exact je0 ⟨rfl,rfl⟩
theorem jx7 (gl:List (Nat × List D))(s:ByteArray)(tw:Bool):FnE prog gl 42 [.d (.str s),.d (.bool tw)] [] (fun v H1=>v=.tup []/\H1=[]):=by
 (refine j4 func42 ntmps42 results42 fun w M E b0=>?_)
 (repeat' first|refine yy ?_|refine Cb fun K hK=>?_|apply_assumption -exfalso -symm)
 exact je0 ⟨rfl,rfl⟩
end
section
open Sc (isB Li)
def jd5 {α:Type}(p:α->Bool):List α->Int
 |[]=>-1
 |x::l=>if p x then 0 else if jd5 p l<0 then -1 else jd5 p l+1
theorem p8 {α:Type}(p:α->Bool):∀ l:List α,-1<=jd5 p l
 |[]=>by simp[jd5]
 |x::l=>by
  have:=p8 p l;simp only[jd5];split
  ·omega
  ·split<;>omega
theorem g9 {α:Type}(p:α->Bool)(l:List α)(k:Nat)(hk:k<l.length):jd5 p (l.drop k)=if p l[k] then 0 else if jd5 p (l.drop (k+1))<0 then -1 else jd5 p (l.drop (k+1))+1:=by
 rw[Bd hk];rfl
theorem je1 {α:Type}(p:α->Bool):∀ l:List α,0<=jd5 p l↔l.any p=true
 |[]=>by simp[jd5]
 |x::l=>by
  have h1:=je1 p l;have h2:=p8 p l;simp only[jd5,List.any_cons,Bo,<-h1];cases p x
  ·simp only[Ay,if_false,false_or];split<;>omega
  ·simp
attribute [local irreducible] TR TC
theorem kx9 (gl:List (Nat × List D))(l:List ByteArray)(y:ByteArray):FnD prog gl 71 [.d (.list 1 (l.map .str)),.d (.str y)] (fun v=>v=.d (.int .i64 (jd5 (isB y) l))):=by
 (refine j3 func71 ntmps71 results71 fun w M=>?_)
 refine r7 0 rfl fun hn=>?_;simp only[Aa]at hn
 (repeat' first|refine yyp ?_;try refine Cc ?_ ?_<;>intro hb|refine yy ?_|refine at_nil ?_;refine Ce [0,1,4,5,6,7,8,9,16] ?_|refine Cb fun K hK=>?_|apply_assumption -exfalso -symm)
 refine jg6 (fun k:Nat=>⟨[(8,.d (.int .i64 k)),(7,.d (.int .i64 l.length)),(0,.d (.list 1 (l.map .str))),(1,.d (.str y))],[],gl⟩)
  (fun k=>k<=l.length/\jd5 (isB y) l=if jd5 (isB y) (l.drop k)<0 then -1 else jd5 (isB y) (l.drop k)+k) (fun k=>l.length - k) 0 ⟨Ak _,by have:=p8 (isB y) l;simp only[Et];split<;>omega⟩ v6 fun k ⟨hk,hi⟩=>?_
 have hlo:=p8 (isB y) (l.drop (k+1))
 (repeat' first|refine yyp ?_;try refine Cc ?_ ?_<;>intro hb|refine yy ?_|refine yy2 ?_ ?_<;>intro hcmp|refine at_nil ?_;refine Ce [0,1,4,5,6,7,8,9,16] ?_|refine Cb fun K hK=>?_|apply_assumption -exfalso -symm)
 ·(refine j0 (j5 ?_))
  rw[hi,g9 _ _ _ (by omega),Ae (Li.2 hcmp.symm)];simp[oneOf]
 ·refine⟨k+1,⟨by omega,?_⟩,by omega,v6⟩;have hne:¬isB y l[k]=true:=fun h=>hcmp (Li.1 h).symm;rw[hi,g9 _ _ _ (by omega),Af hne];split<;>split<;>(try split)<;>omega
 ·(refine j0 (j5 ?_))
  have:k=l.length:=by omega
  rw[hi,this,Eu];simp[oneOf,jd5]
theorem l9 (gl:List (Nat × List D))(l:List ByteArray)(y:ByteArray):FnD prog gl 39 [.d (.list 1 (l.map .str)),.d (.str y)] (fun v=>v=.d (.bool (l.any (isB y)))):=by
 (refine j3 func39 ntmps39 results39 fun w M=>?_)
 (repeat' first|refine yyp ?_;try refine Cc ?_ ?_<;>intro hb|refine yy ?_|refine yy2 ?_ ?_<;>intro hcmp|refine Cf 71 ?_;refine Cg (hc:=(kx9 gl l y)) ?_|refine at_nil ?_;refine Ce [0,1,4,5,6,7] ?_|refine Cb fun K hK=>?_|apply_assumption -exfalso -symm)
 all_goals
  (refine j0 (j5 ?_))
  simp only[oneOf,Ax,An];have h:=je1 (isB y) l;cases ha:l.any (isB y) with
  |true=>first|rfl|(exfalso;have:=h.2 ha;omega)
  |false=>first|rfl|(exfalso;rw[ha]at h;have:=h.1 (by omega);cases this)
theorem ke6 (gl:List (Nat × List D))(ns:List ByteArray)(σ:Sc.W)(s:ByteArray)(tw:Bool):FnE prog gl 38 [.d (.str s),.d (.bool tw),.ptr 905 0,.ptr 904 0,.ptr 903 0] (n6 (.check ns) σ)
 (fun v H1=>v=.tup []/\H1=n6 (.check ns) (Sc.step σ s tw)):=by
 dsimp only[n6,Sc.step];rw[Sc.Qv];generalize Sc.Hu ns σ.ev=r;obtain⟨rn,re⟩:=r;dsimp only
 (refine j4 func38 ntmps38 results38 fun w M E b0=>?_)
 (repeat' first|refine yyp ?_;try refine Cc ?_ ?_<;>intro hb|refine yy ?_|refine yy2 ?_ ?_<;>intro hcmp|refine Cf 39 ?_;refine Cg (hc:=(l9 gl ns s)) ?_;try refine Cc ?_ ?_<;>intro hb|refine at_nil ?_;refine Ce [0,1,2,3,4,7,10,13] ?_|refine Cb fun K hK=>?_|apply_assumption -exfalso -symm)
 all_goals try simp only[Bv]at hcmp
 all_goals simp only[*,if_true,if_false,Ay,Bool.true_eq_false,or_true,or_false,true_or,false_or,and_true,and_false,true_and,false_and]
 all_goals exact je0 ⟨rfl,rfl⟩
end
section
def Le:List Nat:=[0,1,4,5,6,7,8,9,16]
def me1:List Nat:=[4,5,8,9,10,11,12,13,14,15,16,17,18]
def Tp:List Nat:=[0,1,4,5,6,7]
def Ve:List Nat:=[0,1,2,4,5,6,7,8]
theorem jn6 {α:Type}(p:α->Bool):∀ l:List α,l.any (fun x=>!p x)=!l.all p
 |[]=>rfl
 |x::l=>by rw[List.any_cons,Ei,jn6 p l,Bool.not_and]
attribute [local irreducible] TR TC
theorem ra0 (gl:List (Nat × List D))(x:Ex)(b:Bool)(h:FnE prog gl 141 [.d (dEx (x))] [] (fun v H1=>v=.d (.bool b)/\H1=[])):
 FnE prog gl 179 [.d (dEx (x)),.ptr 5 0] [(5,.box [.clo (.func 141) [] []])] (fun v H1=>v=.d (.bool (!b))/\H1=[(5,.box [.clo (.func 141) [] []])]):=by
 simp only[r9]at h ⊢
 (refine j4 func179 ntmps179 results179 fun w M E b0=>?_)
 (repeat' first|refine Ca 2 ?_;(refine j6 2 ?_)|refine Ca 6 ?_;refine Ch (hc:=h) ?_;try refine Cc ?_ ?_<;>intro hb|refine yyp ?_;try refine Cc ?_ ?_<;>intro hb|refine yy ?_|refine at_nil ?_;refine Ce [0,1,2,3,4,5,6] ?_|refine Cb fun K hK=>?_|apply_assumption -exfalso -symm)
 all_goals (refine j0 (j7 ⟨?_,rfl⟩))
 all_goals simp only[oneOf, *,Bool.not_true,Bool.not_false]
theorem ra1 (gl:List (Nat × List D))(q:Ex->Bool)(l:List Ex)(h:∀ (k:Nat) (hk:k<l.length),FnE prog gl 179 [.d (dEx (l[k])),.ptr 5 0] [(5,.box [.clo (.func 141) [] []])] (fun v H1=>v=.d (.bool (q l[k]))/\H1=[(5,.box [.clo (.func 141) [] []])])):
 FnE prog gl 202 [.d (.list 6 (l.map (fun x=>dEx (x)))),.clo (.func 179) [] [.ptr 5 0]] [(5,.box [.clo (.func 141) [] []])] (fun v H1=>v=.d (.int .i64 (jd5 q l))/\H1=[(5,.box [.clo (.func 141) [] []])]):=by
 simp only[r9]at h ⊢
 (refine j4 func202 ntmps202 results202 fun w M E b0=>?_)
 refine r7 0 rfl fun hn=>?_;simp only[Aa]at hn
 (repeat' first|refine yyp ?_;try refine Cc ?_ ?_<;>intro hb|refine yy ?_|refine at_nil ?_;refine Ce Le ?_|refine Cb fun K hK=>?_|apply_assumption -exfalso -symm)
 refine j8 me1 [] (fun k:Nat=>[(8,.d (.int .i64 k))]) (fun _=>[]) (fun k=>k<=l.length/\jd5 q l=if jd5 q (l.drop k)<0 then -1 else jd5 q (l.drop k)+k) (fun k=>l.length - k) 0 ⟨Ak _,by have:=p8 q l;simp only[Et];split<;>omega⟩ fun k ⟨hk,hi⟩=>?_;dsimp only[Ac,Ad];have hlo:=p8 q (l.drop (k+1));rcases Ah k l.length with hk2|hk2
 ·have hone:=h k hk2
  (repeat' first|refine Ca 16 ?_;refine Ch (hc:=hone) ?_;try refine Cc ?_ ?_<;>intro hb|refine yyp ?_;try refine Cc ?_ ?_<;>intro hb|refine yy ?_|refine at_nil ?_;refine Ce Le ?_|refine Cb fun K hK=>?_|apply_assumption -exfalso -symm)
  ·(refine j0 (j7 ⟨?_,rfl⟩))
   rw[hi,g9 _ _ _ hk2,Ae hb];simp[oneOf]
  ·refine⟨k+1,⟨by omega,?_⟩,by omega,v6⟩;rw[hi,g9 _ _ _ hk2,Af (show ¬q l[k]=true by rw[hb];exact Ef)];split<;>split<;>(try split)<;>omega
 ·(repeat' first|refine yyp ?_;try refine Cc ?_ ?_<;>intro hb|refine yy ?_|refine at_nil ?_;refine Ce Le ?_|refine Cb fun K hK=>?_|apply_assumption -exfalso -symm)
  (refine j0 (j7 ⟨?_,rfl⟩))
  have:k=l.length:=by omega
  rw[hi,this,Eu];simp[oneOf,jd5]
theorem ra2 (gl:List (Nat × List D))(q:Ex->Bool)(l:List Ex)(h:∀ (k:Nat) (hk:k<l.length),FnE prog gl 179 [.d (dEx (l[k])),.ptr 5 0] [(5,.box [.clo (.func 141) [] []])] (fun v H1=>v=.d (.bool (q l[k]))/\H1=[(5,.box [.clo (.func 141) [] []])])):
 FnE prog gl 178 [.d (.list 6 (l.map (fun x=>dEx (x)))),.clo (.func 179) [] [.ptr 5 0]] [(5,.box [.clo (.func 141) [] []])] (fun v H1=>v=.d (.bool (l.any q))/\H1=[(5,.box [.clo (.func 141) [] []])]):=by
 have hix:=ra1 gl q l h;have hany:=je1 q l
 (refine j4 func178 ntmps178 results178 fun w M E b0=>?_)
 (repeat' first|refine Ca 7 ?_;refine Ch (hc:=hix) ?_|refine yyp ?_;try refine Cc ?_ ?_<;>intro hb|refine yy ?_|refine yy2 ?_ ?_<;>intro hcmp|refine at_nil ?_;refine Ce Tp ?_|refine Cb fun K hK=>?_|apply_assumption -exfalso -symm)
 all_goals (refine j0 (j7 ⟨?_,rfl⟩))
 all_goals simp only[oneOf,Ax,An]
 all_goals first
  |exact(hany.1 (by omega)).symm
  |(symm;cases ha:l.any q with
   |false=>rfl
   |true=>exfalso;have:=hany.2 ha;omega)
theorem ky0 (gl:List (Nat × List D))(p:Ex->Bool)(l:List Ex)(a b:Int)(h:∀ x∈l,FnE prog gl 141 [.d (dEx (x))] [] (fun v H1=>v=.d (.bool (p x))/\H1=[])):
 FnE prog gl 143 [.d (.list 6 (l.map (fun x=>dEx (x)))),.d (.agg [.int .i64 a,.int .i64 b]),.clo (.func 141) [] []] [] (fun v H1=>v=.d (.bool (Lx.Da l a b p))/\H1=[]):=by
 have hcf:=ra2 gl (fun x=>!p x) l fun k hk=>ra0 gl l[k] (p l[k]) (h _ (Ar _));rw[jn6]at hcf
 (refine j4 func143 ntmps143 results143 fun w M E b0=>?_)
 (repeat' first|refine Ca 4 ?_;(refine j6 4 ?_)|refine Ca 5 ?_;(refine j6 5 ?_)|refine Ca 14 ?_;refine Ch (hc:=hcf) ?_;try refine Cc ?_ ?_<;>intro hb|refine yyp ?_;try refine Cc ?_ ?_<;>intro hb|refine yy ?_|refine Cf 137 ?_;refine Cg (hc:=(ke4 gl a b l.length)) ?_;try refine Cc ?_ ?_<;>intro hb|refine at_nil ?_;refine Ce Ve ?_|refine Cb fun K hK=>?_|apply_assumption -exfalso -symm)
 all_goals (refine j0 (j7 ⟨?_,rfl⟩))
 all_goals simp only[oneOf,Lx.Da, *,Bc,Av,Bool.not_not,Bool.not_true,Bool.not_false]
 all_goals (try (simp_all;done))
theorem ri5 (gl:List (Nat × List D))(x:Ex)(b:Bool)(h:FnE prog gl 144 [.d (dEx (x))] [] (fun v H1=>v=.d (.bool b)/\H1=[])):
 FnE prog gl 179 [.d (dEx (x)),.ptr 5 0] [(5,.box [.clo (.func 144) [] []])] (fun v H1=>v=.d (.bool (!b))/\H1=[(5,.box [.clo (.func 144) [] []])]):=by
 simp only[r9]at h ⊢
 (refine j4 func179 ntmps179 results179 fun w M E b0=>?_)
 (repeat' first|refine Ca 2 ?_;(refine j6 2 ?_)|refine Ca 6 ?_;refine Ch (hc:=h) ?_;try refine Cc ?_ ?_<;>intro hb|refine yyp ?_;try refine Cc ?_ ?_<;>intro hb|refine yy ?_|refine at_nil ?_;refine Ce [0,1,2,3,4,5,6] ?_|refine Cb fun K hK=>?_|apply_assumption -exfalso -symm)
 all_goals (refine j0 (j7 ⟨?_,rfl⟩))
 all_goals simp only[oneOf, *,Bool.not_true,Bool.not_false]
theorem ri6 (gl:List (Nat × List D))(q:Ex->Bool)(l:List Ex)(h:∀ (k:Nat) (hk:k<l.length),FnE prog gl 179 [.d (dEx (l[k])),.ptr 5 0] [(5,.box [.clo (.func 144) [] []])] (fun v H1=>v=.d (.bool (q l[k]))/\H1=[(5,.box [.clo (.func 144) [] []])])):
 FnE prog gl 202 [.d (.list 6 (l.map (fun x=>dEx (x)))),.clo (.func 179) [] [.ptr 5 0]] [(5,.box [.clo (.func 144) [] []])] (fun v H1=>v=.d (.int .i64 (jd5 q l))/\H1=[(5,.box [.clo (.func 144) [] []])]):=by
 simp only[r9]at h ⊢
 (refine j4 func202 ntmps202 results202 fun w M E b0=>?_)
 refine r7 0 rfl fun hn=>?_;simp only[Aa]at hn
 (repeat' first|refine yyp ?_;try refine Cc ?_ ?_<;>intro hb|refine yy ?_|refine at_nil ?_;refine Ce Le ?_|refine Cb fun K hK=>?_|apply_assumption -exfalso -symm)
 refine j8 me1 [] (fun k:Nat=>[(8,.d (.int .i64 k))]) (fun _=>[]) (fun k=>k<=l.length/\jd5 q l=if jd5 q (l.drop k)<0 then -1 else jd5 q (l.drop k)+k) (fun k=>l.length - k) 0 ⟨Ak _,by have:=p8 q l;simp only[Et];split<;>omega⟩ fun k ⟨hk,hi⟩=>?_;dsimp only[Ac,Ad];have hlo:=p8 q (l.drop (k+1));rcases Ah k l.length with hk2|hk2
 ·have hone:=h k hk2
  (repeat' first|refine Ca 16 ?_;refine Ch (hc:=hone) ?_;try refine Cc ?_ ?_<;>intro hb|refine yyp ?_;try refine Cc ?_ ?_<;>intro hb|refine yy ?_|refine at_nil ?_;refine Ce Le ?_|refine Cb fun K hK=>?_|apply_assumption -exfalso -symm)
  ·(refine j0 (j7 ⟨?_,rfl⟩))
   rw[hi,g9 _ _ _ hk2,Ae hb];simp[oneOf]
  ·refine⟨k+1,⟨by omega,?_⟩,by omega,v6⟩;rw[hi,g9 _ _ _ hk2,Af (show ¬q l[k]=true by rw[hb];exact Ef)];split<;>split<;>(try split)<;>omega
 ·(repeat' first|refine yyp ?_;try refine Cc ?_ ?_<;>intro hb|refine yy ?_|refine at_nil ?_;refine Ce Le ?_|refine Cb fun K hK=>?_|apply_assumption -exfalso -symm)
  (refine j0 (j7 ⟨?_,rfl⟩))
  have:k=l.length:=by omega
  rw[hi,this,Eu];simp[oneOf,jd5]
theorem ri7 (gl:List (Nat × List D))(q:Ex->Bool)(l:List Ex)(h:∀ (k:Nat) (hk:k<l.length),FnE prog gl 179 [.d (dEx (l[k])),.ptr 5 0] [(5,.box [.clo (.func 144) [] []])] (fun v H1=>v=.d (.bool (q l[k]))/\H1=[(5,.box [.clo (.func 144) [] []])])):
 FnE prog gl 178 [.d (.list 6 (l.map (fun x=>dEx (x)))),.clo (.func 179) [] [.ptr 5 0]] [(5,.box [.clo (.func 144) [] []])] (fun v H1=>v=.d (.bool (l.any q))/\H1=[(5,.box [.clo (.func 144) [] []])]):=by
 have hix:=ri6 gl q l h;have hany:=je1 q l
 (refine j4 func178 ntmps178 results178 fun w M E b0=>?_)
 (repeat' first|refine Ca 7 ?_;refine Ch (hc:=hix) ?_|refine yyp ?_;try refine Cc ?_ ?_<;>intro hb|refine yy ?_|refine yy2 ?_ ?_<;>intro hcmp|refine at_nil ?_;refine Ce Tp ?_|refine Cb fun K hK=>?_|apply_assumption -exfalso -symm)
 all_goals (refine j0 (j7 ⟨?_,rfl⟩))
 all_goals simp only[oneOf,Ax,An]
 all_goals first
  |exact(hany.1 (by omega)).symm
  |(symm;cases ha:l.any q with
   |false=>rfl
   |true=>exfalso;have:=hany.2 ha;omega)
theorem mj5 (gl:List (Nat × List D))(p:Ex->Bool)(l:List Ex)(a b:Int)(h:∀ x∈l,FnE prog gl 144 [.d (dEx (x))] [] (fun v H1=>v=.d (.bool (p x))/\H1=[])):
 FnE prog gl 143 [.d (.list 6 (l.map (fun x=>dEx (x)))),.d (.agg [.int .i64 a,.int .i64 b]),.clo (.func 144) [] []] [] (fun v H1=>v=.d (.bool (Lx.Da l a b p))/\H1=[]):=by
 have hcf:=ri7 gl (fun x=>!p x) l fun k hk=>ri5 gl l[k] (p l[k]) (h _ (Ar _));rw[jn6]at hcf
 (refine j4 func143 ntmps143 results143 fun w M E b0=>?_)
 (repeat' first|refine Ca 4 ?_;(refine j6 4 ?_)|refine Ca 5 ?_;(refine j6 5 ?_)|refine Ca 14 ?_;refine Ch (hc:=hcf) ?_;try refine Cc ?_ ?_<;>intro hb|refine yyp ?_;try refine Cc ?_ ?_<;>intro hb|refine yy ?_|refine Cf 137 ?_;refine Cg (hc:=(ke4 gl a b l.length)) ?_;try refine Cc ?_ ?_<;>intro hb|refine at_nil ?_;refine Ce Ve ?_|refine Cb fun K hK=>?_|apply_assumption -exfalso -symm)
 all_goals (refine j0 (j7 ⟨?_,rfl⟩))
 all_goals simp only[oneOf,Lx.Da, *,Bc,Av,Bool.not_not,Bool.not_true,Bool.not_false]
 all_goals (try (simp_all;done))
theorem rn7 (gl:List (Nat × List D))(x:Fo)(b:Bool)(h:FnE prog gl 188 [.d (dFo (x))] [] (fun v H1=>v=.d (.bool b)/\H1=[])):
 FnE prog gl 210 [.d (dFo (x)),.ptr 5 0] [(5,.box [.clo (.func 188) [] []])] (fun v H1=>v=.d (.bool (!b))/\H1=[(5,.box [.clo (.func 188) [] []])]):=by
 (refine j4 func210 ntmps210 results210 fun w M E b0=>?_)
 (repeat' first|refine Ca 2 ?_;(refine j6 2 ?_)|refine Ca 6 ?_;refine Ch (hc:=h) ?_;try refine Cc ?_ ?_<;>intro hb|refine yyp ?_;try refine Cc ?_ ?_<;>intro hb|refine yy ?_|refine at_nil ?_;refine Ce [0,1,2,3,4,5,6] ?_|refine Cb fun K hK=>?_|apply_assumption -exfalso -symm)
 all_goals (refine j0 (j7 ⟨?_,rfl⟩))
 all_goals simp only[oneOf, *,Bool.not_true,Bool.not_false]
theorem rn8 (gl:List (Nat × List D))(q:Fo->Bool)(l:List Fo)(h:∀ (k:Nat) (hk:k<l.length),FnE prog gl 210 [.d (dFo (l[k])),.ptr 5 0] [(5,.box [.clo (.func 188) [] []])] (fun v H1=>v=.d (.bool (q l[k]))/\H1=[(5,.box [.clo (.func 188) [] []])])):
 FnE prog gl 223 [.d (.list 6 (l.map (fun x=>dFo (x)))),.clo (.func 210) [] [.ptr 5 0]] [(5,.box [.clo (.func 188) [] []])] (fun v H1=>v=.d (.int .i64 (jd5 q l))/\H1=[(5,.box [.clo (.func 188) [] []])]):=by
 (refine j4 func223 ntmps223 results223 fun w M E b0=>?_)
 refine r7 0 rfl fun hn=>?_;simp only[Aa]at hn
 (repeat' first|refine yyp ?_;try refine Cc ?_ ?_<;>intro hb|refine yy ?_|refine at_nil ?_;refine Ce Le ?_|refine Cb fun K hK=>?_|apply_assumption -exfalso -symm)
 refine j8 me1 [] (fun k:Nat=>[(8,.d (.int .i64 k))]) (fun _=>[]) (fun k=>k<=l.length/\jd5 q l=if jd5 q (l.drop k)<0 then -1 else jd5 q (l.drop k)+k) (fun k=>l.length - k) 0 ⟨Ak _,by have:=p8 q l;simp only[Et];split<;>omega⟩ fun k ⟨hk,hi⟩=>?_;dsimp only[Ac,Ad];have hlo:=p8 q (l.drop (k+1));rcases Ah k l.length with hk2|hk2
 ·have hone:=h k hk2
  (repeat' first|refine Ca 16 ?_;refine Ch (hc:=hone) ?_;try refine Cc ?_ ?_<;>intro hb|refine yyp ?_;try refine Cc ?_ ?_<;>intro hb|refine yy ?_|refine at_nil ?_;refine Ce Le ?_|refine Cb fun K hK=>?_|apply_assumption -exfalso -symm)
  ·(refine j0 (j7 ⟨?_,rfl⟩))
   rw[hi,g9 _ _ _ hk2,Ae hb];simp[oneOf]
  ·refine⟨k+1,⟨by omega,?_⟩,by omega,v6⟩;rw[hi,g9 _ _ _ hk2,Af (show ¬q l[k]=true by rw[hb];exact Ef)];split<;>split<;>(try split)<;>omega
 ·(repeat' first|refine yyp ?_;try refine Cc ?_ ?_<;>intro hb|refine yy ?_|refine at_nil ?_;refine Ce Le ?_|refine Cb fun K hK=>?_|apply_assumption -exfalso -symm)
  (refine j0 (j7 ⟨?_,rfl⟩))
  have:k=l.length:=by omega
  rw[hi,this,Eu];simp[oneOf,jd5]
theorem rn9 (gl:List (Nat × List D))(q:Fo->Bool)(l:List Fo)(h:∀ (k:Nat) (hk:k<l.length),FnE prog gl 210 [.d (dFo (l[k])),.ptr 5 0] [(5,.box [.clo (.func 188) [] []])] (fun v H1=>v=.d (.bool (q l[k]))/\H1=[(5,.box [.clo (.func 188) [] []])])):
 FnE prog gl 209 [.d (.list 6 (l.map (fun x=>dFo (x)))),.clo (.func 210) [] [.ptr 5 0]] [(5,.box [.clo (.func 188) [] []])] (fun v H1=>v=.d (.bool (l.any q))/\H1=[(5,.box [.clo (.func 188) [] []])]):=by
 have hix:=rn8 gl q l h;have hany:=je1 q l
 (refine j4 func209 ntmps209 results209 fun w M E b0=>?_)
 (repeat' first|refine Ca 7 ?_;refine Ch (hc:=hix) ?_|refine yyp ?_;try refine Cc ?_ ?_<;>intro hb|refine yy ?_|refine yy2 ?_ ?_<;>intro hcmp|refine at_nil ?_;refine Ce Tp ?_|refine Cb fun K hK=>?_|apply_assumption -exfalso -symm)
 all_goals (refine j0 (j7 ⟨?_,rfl⟩))
 all_goals simp only[oneOf,Ax,An]
 all_goals first
  |exact(hany.1 (by omega)).symm
  |(symm;cases ha:l.any q with
   |false=>rfl
   |true=>exfalso;have:=hany.2 ha;omega)
theorem ra3 (gl:List (Nat × List D))(p:Fo->Bool)(l:List Fo)(a b:Int)(h:∀ x∈l,FnE prog gl 188 [.d (dFo (x))] [] (fun v H1=>v=.d (.bool (p x))/\H1=[])):
 FnE prog gl 187 [.d (.list 6 (l.map (fun x=>dFo (x)))),.d (.agg [.int .i64 a,.int .i64 b]),.clo (.func 188) [] []] [] (fun v H1=>v=.d (.bool (Lx.Da l a b p))/\H1=[]):=by
 have hcf:=rn9 gl (fun x=>!p x) l fun k hk=>rn7 gl l[k] (p l[k]) (h _ (Ar _));rw[jn6]at hcf
 (refine j4 func187 ntmps187 results187 fun w M E b0=>?_)
 (repeat' first|refine Ca 4 ?_;(refine j6 4 ?_)|refine Ca 5 ?_;(refine j6 5 ?_)|refine Ca 14 ?_;refine Ch (hc:=hcf) ?_;try refine Cc ?_ ?_<;>intro hb|refine yyp ?_;try refine Cc ?_ ?_<;>intro hb|refine yy ?_|refine Cf 137 ?_;refine Cg (hc:=(ke4 gl a b l.length)) ?_;try refine Cc ?_ ?_<;>intro hb|refine at_nil ?_;refine Ce Ve ?_|refine Cb fun K hK=>?_|apply_assumption -exfalso -symm)
 all_goals (refine j0 (j7 ⟨?_,rfl⟩))
 all_goals simp only[oneOf,Lx.Da, *,Bc,Av,Bool.not_not,Bool.not_true,Bool.not_false]
 all_goals (try (simp_all;done))
theorem ri8 (gl:List (Nat × List D))(x:ByteArray)(b:Bool)(h:FnE prog gl 140 [.d (.str (x))] [] (fun v H1=>v=.d (.bool b)/\H1=[])):
 FnE prog gl 212 [.d (.str (x)),.ptr 5 0] [(5,.box [.clo (.func 140) [] []])] (fun v H1=>v=.d (.bool (!b))/\H1=[(5,.box [.clo (.func 140) [] []])]):=by
 (refine j4 func212 ntmps212 results212 fun w M E b0=>?_)
 (repeat' first|refine Ca 6 ?_;refine Ch (hc:=h) ?_;try refine Cc ?_ ?_<;>intro hb|refine yyp ?_;try refine Cc ?_ ?_<;>intro hb|refine yy ?_|refine at_nil ?_;refine Ce [0,1,3,4,5,6] ?_|refine Cb fun K hK=>?_|apply_assumption -exfalso -symm)
 all_goals (refine j0 (j7 ⟨?_,rfl⟩))
 all_goals simp only[oneOf, *,Bool.not_true,Bool.not_false]
theorem ri9 (gl:List (Nat × List D))(q:ByteArray->Bool)(l:List ByteArray)(h:∀ (k:Nat) (hk:k<l.length),FnE prog gl 212 [.d (.str (l[k])),.ptr 5 0] [(5,.box [.clo (.func 140) [] []])] (fun v H1=>v=.d (.bool (q l[k]))/\H1=[(5,.box [.clo (.func 140) [] []])])):
 FnE prog gl 224 [.d (.list 1 (l.map (fun x=>.str (x)))),.clo (.func 212) [] [.ptr 5 0]] [(5,.box [.clo (.func 140) [] []])] (fun v H1=>v=.d (.int .i64 (jd5 q l))/\H1=[(5,.box [.clo (.func 140) [] []])]):=by
 (refine j4 func224 ntmps224 results224 fun w M E b0=>?_)
 refine r7 0 rfl fun hn=>?_;simp only[Aa]at hn
 (repeat' first|refine yyp ?_;try refine Cc ?_ ?_<;>intro hb|refine yy ?_|refine at_nil ?_;refine Ce Le ?_|refine Cb fun K hK=>?_|apply_assumption -exfalso -symm)
 refine j8 me1 [] (fun k:Nat=>[(8,.d (.int .i64 k))]) (fun _=>[]) (fun k=>k<=l.length/\jd5 q l=if jd5 q (l.drop k)<0 then -1 else jd5 q (l.drop k)+k) (fun k=>l.length - k) 0 ⟨Ak _,by have:=p8 q l;simp only[Et];split<;>omega⟩ fun k ⟨hk,hi⟩=>?_;dsimp only[Ac,Ad];have hlo:=p8 q (l.drop (k+1));rcases Ah k l.length with hk2|hk2
 ·have hone:=h k hk2
  (repeat' first|refine Ca 16 ?_;refine Ch (hc:=hone) ?_;try refine Cc ?_ ?_<;>intro hb|refine yyp ?_;try refine Cc ?_ ?_<;>intro hb|refine yy ?_|refine at_nil ?_;refine Ce Le ?_|refine Cb fun K hK=>?_|apply_assumption -exfalso -symm)
  ·(refine j0 (j7 ⟨?_,rfl⟩))
   rw[hi,g9 _ _ _ hk2,Ae hb];simp[oneOf]
  ·refine⟨k+1,⟨by omega,?_⟩,by omega,v6⟩;rw[hi,g9 _ _ _ hk2,Af (show ¬q l[k]=true by rw[hb];exact Ef)];split<;>split<;>(try split)<;>omega
 ·(repeat' first|refine yyp ?_;try refine Cc ?_ ?_<;>intro hb|refine yy ?_|refine at_nil ?_;refine Ce Le ?_|refine Cb fun K hK=>?_|apply_assumption -exfalso -symm)
  (refine j0 (j7 ⟨?_,rfl⟩))
  have:k=l.length:=by omega
  rw[hi,this,Eu];simp[oneOf,jd5]
theorem rj0 (gl:List (Nat × List D))(q:ByteArray->Bool)(l:List ByteArray)(h:∀ (k:Nat) (hk:k<l.length),FnE prog gl 212 [.d (.str (l[k])),.ptr 5 0] [(5,.box [.clo (.func 140) [] []])] (fun v H1=>v=.d (.bool (q l[k]))/\H1=[(5,.box [.clo (.func 140) [] []])])):
 FnE prog gl 211 [.d (.list 1 (l.map (fun x=>.str (x)))),.clo (.func 212) [] [.ptr 5 0]] [(5,.box [.clo (.func 140) [] []])] (fun v H1=>v=.d (.bool (l.any q))/\H1=[(5,.box [.clo (.func 140) [] []])]):=by
 have hix:=ri9 gl q l h;have hany:=je1 q l
 (refine j4 func211 ntmps211 results211 fun w M E b0=>?_)
 (repeat' first|refine Ca 7 ?_;refine Ch (hc:=hix) ?_|refine yyp ?_;try refine Cc ?_ ?_<;>intro hb|refine yy ?_|refine yy2 ?_ ?_<;>intro hcmp|refine at_nil ?_;refine Ce Tp ?_|refine Cb fun K hK=>?_|apply_assumption -exfalso -symm)
 all_goals (refine j0 (j7 ⟨?_,rfl⟩))
 all_goals simp only[oneOf,Ax,An]
 all_goals first
  |exact(hany.1 (by omega)).symm
  |(symm;cases ha:l.any q with
   |false=>rfl
   |true=>exfalso;have:=hany.2 ha;omega)
theorem qn3 (gl:List (Nat × List D))(p:ByteArray->Bool)(l:List ByteArray)(a b:Int)(h:∀ x∈l,FnE prog gl 140 [.d (.str (x))] [] (fun v H1=>v=.d (.bool (p x))/\H1=[])):
 FnE prog gl 189 [.d (.list 1 (l.map (fun x=>.str (x)))),.d (.agg [.int .i64 a,.int .i64 b]),.clo (.func 140) [] []] [] (fun v H1=>v=.d (.bool (Lx.Da l a b p))/\H1=[]):=by
 have hcf:=rj0 gl (fun x=>!p x) l fun k hk=>ri8 gl l[k] (p l[k]) (h _ (Ar _));rw[jn6]at hcf
 (refine j4 func189 ntmps189 results189 fun w M E b0=>?_)
 (repeat' first|refine Ca 4 ?_;(refine j6 4 ?_)|refine Ca 5 ?_;(refine j6 5 ?_)|refine Ca 14 ?_;refine Ch (hc:=hcf) ?_;try refine Cc ?_ ?_<;>intro hb|refine yyp ?_;try refine Cc ?_ ?_<;>intro hb|refine yy ?_|refine Cf 137 ?_;refine Cg (hc:=(ke4 gl a b l.length)) ?_;try refine Cc ?_ ?_<;>intro hb|refine at_nil ?_;refine Ce Ve ?_|refine Cb fun K hK=>?_|apply_assumption -exfalso -symm)
 all_goals (refine j0 (j7 ⟨?_,rfl⟩))
 all_goals simp only[oneOf,Lx.Da, *,Bc,Av,Bool.not_not,Bool.not_true,Bool.not_false]
 all_goals (try (simp_all;done))
theorem rj1 (gl:List (Nat × List D))(x:Int)(b:Bool)(h:FnE prog gl 146 [.d (.int .i64 (x))] [] (fun v H1=>v=.d (.bool b)/\H1=[])):
 FnE prog gl 183 [.d (.int .i64 (x)),.ptr 5 0] [(5,.box [.clo (.func 146) [] []])] (fun v H1=>v=.d (.bool (!b))/\H1=[(5,.box [.clo (.func 146) [] []])]):=by
 (refine j4 func183 ntmps183 results183 fun w M E b0=>?_)
 (repeat' first|refine Ca 6 ?_;refine Ch (hc:=h) ?_;try refine Cc ?_ ?_<;>intro hb|refine yyp ?_;try refine Cc ?_ ?_<;>intro hb|refine yy ?_|refine at_nil ?_;refine Ce [0,1,3,4,5,6] ?_|refine Cb fun K hK=>?_|apply_assumption -exfalso -symm)
 all_goals (refine j0 (j7 ⟨?_,rfl⟩))
 all_goals simp only[oneOf, *,Bool.not_true,Bool.not_false]
theorem rj2 (gl:List (Nat × List D))(q:Int->Bool)(l:List Int)(h:∀ (k:Nat) (hk:k<l.length),FnE prog gl 183 [.d (.int .i64 (l[k])),.ptr 5 0] [(5,.box [.clo (.func 146) [] []])] (fun v H1=>v=.d (.bool (q l[k]))/\H1=[(5,.box [.clo (.func 146) [] []])])):
 FnE prog gl 204 [.d (.list 1 (l.map (fun x=>.int .i64 (x)))),.clo (.func 183) [] [.ptr 5 0]] [(5,.box [.clo (.func 146) [] []])] (fun v H1=>v=.d (.int .i64 (jd5 q l))/\H1=[(5,.box [.clo (.func 146) [] []])]):=by
 (refine j4 func204 ntmps204 results204 fun w M E b0=>?_)
 refine r7 0 rfl fun hn=>?_;simp only[Aa]at hn
 (repeat' first|refine yyp ?_;try refine Cc ?_ ?_<;>intro hb|refine yy ?_|refine at_nil ?_;refine Ce Le ?_|refine Cb fun K hK=>?_|apply_assumption -exfalso -symm)
 refine j8 me1 [] (fun k:Nat=>[(8,.d (.int .i64 k))]) (fun _=>[]) (fun k=>k<=l.length/\jd5 q l=if jd5 q (l.drop k)<0 then -1 else jd5 q (l.drop k)+k) (fun k=>l.length - k) 0 ⟨Ak _,by have:=p8 q l;simp only[Et];split<;>omega⟩ fun k ⟨hk,hi⟩=>?_;dsimp only[Ac,Ad];have hlo:=p8 q (l.drop (k+1));rcases Ah k l.length with hk2|hk2
 ·have hone:=h k hk2
  (repeat' first|refine Ca 16 ?_;refine Ch (hc:=hone) ?_;try refine Cc ?_ ?_<;>intro hb|refine yyp ?_;try refine Cc ?_ ?_<;>intro hb|refine yy ?_|refine at_nil ?_;refine Ce Le ?_|refine Cb fun K hK=>?_|apply_assumption -exfalso -symm)
  ·(refine j0 (j7 ⟨?_,rfl⟩))
   rw[hi,g9 _ _ _ hk2,Ae hb];simp[oneOf]
  ·refine⟨k+1,⟨by omega,?_⟩,by omega,v6⟩;rw[hi,g9 _ _ _ hk2,Af (show ¬q l[k]=true by rw[hb];exact Ef)];split<;>split<;>(try split)<;>omega
 ·(repeat' first|refine yyp ?_;try refine Cc ?_ ?_<;>intro hb|refine yy ?_|refine at_nil ?_;refine Ce Le ?_|refine Cb fun K hK=>?_|apply_assumption -exfalso -symm)
  (refine j0 (j7 ⟨?_,rfl⟩))
  have:k=l.length:=by omega
  rw[hi,this,Eu];simp[oneOf,jd5]
theorem rj3 (gl:List (Nat × List D))(q:Int->Bool)(l:List Int)(h:∀ (k:Nat) (hk:k<l.length),FnE prog gl 183 [.d (.int .i64 (l[k])),.ptr 5 0] [(5,.box [.clo (.func 146) [] []])] (fun v H1=>v=.d (.bool (q l[k]))/\H1=[(5,.box [.clo (.func 146) [] []])])):
 FnE prog gl 182 [.d (.list 1 (l.map (fun x=>.int .i64 (x)))),.clo (.func 183) [] [.ptr 5 0]] [(5,.box [.clo (.func 146) [] []])] (fun v H1=>v=.d (.bool (l.any q))/\H1=[(5,.box [.clo (.func 146) [] []])]):=by
 have hix:=rj2 gl q l h;have hany:=je1 q l
 (refine j4 func182 ntmps182 results182 fun w M E b0=>?_)
 (repeat' first|refine Ca 7 ?_;refine Ch (hc:=hix) ?_|refine yyp ?_;try refine Cc ?_ ?_<;>intro hb|refine yy ?_|refine yy2 ?_ ?_<;>intro hcmp|refine at_nil ?_;refine Ce Tp ?_|refine Cb fun K hK=>?_|apply_assumption -exfalso -symm)
 all_goals (refine j0 (j7 ⟨?_,rfl⟩))
 all_goals simp only[oneOf,Ax,An]
 all_goals first
  |exact(hany.1 (by omega)).symm
  |(symm;cases ha:l.any q with
   |false=>rfl
   |true=>exfalso;have:=hany.2 ha;omega)
theorem qn4 (gl:List (Nat × List D))(p:Int->Bool)(l:List Int)(a b:Int)(h:∀ x∈l,FnE prog gl 146 [.d (.int .i64 (x))] [] (fun v H1=>v=.d (.bool (p x))/\H1=[])):
 FnE prog gl 145 [.d (.list 1 (l.map (fun x=>.int .i64 (x)))),.d (.agg [.int .i64 a,.int .i64 b]),.clo (.func 146) [] []] [] (fun v H1=>v=.d (.bool (Lx.Da l a b p))/\H1=[]):=by
 have hcf:=rj3 gl (fun x=>!p x) l fun k hk=>rj1 gl l[k] (p l[k]) (h _ (Ar _));rw[jn6]at hcf
 (refine j4 func145 ntmps145 results145 fun w M E b0=>?_)
 (repeat' first|refine Ca 4 ?_;(refine j6 4 ?_)|refine Ca 5 ?_;(refine j6 5 ?_)|refine Ca 14 ?_;refine Ch (hc:=hcf) ?_;try refine Cc ?_ ?_<;>intro hb|refine yyp ?_;try refine Cc ?_ ?_<;>intro hb|refine yy ?_|refine Cf 137 ?_;refine Cg (hc:=(ke4 gl a b l.length)) ?_;try refine Cc ?_ ?_<;>intro hb|refine at_nil ?_;refine Ce Ve ?_|refine Cb fun K hK=>?_|apply_assumption -exfalso -symm)
 all_goals (refine j0 (j7 ⟨?_,rfl⟩))
 all_goals simp only[oneOf,Lx.Da, *,Bc,Av,Bool.not_not,Bool.not_true,Bool.not_false]
 all_goals (try (simp_all;done))
theorem ro0 (gl:List (Nat × List D))(q:Int->Bool)(l:List Int)(h:∀ (k:Nat) (hk:k<l.length),FnE prog gl 221 [.d (.int .u8 (l[k]))] [] (fun v H1=>v=.d (.bool (q l[k]))/\H1=[])):
 FnE prog gl 231 [.d (.list 1 (l.map (fun x=>.int .u8 (x)))),.clo (.func 221) [] []] [] (fun v H1=>v=.d (.int .i64 (jd5 q l))/\H1=[]):=by
 (refine j4 func231 ntmps231 results231 fun w M E b0=>?_)
 refine r7 0 rfl fun hn=>?_;simp only[Aa]at hn
 (repeat' first|refine yyp ?_;try refine Cc ?_ ?_<;>intro hb|refine yy ?_|refine at_nil ?_;refine Ce Le ?_|refine Cb fun K hK=>?_|apply_assumption -exfalso -symm)
 refine j8 me1 [] (fun k:Nat=>[(8,.d (.int .i64 k))]) (fun _=>[]) (fun k=>k<=l.length/\jd5 q l=if jd5 q (l.drop k)<0 then -1 else jd5 q (l.drop k)+k) (fun k=>l.length - k) 0 ⟨Ak _,by have:=p8 q l;simp only[Et];split<;>omega⟩ fun k ⟨hk,hi⟩=>?_;dsimp only[Ac,Ad];have hlo:=p8 q (l.drop (k+1));rcases Ah k l.length with hk2|hk2
 ·have hone:=h k hk2
  (repeat' first|refine Ca 16 ?_;refine Ch (hc:=hone) ?_;try refine Cc ?_ ?_<;>intro hb|refine yyp ?_;try refine Cc ?_ ?_<;>intro hb|refine yy ?_|refine at_nil ?_;refine Ce Le ?_|refine Cb fun K hK=>?_|apply_assumption -exfalso -symm)
  ·(refine j0 (j7 ⟨?_,rfl⟩))
   rw[hi,g9 _ _ _ hk2,Ae hb];simp[oneOf]
  ·refine⟨k+1,⟨by omega,?_⟩,by omega,v6⟩;rw[hi,g9 _ _ _ hk2,Af (show ¬q l[k]=true by rw[hb];exact Ef)];split<;>split<;>(try split)<;>omega
 ·(repeat' first|refine yyp ?_;try refine Cc ?_ ?_<;>intro hb|refine yy ?_|refine at_nil ?_;refine Ce Le ?_|refine Cb fun K hK=>?_|apply_assumption -exfalso -symm)
  (refine j0 (j7 ⟨?_,rfl⟩))
  have:k=l.length:=by omega
  rw[hi,this,Eu];simp[oneOf,jd5]
theorem ro1 (gl:List (Nat × List D))(q:Int->Bool)(l:List Int)(h:∀ (k:Nat) (hk:k<l.length),FnE prog gl 221 [.d (.int .u8 (l[k]))] [] (fun v H1=>v=.d (.bool (q l[k]))/\H1=[])):
 FnE prog gl 220 [.d (.list 1 (l.map (fun x=>.int .u8 (x)))),.clo (.func 221) [] []] [] (fun v H1=>v=.d (.bool (l.any q))/\H1=[]):=by
 have hix:=ro0 gl q l h;have hany:=je1 q l
 (refine j4 func220 ntmps220 results220 fun w M E b0=>?_)
 (repeat' first|refine Ca 7 ?_;refine Ch (hc:=hix) ?_|refine yyp ?_;try refine Cc ?_ ?_<;>intro hb|refine yy ?_|refine yy2 ?_ ?_<;>intro hcmp|refine at_nil ?_;refine Ce Tp ?_|refine Cb fun K hK=>?_|apply_assumption -exfalso -symm)
 all_goals (refine j0 (j7 ⟨?_,rfl⟩))
 all_goals simp only[oneOf,Ax,An]
 all_goals first
  |exact(hany.1 (by omega)).symm
  |(symm;cases ha:l.any q with
   |false=>rfl
   |true=>exfalso;have:=hany.2 ha;omega)
theorem ro2 (gl:List (Nat × List D))(tag:ByteArray)(items:List D)(q:Va->Bool)(l:List Va)(h:∀ (k:Nat) (hk:k<l.length),FnE prog gl 208 [.d (dVa (l[k])),.ptr 4 0] [(4,.box [.d (.str tag),.d (.list 1 items)])] (fun v H1=>v=.d (.bool (q l[k]))/\H1=[(4,.box [.d (.str tag),.d (.list 1 items)])])):
 FnE prog gl 222 [.d (.list 2 (l.map (fun x=>dVa (x)))),.clo (.func 208) [] [.ptr 4 0]] [(4,.box [.d (.str tag),.d (.list 1 items)])] (fun v H1=>v=.d (.int .i64 (jd5 q l))/\H1=[(4,.box [.d (.str tag),.d (.list 1 items)])]):=by
 (refine j4 func222 ntmps222 results222 fun w M E b0=>?_)
 refine r7 0 rfl fun hn=>?_;simp only[Aa]at hn
 (repeat' first|refine yyp ?_;try refine Cc ?_ ?_<;>intro hb|refine yy ?_|refine at_nil ?_;refine Ce Le ?_|refine Cb fun K hK=>?_|apply_assumption -exfalso -symm)
 refine j8 me1 [] (fun k:Nat=>[(8,.d (.int .i64 k))]) (fun _=>[]) (fun k=>k<=l.length/\jd5 q l=if jd5 q (l.drop k)<0 then -1 else jd5 q (l.drop k)+k) (fun k=>l.length - k) 0 ⟨Ak _,by have:=p8 q l;simp only[Et];split<;>omega⟩ fun k ⟨hk,hi⟩=>?_;dsimp only[Ac,Ad];have hlo:=p8 q (l.drop (k+1));rcases Ah k l.length with hk2|hk2
 ·have hone:=h k hk2
  (repeat' first|refine Ca 16 ?_;refine Ch (hc:=hone) ?_;try refine Cc ?_ ?_<;>intro hb|refine yyp ?_;try refine Cc ?_ ?_<;>intro hb|refine yy ?_|refine at_nil ?_;refine Ce Le ?_|refine Cb fun K hK=>?_|apply_assumption -exfalso -symm)
  ·(refine j0 (j7 ⟨?_,rfl⟩))
   rw[hi,g9 _ _ _ hk2,Ae hb];simp[oneOf]
  ·refine⟨k+1,⟨by omega,?_⟩,by omega,v6⟩;rw[hi,g9 _ _ _ hk2,Af (show ¬q l[k]=true by rw[hb];exact Ef)];split<;>split<;>(try split)<;>omega
 ·(repeat' first|refine yyp ?_;try refine Cc ?_ ?_<;>intro hb|refine yy ?_|refine at_nil ?_;refine Ce Le ?_|refine Cb fun K hK=>?_|apply_assumption -exfalso -symm)
  (refine j0 (j7 ⟨?_,rfl⟩))
  have:k=l.length:=by omega
  rw[hi,this,Eu];simp[oneOf,jd5]
theorem ro3 (gl:List (Nat × List D))(tag:ByteArray)(items:List D)(q:Va->Bool)(l:List Va)(h:∀ (k:Nat) (hk:k<l.length),FnE prog gl 208 [.d (dVa (l[k])),.ptr 4 0] [(4,.box [.d (.str tag),.d (.list 1 items)])] (fun v H1=>v=.d (.bool (q l[k]))/\H1=[(4,.box [.d (.str tag),.d (.list 1 items)])])):
 FnE prog gl 207 [.d (.list 2 (l.map (fun x=>dVa (x)))),.clo (.func 208) [] [.ptr 4 0]] [(4,.box [.d (.str tag),.d (.list 1 items)])] (fun v H1=>v=.d (.bool (l.any q))/\H1=[(4,.box [.d (.str tag),.d (.list 1 items)])]):=by
 have hix:=ro2 gl tag items q l h;have hany:=je1 q l
 (refine j4 func207 ntmps207 results207 fun w M E b0=>?_)
 (repeat' first|refine Ca 7 ?_;refine Ch (hc:=hix) ?_|refine yyp ?_;try refine Cc ?_ ?_<;>intro hb|refine yy ?_|refine yy2 ?_ ?_<;>intro hcmp|refine at_nil ?_;refine Ce Tp ?_|refine Cb fun K hK=>?_|apply_assumption -exfalso -symm)
 all_goals (refine j0 (j7 ⟨?_,rfl⟩))
 all_goals simp only[oneOf,Ax,An]
 all_goals first
  |exact(hany.1 (by omega)).symm
  |(symm;cases ha:l.any q with
   |false=>rfl
   |true=>exfalso;have:=hany.2 ha;omega)
end
end Go.Proofs.YtdopmfifmgkmoaaGreatDoor
