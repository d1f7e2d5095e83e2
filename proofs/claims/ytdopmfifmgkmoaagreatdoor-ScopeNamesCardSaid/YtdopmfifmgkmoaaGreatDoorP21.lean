/- Parts: S1, S2, S3. -/
import Derived.Test.YtdopmfifmgkmoaaGreatDoorP18
import Derived.Test.YtdopmfifmgkmoaaGreatDoorP16
set_option linter.all false
set_option maxRecDepth 100000
set_option maxHeartbeats 16000000
namespace Go.Proofs.YtdopmfifmgkmoaaGreatDoor
open Go.RowKit Go.Proofs.Tryz
section
namespace Sc
structure Ent where
 fresh:ByteArray
 proto:Bool
 tags:List ByteArray
inductive Kind where
 |free
 |check (names:List ByteArray)
 |none
structure W where
 env:ByteArray->List Ent
 tk:List (ByteArray × Int)
 count:Int
 ev:List (ByteArray × Bool)
open Classical in
noncomputable def isB (y x:ByteArray):Bool:=decide (x=y)
theorem isB_iff {x y:ByteArray}:isB y x=true↔x=y:=by simp[isB]
def freeEv:List (ByteArray × Bool)->List ByteArray
 |[]=>[]
 |x::l=>if x.2 then freeEv l else x.1::freeEv l
theorem freeEv_append:∀ l m:List (ByteArray × Bool),freeEv (l++m)=freeEv l++freeEv m
 |[],m=>rfl
 |x::l,m=>by simp only[List.cons_append,freeEv,freeEv_append l m];split<;>rfl
theorem freeEv_len:∀ l:List (ByteArray × Bool),(freeEv l).length<=l.length
 |[]=>Nat.le_refl _
 |x::l=>by have:=freeEv_len l;simp only[freeEv,List.length_cons];split<;>(try simp only[List.length_cons])<;>omega
noncomputable def firstEv (ns:List ByteArray):List (ByteArray × Bool)->ByteArray × Int
 |[]=>(ByteArray.empty,0)
 |x::l=>if x.2 then (x.1,121) else if ns.any (isB x.1) then firstEv ns l else (x.1,120)
theorem firstEv_append (ns:List ByteArray)(x:ByteArray × Bool):∀ l:List (ByteArray × Bool),firstEv ns (l++[x])=if (firstEv ns l).2=0 then (if x.2 then (x.1,121) else if ns.any (isB x.1) then firstEv ns l else (x.1,120)) else firstEv ns l
 |[]=>by simp[firstEv]
 |y::l=>by
  simp only[List.cons_append,firstEv,firstEv_append ns x l]
  split
  ·simp
  ·split
   ·rfl
   ·simp
def tkK (l:List (ByteArray × Int)):List D:=l.map fun x=>.str x.1
def tkV (l:List (ByteArray × Int)):List D:=l.map fun x=>.int .i64 x.2
end Sc
def dEnt (x:Sc.Ent):D:=.agg [.str x.fresh,.bool x.proto,.list 1 (x.tags.map .str)]
abbrev dEnv (f:ByteArray->List Sc.Ent)(s:ByteArray):List D:=(f s).map dEnt
def ja2:Sc.Kind->V
 |.free=>.clo (.func 32) [] [.ptr 903 0]
 |.check _=>.clo (.func 38) [] [.ptr 905 0,.ptr 904 0,.ptr 903 0]
 |.none=>.clo (.func 42) [] []
noncomputable def l9 (k:Sc.Kind)(σ:Sc.W):List (Nat × Ob):=match k with
 |.free=>[(903,.hbox 9 1 ((Sc.freeEv σ.ev).map .str) 0 [.nils 0])]
 |.check ns=>[(903,.box [.d (.list 1 (ns.map .str))]),(904,.box [.d (.str (Sc.firstEv ns σ.ev).1)]),(905,.box [.d (.int .i64 (Sc.firstEv ns σ.ev).2)])]
 |.none=>[]
noncomputable def HW (k:Sc.Kind)(σ:Sc.W):List (Nat × Ob):=(900,.box [.map 901,.map 902,.d (.int .i64 σ.count),ja2 k])::(901,.smap 120 3 (dEnv σ.env) none)::(902,.map (Sc.tkK σ.tk) (Sc.tkV σ.tk))::l9 k σ
theorem qr7 {α:Type}(l:List α)(d:α)(i:Nat)(hi:i<l.length)(e:i+1=l.length):l.getLast?.getD d=l[i]:=by
 rw[List.getLast?_eq_getElem?,show l.length - 1=i by omega,List.getElem?_eq_getElem hi]
 rfl
attribute [local irreducible] TR TC
theorem ma1 (gl:List (Nat × List D))(k:Sc.Kind)(σ:Sc.W)(s:ByteArray):FnE prog gl 94 [.ptr 900 0,.d (.str s)] (HW k σ)
 (fun v H1=>v=.tup [.d (dEnt ((σ.env s).getLast?.getD ⟨ByteArray.empty,false,[]⟩)),.d (.bool (!(σ.env s).isEmpty))]/\H1=HW k σ):=by
 obtain⟨env,tk,c,ev⟩:=σ
 cases k
 all_goals dsimp only[HW,ja2,l9]
 all_goals (refine j3 func94 ntmps94 results94 fun w M E b0=>?_)
 all_goals (repeat' first|refine tr_at 4 ?_;(refine j1 4 ?_)|refine tr_at 12 ?_;(refine je9 950 ?_;refine jd3 950 rfl fun hsm=>?_;simp only[List.length_map]at hsm)|refine tr_at 16 ?_;refine z_p w_buildn ?_|refine yyp ?_;try refine s_bu ?_ ?_<;>intro hb|refine yy ?_|refine yy2 ?_ ?_<;>intro hcmp|refine at_nil ?_;refine z_nil [0,1,4,5,6,7,15,120] ?_|refine tc_seq fun K hK=>?_|apply_assumption -exfalso -symm)
 all_goals (refine ka0 (qr2 (n:=901) (q:=950)) ?_)
 all_goals (refine j0 (j7 ⟨?_,rfl⟩))
 all_goals first
  |(have h0:env s=[]:=List.eq_nil_of_length_eq_zero (by omega)
    rw[h0]
    rfl)
  |(have hne:env s≠[]:=fun e=>hcmp (by rw[e];rfl)
    have hpos:0<(env s).length:=List.length_pos_iff.2 hne
    rw[qr7 (env s) ⟨ByteArray.empty,false,[]⟩ ((env s).length - 1:Int).toNat (by omega) (by omega)]
    have he:(env s).isEmpty=false:=by simpa using hne
    rw[he]
    rfl)
end
section
open Sc (isB isB_iff)
def Sc.step (σ:Sc.W)(s:ByteArray)(tw:Bool):Sc.W:={σ with ev:=σ.ev++[(s,tw)]}
attribute [local irreducible] TR TC
theorem kp3 (gl:List (Nat × List D))(σ:Sc.W)(s:ByteArray)(tw:Bool)(hl:σ.ev.length<=1000000000):FnE prog gl 32 [.d (.str s),.d (.bool tw),.ptr 903 0] (l9 .free σ)
 (fun v H1=>v=.tup []/\H1=l9 .free (Sc.step σ s tw)):=by
 have hlf:=Sc.freeEv_len σ.ev
 dsimp only[l9,Sc.step]
 (refine j3 func32 ntmps32 results32 fun w M E b0=>?_)
 refine qf8 ?_
 refine ka0 (kc8 (n:=903) (q:=950) rfl rfl) ?_
 (repeat' first|refine tr_at 9 ?_;(refine z_lit 9 ?_)|refine yyp ?_;try refine s_bu ?_ ?_<;>intro hb|refine yy ?_|(refine at_append ?_;first|(refine z_append (fun kv=>?_))|(refine z_append_suf (fun sx sp kv hsx hsp hsl=>?_)))|refine at_nil ?_;refine z_nil [0,1,2,5,6,7] ?_|refine tc_seq fun K hK=>?_|apply_assumption -exfalso -symm)
 all_goals refine re0 (kk5 (n:=903) (q:=950) (i:=0) rfl rfl rfl rfl (by(repeat (first|exact Drop.nil|apply Drop.drop rfl|apply Drop.take rfl));fail_if_success intros) rfl) ?_
 all_goals simp only[Sc.freeEv_append,Sc.freeEv,List.append_nil,hb,if_true,if_false,Bool.false_eq_true,List.map_append,List.map_cons,List.map_nil,List.set_cons_zero]
 all_goals exact je5 ⟨rfl,rfl⟩
theorem jw3 (gl:List (Nat × List D))(s:ByteArray)(tw:Bool):FnE prog gl 42 [.d (.str s),.d (.bool tw)] [] (fun v H1=>v=.tup []/\H1=[]):=by
 (refine j3 func42 ntmps42 results42 fun w M E b0=>?_)
 (repeat' first|refine yy ?_|refine tc_seq fun K hK=>?_|apply_assumption -exfalso -symm)
 exact je5 ⟨rfl,rfl⟩
end
section
open Sc (isB isB_iff)
def jd6 {α:Type}(p:α->Bool):List α->Int
 |[]=>-1
 |x::l=>if p x then 0 else if jd6 p l<0 then -1 else jd6 p l+1
theorem n8 {α:Type}(p:α->Bool):∀ l:List α,-1<=jd6 p l
 |[]=>by simp[jd6]
 |x::l=>by
  have:=n8 p l
  simp only[jd6]
  split
  ·omega
  ·split<;>omega
theorem z8 {α:Type}(p:α->Bool)(l:List α)(k:Nat)(hk:k<l.length):jd6 p (l.drop k)=if p l[k] then 0 else if jd6 p (l.drop (k+1))<0 then -1 else jd6 p (l.drop (k+1))+1:=by
 rw[List.drop_eq_getElem_cons hk]
 rfl
theorem je0 {α:Type}(p:α->Bool):∀ l:List α,0<=jd6 p l↔l.any p=true
 |[]=>by simp[jd6]
 |x::l=>by
  have h1:=je0 p l
  have h2:=n8 p l
  simp only[jd6,List.any_cons,Bool.or_eq_true,<-h1]
  cases p x
  ·simp only[Bool.false_eq_true,if_false,false_or]
   split<;>omega
  ·simp
attribute [local irreducible] TR TC
theorem kv6 (gl:List (Nat × List D))(l:List ByteArray)(y:ByteArray):FnD prog gl 71 [.d (.list 1 (l.map .str)),.d (.str y)] (fun v=>v=.d (.int .i64 (jd6 (isB y) l))):=by
 (refine j4 func71 ntmps71 results71 fun w M=>?_)
 refine r7 0 rfl fun hn=>?_
 simp only[List.length_map]at hn
 (repeat' first|refine yyp ?_;try refine s_bu ?_ ?_<;>intro hb|refine yy ?_|refine at_nil ?_;refine z_nil [0,1,4,5,6,7,8,9,16] ?_|refine tc_seq fun K hK=>?_|apply_assumption -exfalso -symm)
 refine jg1 (fun k:Nat=>⟨[(8,.d (.int .i64 k)),(7,.d (.int .i64 l.length)),(0,.d (.list 1 (l.map .str))),(1,.d (.str y))],[],gl⟩)
  (fun k=>k<=l.length/\jd6 (isB y) l=if jd6 (isB y) (l.drop k)<0 then -1 else jd6 (isB y) (l.drop k)+k) (fun k=>l.length - k) 0 ⟨Nat.zero_le _,by have:=n8 (isB y) l;simp only[List.drop_zero];split<;>omega⟩ v7 fun k ⟨hk,hi⟩=>?_
 have hlo:=n8 (isB y) (l.drop (k+1))
 (repeat' first|refine yyp ?_;try refine s_bu ?_ ?_<;>intro hb|refine yy ?_|refine yy2 ?_ ?_<;>intro hcmp|refine at_nil ?_;refine z_nil [0,1,4,5,6,7,8,9,16] ?_|refine tc_seq fun K hK=>?_|apply_assumption -exfalso -symm)
 ·(refine j0 (j6 ?_))
  rw[hi,z8 _ _ _ (by omega),if_pos (isB_iff.2 hcmp.symm)]
  simp[oneOf]
 ·refine⟨k+1,⟨by omega,?_⟩,by omega,v7⟩
  have hne:¬isB y l[k]=true:=fun h=>hcmp (isB_iff.1 h).symm
  rw[hi,z8 _ _ _ (by omega),if_neg hne]
  split<;>split<;>(try split)<;>omega
 ·(refine j0 (j6 ?_))
  have:k=l.length:=by omega
  rw[hi,this,List.drop_length]
  simp[oneOf,jd6]
theorem g9 (gl:List (Nat × List D))(l:List ByteArray)(y:ByteArray):FnD prog gl 39 [.d (.list 1 (l.map .str)),.d (.str y)] (fun v=>v=.d (.bool (l.any (isB y)))):=by
 (refine j4 func39 ntmps39 results39 fun w M=>?_)
 (repeat' first|refine yyp ?_;try refine s_bu ?_ ?_<;>intro hb|refine yy ?_|refine yy2 ?_ ?_<;>intro hcmp|refine at_call 71 ?_;refine y_call (hc:=(kv6 gl l y)) ?_|refine at_nil ?_;refine z_nil [0,1,4,5,6,7] ?_|refine tc_seq fun K hK=>?_|apply_assumption -exfalso -symm)
 all_goals
  (refine j0 (j6 ?_))
  simp only[oneOf,V.d.injEq,D.bool.injEq]
  have h:=je0 (isB y) l
  cases ha:l.any (isB y) with
  |true=>first|rfl|(exfalso;have:=h.2 ha;omega)
  |false=>first|rfl|(exfalso;rw[ha]at h;have:=h.1 (by omega);cases this)
theorem kd3 (gl:List (Nat × List D))(ns:List ByteArray)(σ:Sc.W)(s:ByteArray)(tw:Bool):FnE prog gl 38 [.d (.str s),.d (.bool tw),.ptr 905 0,.ptr 904 0,.ptr 903 0] (l9 (.check ns) σ)
 (fun v H1=>v=.tup []/\H1=l9 (.check ns) (Sc.step σ s tw)):=by
 dsimp only[l9,Sc.step]
 rw[Sc.firstEv_append]
 generalize Sc.firstEv ns σ.ev=r
 obtain⟨rn,re⟩:=r
 dsimp only
 (refine j3 func38 ntmps38 results38 fun w M E b0=>?_)
 (repeat' first|refine yyp ?_;try refine s_bu ?_ ?_<;>intro hb|refine yy ?_|refine yy2 ?_ ?_<;>intro hcmp|refine at_call 39 ?_;refine y_call (hc:=(g9 gl ns s)) ?_;try refine s_bu ?_ ?_<;>intro hb|refine at_nil ?_;refine z_nil [0,1,2,3,4,7,10,13] ?_|refine tc_seq fun K hK=>?_|apply_assumption -exfalso -symm)
 all_goals try simp only[Decidable.not_not]at hcmp
 all_goals simp only[*,if_true,if_false,Bool.false_eq_true,Bool.true_eq_false,or_true,or_false,true_or,false_or,and_true,and_false,true_and,false_and]
 all_goals exact je5 ⟨rfl,rfl⟩
end
end Go.Proofs.YtdopmfifmgkmoaaGreatDoor
