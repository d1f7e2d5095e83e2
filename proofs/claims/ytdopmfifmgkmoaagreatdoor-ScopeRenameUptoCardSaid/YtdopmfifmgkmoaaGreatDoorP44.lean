/- Parts: R1, R2, R3, R4, R5. -/
import Derived.Test.YtdopmfifmgkmoaaGreatDoorP32
set_option linter.all false
set_option maxRecDepth 100000
set_option maxHeartbeats 16000000
namespace Go.Proofs.YtdopmfifmgkmoaaGreatDoor
open Go.RowKit Go.Proofs.Tryz
section
def Xi:List Nat:=[0,1,4,5,6,7,9,17]
section
variable {E:Set}{S:Sd}{dst:Option Tmp}{ty:TypeId}{pos:String}{af:Array Edge}{gd:Option (Nat × Bool)}
theorem mt3 {st dt e n k e':TypeId}{x:Operand}{l:List UInt8}{xs:List D}[hs:TSlice E.P st e 1][hb:TInt E.P e .u8][hd:TStr E.P dt](hx:S.ev x=some (.own n k))(hox:Cw x=true)(hr:look n S.H=some (.row e' 1 true xs k))(hl:xs=l.map qk2):
 Quiet E S ⟨dst,.convert st dt x,ty,pos,af,gd⟩ (.d (.str ⟨l.toArray⟩)):=Quiet.mk fun β a w h=>by
 subst hl;obtain⟨_,hsl,_⟩:=ja6 hs;obtain⟨ad,c,ys,h1,h2,h3,h4,h5,h6⟩:=(ToD.own hr).rep h (h.ev hx hox);have h7:=Gl.bytes h5;subst h7;refine⟨.string ⟨l.toArray⟩,fun w' g=>?_,rfl⟩;rw[Aa]at h1;cases l with
 |nil=>
  cases ad with
  |none=>
   have:=run_convert_bytes_nil (P:=E.P) w' st e hsl (ji0 hb) 0 c dt (ji1 hd);simp only[execOp,h1,Aq,Sem.run_bind,this];rfl
  |some p=>
   have:=run_convert_bytes_string (P:=E.P) w' st dt e (some p) 0 c hsl (ji0 hb) (ji1 hd);simp only[execOp,h1,Aq,Sem.run_bind,this];simp[Conv.bytesToString,loadCells,loadCellsFrom];rfl
 |cons b l=>
  obtain⟨q,o,e1,_,_⟩:=h6 0 _ rfl;subst e1;have:=run_convert_bytes_arg (P:=E.P) w' st e hsl (ji0 hb) q o (b::l).length c ((b::l).map fun b=>(b.toNat:Int)) (by simp) (fun i hi=>by
   have:=jt5 h6 g (j:=i) (v:=.int .u8 (((b::l)[i]).toNat:Int)) (by rw[Bx,Be hi];rfl);rw[this,List.getD_eq_getElem?_getD,Bx,Be hi];rfl) dt (ji1 hd)
  have e2:strOfNums ((b::l).map fun b=>(b.toNat:Int))=⟨(b::l).toArray⟩:=by
   unfold strOfNums;rw[List.map_map];congr 2
   conv=>rhs;rw[<-List.map_id (b::l)]
   apply List.map_congr_left;intro u _;simp
  rw[e2]at this;simp only[execOp,h1,Sem.run_bind,this];rfl
end
section
variable {E:Set}{Q:Exit->Sd->Prop}{ops:Array Oper}{draw:Bool}{rest:Todo}{way:Kt}{ty:TypeId}{pos:String}{af:Array Edge}{gd:Option (Nat × Bool)}
variable {env:List (Nat × V)}{H:List (Nat × Ob)}{gl:List (Nat × List D)}{d:Nat}
theorem ko9 {st dt e n k e':TypeId}{x:Operand}(l:List UInt8){xs:List D}[hs:TSlice E.P st e 1][hb:TInt E.P e .u8][hd':TStr E.P dt](hl:xs=l.map qk2)(h:TR E draw ops Q rest ⟨(d,.d (.str ⟨l.toArray⟩))::env,H,gl⟩)(hx:Sd.ev ⟨env,H,gl⟩ x=some (.own n k):=by exact rfl)(hox:Cw x=true:=by exact rfl)(hr:look n H=some (.row e' 1 true xs k):=by exact rfl)
 (hd:d<E.C.nt:=by exact ltd rfl) (hg:Sd.gd ⟨env,H,gl⟩ ops ⟨some d,.convert st dt x,ty,pos,af,gd⟩=some true:=by exact rfl) (hw:way.known=false:=by exact rfl):TR E draw ops Q (.step ⟨some d,.convert st dt x,ty,pos,af,gd⟩ way rest) ⟨env,H,gl⟩:=
 jq6 (mt3 (S:=⟨env,H,gl⟩) hx hox hr hl) rfl hd hg rfl hw h
end
attribute [local irreducible] TR TC
theorem jr9 (gl:List (Nat × List D))(l:List ByteArray)(s:ByteArray):FnD prog gl 24 [.d (.list 1 (l.map .str)),.d (.str s)] (fun v=>v=.d (.bool (l.any (Sc.isB s)))):=by
 (refine j3 func24 ntmps24 results24 fun w M=>?_)
 refine r7 0 rfl fun hn=>?_;simp only[Aa]at hn
 (repeat' first|refine yyp ?_;try refine Cc ?_ ?_<;>intro hb|refine yy ?_|refine at_nil ?_;refine Ce Xi ?_|refine Cb fun K hK=>?_|apply_assumption -exfalso -symm)
 refine j8 [4,5,6,7,8,9,10,11,12,13,14,15,16,17] [] (fun k:Nat=>[(5,.d (.int .i64 k))]) (fun _=>[]) (fun k=>k<=l.length/\l.any (Sc.isB s)=(l.drop k).any (Sc.isB s)) (fun k=>l.length - k) 0 ⟨by omega,rfl⟩ fun k ⟨hk,hi⟩=>?_;dsimp only[Ac,Ad];rcases Ah k l.length with hk2|hk2
 ·rw[Bd hk2,List.any_cons]at hi
  (repeat' first|refine yyp ?_;try refine Cc ?_ ?_<;>intro hb|refine yy ?_|refine yy2 ?_ ?_<;>intro hcmp|refine at_nil ?_;refine Ce Xi ?_|refine Cb fun K hK=>?_|apply_assumption -exfalso -symm)
  ·(refine j0 (j5 ?_))
   rw[hi,Sc.Li.2 hcmp];rfl
  ·refine⟨k+1,⟨by omega,?_⟩,by omega,v6⟩;have:Sc.isB s l[k]=false:=by
    cases h:Sc.isB s l[k]with
    |false=>rfl
    |true=>exact absurd (Sc.Li.1 h) hcmp
   rw[hi,this];rfl
 ·(repeat' first|refine yyp ?_;try refine Cc ?_ ?_<;>intro hb|refine yy ?_|refine at_nil ?_;refine Ce Xi ?_|refine Cb fun K hK=>?_|apply_assumption -exfalso -symm)
  (refine j0 (j5 ?_))
  rw[hi,Br hk2];rfl
theorem kd0 (n:Nat):Sc.dec n=if n<10 then [UInt8.ofNat (48+n)] else Sc.dec (n / 10)++[UInt8.ofNat (48+n % 10)]:=by
 rw[Sc.dec];split<;>rfl
theorem mn5 (n:Nat):[D.int .u8 ((48+(n:Int) % 10))]=[UInt8.ofNat (48+n % 10)].map qk2:=by
 have:(UInt8.ofNat (48+n % 10)).toNat=48+n % 10:=by rw[UInt8.toNat_ofNat'];omega
 simp only[Am,Aw,qk2,this];congr 2
theorem re5 (a b:List UInt8):(⟨a.toArray⟩:ByteArray)++⟨b.toArray⟩=⟨(a++b).toArray⟩:=by
 have h:∀ s t:ByteArray,s.data.toList=t.data.toList->s=t:=fun s t h=>by
  cases s with|mk a=>cases t with|mk b=>cases a with|mk a=>cases b with|mk b=>exact congrArg (fun l=>ByteArray.mk (Array.mk l)) h
 apply h;simp[ByteArray.data_append]
theorem qh6 (gl:List (Nat × List D))(n:Nat)(hn:n<1000000000000000000):FnD prog gl 120 [.d (.int .i64 n)] (fun v=>v=.d (.str ⟨(Sc.dec n).toArray⟩)):=by
 (refine j3 func120 ntmps120 results120 fun w M=>?_)
 (repeat' first|refine Ca 8 ?_;(refine Dh 8 ?_)|refine Ca 9 ?_;(refine ko9 [UInt8.ofNat (48+n % 10)] (mn5 n) ?_)|refine yyp ?_;try refine Cc ?_ ?_<;>intro hb|refine yy ?_|refine at_nil ?_;refine Ce [0,2,3,4,5,6,13] ?_|refine Cb fun K hK=>?_|apply_assumption -exfalso -symm)
 refine j8 [0,3,12,13,14,15,16,17,18,19,20,21,22,23] [] (fun x:Nat × List UInt8=>[(0,.d (.int .i64 x.1)),(3,.d (.str ⟨x.2.toArray⟩))]) (fun _=>[]) (fun x=>(x.1=0->Sc.dec n=x.2)/\(0<x.1->Sc.dec n=Sc.dec x.1++x.2)/\x.2.length+x.1<=n+1) (fun x=>x.1) (n / 10,[UInt8.ofNat (48+n % 10)]) ⟨fun h=>?_,fun h=>?_,?_⟩ fun⟨m,s⟩ ⟨h1,h2,h3⟩=>?_
 ·rw[kd0,Ae (by dsimp only at h;omega),Nat.mod_eq_of_lt (by dsimp only at h;omega)]
 ·rw[kd0,Af (by dsimp only at h;omega)]
 ·simp only[Ai,Aq];omega
 dsimp only[Ac,Ad]at h1 h2 h3 ⊢;have hs1:(⟨[UInt8.ofNat (48+m % 10)].toArray⟩:ByteArray).size=1:=rfl;have hs2:(⟨s.toArray⟩:ByteArray).size=s.length:=by
  show s.toArray.size=_;simp
 rcases Nat.eq_zero_or_pos m with h0|h0
 ·(repeat' first|refine yyp ?_;try refine Cc ?_ ?_<;>intro hb|refine yy ?_|refine at_nil ?_;refine Ce [0,2,3,4,5,6,13] ?_|refine Cb fun K hK=>?_|apply_assumption -exfalso -symm)
  (refine j0 (j5 ?_))
  rw[h1 h0];rfl
 ·(repeat' first|refine Ca 20 ?_;(refine Dh 20 ?_)|refine Ca 21 ?_;(refine ko9 [UInt8.ofNat (48+m % 10)] (mn5 m) ?_)|refine yyp ?_;try refine Cc ?_ ?_<;>intro hb|refine yy ?_|refine at_nil ?_;refine Ce [0,2,3,4,5,6,13] ?_|refine Cb fun K hK=>?_|apply_assumption -exfalso -symm)
  refine⟨(m / 10,UInt8.ofNat (48+m % 10)::s),⟨fun h=>?_,fun h=>?_,?_⟩,by dsimp only;omega,?_⟩
  ·rw[h2 h0,kd0,Ae (by dsimp only at h;omega),Nat.mod_eq_of_lt (by dsimp only at h;omega)];rfl
  ·rw[h2 h0,kd0 m,Af (by dsimp only at h;omega),Bb];rfl
  ·simp only[Ai];omega
  rw[show(UInt8.ofNat (48+m % 10)::s)=[UInt8.ofNat (48+m % 10)]++s from rfl,<-re5];exact v6
end
section
def Xj:List Nat:=[0,1,4,5,6,7,11,20,138]
def Qd:List Nat:=[0,1,2,3,4,6,7,8,30,138]
variable {mm:Int}
def dEn (y:ByteArray × Sc.Ent):D:=.agg [.str y.1,.str y.2.fresh,.bool y.2.proto,.list 1 (y.2.tags.map .str)]
def Gh (l:List (ByteArray × Sc.Ent))(s:ByteArray):List Sc.Ent:=(l.filter fun y=>decide (y.1=s)).map (·.2)
theorem kj3 (l m:List (ByteArray × Sc.Ent))(s:ByteArray):Gh (l++m) s=Gh l s++Gh m s:=by simp[Gh]
theorem kp0 (l:List (ByteArray × Sc.Ent))(s:ByteArray)(h:∀ (j:Nat) (hj:j<l.length),l[j].1≠s):Gh l s=[]:=by
 unfold Gh;rw[List.filter_eq_nil_iff.2,Aw];intro y hy;obtain⟨j,hj,rfl⟩:=Er.1 hy;simpa using h j hj
theorem qs5 (l:List (ByteArray × Sc.Ent))(s:ByteArray)(i:Nat)(hi:i<l.length)(he:l[i].1=s)(h:∀ (j:Nat) (hj:j<l.length),i<j->l[j].1≠s):(Gh l s).getLast?=some l[i].2:=by
 have h1:l=l.take i++(l[i]::l.drop (i+1)):=by rw[<-Bd hi,Ev]
 have h2:Gh (l[i]::l.drop (i+1)) s=[l[i].2]:=by
  have h3:=kp0 (l.drop (i+1)) s fun j hj=>by
   rw[List.getElem_drop];exact h _ _ (by omega)
  rw[show l[i]::l.drop (i+1)=[l[i]]++l.drop (i+1) from rfl,kj3,h3];simp[Gh,he]
 have h4:Gh l s=Gh (l.take i) s++[l[i].2]:=by
  rw[<-h2,<-kj3,<-h1]
 rw[h4,List.getLast?_concat]
theorem jr0:∀ (ns:List ByteArray) (xs:List Sc.Ent) (l:List (ByteArray × Sc.Ent)),ns.length=xs.length->Sc.Cn (Gh l) ns xs=Gh (l++ns.zip xs)
 |[],[],l,_=>by simp[Sc.Cn]
 |[],_::_,_,h=>by cases h
 |_::_,[],_,h=>by cases h
 |s::ns,x::xs,l,h=>by
  rw[Sc.Cn,show l++(s::ns).zip (x::xs)=(l++[(s,x)])++ns.zip xs by simp,<-jr0 ns xs (l++[(s,x)]) (by simpa using h)];congr 1;funext t;rw[kj3];by_cases ht:t=s
  ·subst ht;simp[Gh]
  ·rw[Af ht];simp[Gh,Ne.symm ht]
attribute [local irreducible] TR TC
theorem mn6 (gl:List (Nat × List D))(l:List (ByteArray × Sc.Ent))(s:ByteArray):FnD prog gl 119 [.d (.list 4 (l.map dEn)),.d (.str s)]
 (fun v=>(∃ x,(Gh l s).getLast?=some x/\v=.tup [.d (dEn (s,x)),.d (.bool true)])\/(Gh l s).getLast?=none/\v=.tup [.d (dEn (ByteArray.empty,⟨ByteArray.empty,false,[]⟩)),.d (.bool false)]):=by
 (refine j3 func119 ntmps119 results119 fun w M=>?_)
 refine r7 0 rfl fun hn=>?_;simp only[Aa]at hn
 (repeat' first|refine Ca 4 ?_;(refine Cj 4 ?_)|refine yyp ?_;try refine Cc ?_ ?_<;>intro hb|refine yy ?_|refine at_nil ?_;refine Ce Xj ?_|refine Cb fun K hK=>?_|apply_assumption -exfalso -symm)
 refine j8 [5,6,10,11,12,13,14,15,16,17,18,19,20,21,22,23,24] [] (fun k:Nat=>[(6,.d (.int .i64 ((k:Int) - 1)))]) (fun _=>[]) (fun k=>k<=l.length/\∀ (j:Nat) (hj:j<l.length),k<=j->l[j].1≠s) (fun k=>k) l.length ⟨by omega,fun j hj h=>absurd hj (by omega)⟩ fun k ⟨hk,hi⟩=>?_;dsimp only[Ac,Ad];rcases Nat.eq_zero_or_pos k with h0|h0
 ·subst h0
  (repeat' first|refine Ca 25 ?_;refine z_p Cr ?_|refine yyp ?_;try refine Cc ?_ ?_<;>intro hb|refine yy ?_|refine at_nil ?_;refine Ce Xj ?_|refine Cb fun K hK=>?_|apply_assumption -exfalso -symm)
  (refine j0 (j5 ?_))
  refine .inr ⟨?_,rfl⟩;rw[kp0 l s fun j hj=>hi j hj (Ak _)];rfl
 ·obtain⟨k,rfl⟩:∃ m,k=m+1:=⟨k - 1,by omega⟩;rw[show((k+1:Nat):Int) - 1=k by omega]
  (repeat' first|refine yyp ?_;try refine Cc ?_ ?_<;>intro hb|refine yy ?_|refine yy2 ?_ ?_<;>intro hcmp|refine at_nil ?_;refine Ce Xj ?_|refine Cb fun K hK=>?_|apply_assumption -exfalso -symm)
  ·(refine j0 (j5 ?_))
   have:=qs5 l s k (by omega) hcmp fun j hj h=>hi j hj h;refine .inl ⟨_,this,?_⟩;have hz:∀ z:ByteArray × Sc.Ent,z.1=s->dEn (s,z.2)=dEn z:=fun z h=>by
    obtain⟨a,b⟩:=z;dsimp only at h;rw[h]
   rw[hz _ hcmp];rfl
  ·refine⟨k,⟨by omega,fun j hj h=>?_⟩,by omega,v6⟩;rcases Ah k j with h2|h2
   ·exact hi j hj h2
   ·obtain rfl:j=k:=by omega
    exact hcmp
theorem jl7 (gl:List (Nat × List D))(l:List (ByteArray × Sc.Ent))(s:ByteArray)(x:Sc.Ent)(h:(Gh l s).getLast?=some x):FnD prog gl 119 [.d (.list 4 (l.map dEn)),.d (.str s)] (fun v=>v=.tup [.d (dEn (s,x)),.d (.bool true)]):=
 (mn6 gl l s).mono fun v hv=>by
   rcases hv with ⟨y,h1,rfl⟩|⟨h1,_⟩
   ·rw[h]at h1;cases h1;rfl
   ·rw[h]at h1;cases h1
theorem jl8 (gl:List (Nat × List D))(l:List (ByteArray × Sc.Ent))(s:ByteArray)(h:(Gh l s).getLast?=none):FnD prog gl 119 [.d (.list 4 (l.map dEn)),.d (.str s)] (fun v=>v=.tup [.d (dEn (ByteArray.empty,⟨ByteArray.empty,false,[]⟩)),.d (.bool false)]):=
 (mn6 gl l s).mono fun v hv=>by
   rcases hv with ⟨y,h1,_⟩|⟨_,rfl⟩
   ·rw[h]at h1;cases h1
   ·rfl
theorem ma4 (gl:List (Nat × List D))(y:ByteArray × Sc.Ent)(t:Ty)(l:List (ByteArray × Sc.Ent))(h0:y.2.tags=[]):FnD prog gl 122 [.d (dEn y),.d (dTy t),.d (.list 4 (l.map dEn))]
 (fun v=>v=.d (dEn (y.1,{y.2 with tags:=Sc.Cz (Gh l) t}))):=by
 obtain⟨ys,⟨yf,yp,yt⟩⟩:=y;dsimp only at h0 ⊢;subst h0;unfold Sc.Cz;cases hx:(Gh l t.proto).getLast? with
 |none=>
  have hf:=jl8 gl l t.proto hx;simp only[ite_self]
  (refine j3 func122 ntmps122 results122 fun w M=>?_)
  (repeat' first|refine Ca 3 ?_;(refine j6 3 ?_)|refine Ca 4 ?_;(refine j6 4 ?_)|refine Ca 6 ?_;(refine Cj 6 ?_)|refine Ca 7 ?_;(refine Cj 7 ?_)|refine Ca 19 ?_;(first|refine yyp ?_;try refine Cc ?_ ?_<;>intro hb|refine yy2 ?_ ?_<;>intro hcmp);all_goals try refine Db false 19 30 Qd ?_|refine Ca 24 ?_;(first|refine yyp ?_;try refine Cc ?_ ?_<;>intro hb|refine yy2 ?_ ?_<;>intro hcmp);all_goals try refine Db false 24 30 Qd ?_|refine Ca 27 ?_;(first|refine yyp ?_;try refine Cc ?_ ?_<;>intro hb|refine yy2 ?_ ?_<;>intro hcmp);all_goals try refine Db false 27 30 Qd ?_|refine yyp ?_|refine yy ?_|refine yy2 ?_ ?_<;>intro hcmp|refine Cf 119 ?_;refine Cg (hc:=hf) ?_|refine at_nil ?_;refine Ce Qd ?_|refine Cb fun K hK=>?_|apply_assumption -exfalso -symm)
  all_goals (refine j0 (j5 ?_))
  all_goals rfl
 |some x=>
  have hf:=jl7 gl l t.proto x hx;obtain⟨xf,xp,xt⟩:=x;dsimp only;by_cases hk:t.kind=4/\t.proto≠ByteArray.empty
  ·rw[Ae hk];cases xp
   all_goals simp only[if_true,if_false,Ay]
   all_goals (refine j3 func122 ntmps122 results122 fun w M=>?_)
   all_goals (repeat' first|refine Ca 3 ?_;(refine j6 3 ?_)|refine Ca 4 ?_;(refine j6 4 ?_)|refine Ca 6 ?_;(refine Cj 6 ?_)|refine Ca 7 ?_;(refine Cj 7 ?_)|refine Ca 19 ?_;(first|refine yyp ?_;try refine Cc ?_ ?_<;>intro hb|refine yy2 ?_ ?_<;>intro hcmp);all_goals try refine Db false 19 30 Qd ?_|refine Ca 24 ?_;(first|refine yyp ?_;try refine Cc ?_ ?_<;>intro hb|refine yy2 ?_ ?_<;>intro hcmp);all_goals try refine Db false 24 30 Qd ?_|refine Ca 27 ?_;(first|refine yyp ?_;try refine Cc ?_ ?_<;>intro hb|refine yy2 ?_ ?_<;>intro hcmp);all_goals try refine Db false 27 30 Qd ?_|refine Ca 30 ?_;refine yyp ?_;try refine Cc ?_ ?_<;>intro hb|refine yyp ?_|refine yy ?_|refine yy2 ?_ ?_<;>intro hcmp|refine Cf 119 ?_;refine Cg (hc:=hf) ?_|refine at_nil ?_;refine Ce Qd ?_|refine Cb fun K hK=>?_|apply_assumption -exfalso -symm)
   all_goals first
    |(exfalso;exact absurd hk.1 (by assumption))
    |(exfalso;exact hk.2 (by assumption))
    |((refine j0 (j5 ?_))
      rfl)
  ·rw[Af hk];cases xp
   all_goals (refine j3 func122 ntmps122 results122 fun w M=>?_)
   all_goals (repeat' first|refine Ca 3 ?_;(refine j6 3 ?_)|refine Ca 4 ?_;(refine j6 4 ?_)|refine Ca 6 ?_;(refine Cj 6 ?_)|refine Ca 7 ?_;(refine Cj 7 ?_)|refine Ca 19 ?_;(first|refine yyp ?_;try refine Cc ?_ ?_<;>intro hb|refine yy2 ?_ ?_<;>intro hcmp);all_goals try refine Db false 19 30 Qd ?_|refine Ca 24 ?_;(first|refine yyp ?_;try refine Cc ?_ ?_<;>intro hb|refine yy2 ?_ ?_<;>intro hcmp);all_goals try refine Db false 24 30 Qd ?_|refine Ca 27 ?_;(first|refine yyp ?_;try refine Cc ?_ ?_<;>intro hb|refine yy2 ?_ ?_<;>intro hcmp);all_goals try refine Db false 27 30 Qd ?_|refine Ca 30 ?_;refine yyp ?_;try refine Cc ?_ ?_<;>intro hb|refine yyp ?_|refine yy ?_|refine yy2 ?_ ?_<;>intro hcmp|refine Cf 119 ?_;refine Cg (hc:=hf) ?_|refine at_nil ?_;refine Ce Qd ?_|refine Cb fun K hK=>?_|apply_assumption -exfalso -symm)
   all_goals first
    |(exfalso;exact hk ⟨by assumption,by assumption⟩)
    |((refine j0 (j5 ?_))
      rfl)
theorem mh7 (gl:List (Nat × List D))(l m:List (ByteArray × Sc.Ent))(h1:l.length<=1000000000)(h2:m.length<=1000000000):FnD prog gl 77 [.d (.list 4 (l.map dEn)),.d (.list 4 (m.map dEn))] (fun v=>v=.d (.list 4 ((l++m).map dEn))):=by
 (refine j3 func77 ntmps77 results77 fun w M=>?_)
 refine Cb fun K0 k0=>?_
 (refine x7 (id:=0) ?_;(repeat' first|refine yyp ?_;try refine Cc ?_ ?_<;>intro hb|refine at_nil ?_;refine Ce [0,1,4,5,6,7] ?_))
 refine k0 _ ?_;refine Cb fun K1 k1=>?_
 (refine x7 (id:=1) ?_;(repeat' first|refine yyp ?_;try refine Cc ?_ ?_<;>intro hb|refine at_nil ?_;refine Ce [0,1,4,5,6,7] ?_))
 refine k1 _ ?_;refine jf1 (t:=5) (e:=138) (sz:=4) rfl rfl ?_
 (repeat' first|refine yyp ?_;try refine Cc ?_ ?_<;>intro hb|refine yy ?_|(refine Cq ?_;first|(refine Cs (fun kv=>?_))|(refine z_append_suf (fun sx sp kv hsx hsp hsl=>?_)))|refine at_nil ?_;refine Ce [0,1,4,5,6,7] ?_|refine Cb fun K hK=>?_|apply_assumption -exfalso -symm)
 (refine j0 (j5 ?_))
 rw[Ap];rfl
end
section
variable {mm:Int}
def evD (ev:List (ByteArray × Bool)):List D:=ev.map fun x=>.agg [.str x.1,.bool x.2]
def RW (tk:List ByteArray)(σ:Sc.W):List (Nat × Ob):=[(900,.hbox 81 2 (evD σ.ev) 0 [.nils 0,.d (.list 1 (tk.map .str)),.d (.int .i64 σ.count)])]
attribute [local irreducible] TR TC
theorem jr1 (gl:List (Nat × List D))(tk:List ByteArray)(l:List (ByteArray × Sc.Ent))(σ:Sc.W)(s:ByteArray)(he:σ.env=Gh l)(hr:σ.room 1):
 FnE prog gl 72 [.ptr 900 0,.d (.str s),.d (.list 4 (l.map dEn))] (RW tk σ) (fun v H1=>v=.d (.str (Sc.nameOf σ s).1)/\H1=RW tk (Sc.nameOf σ s).2):=by
 unfold Sc.W.room at hr;unfold Sc.nameOf;rw[he];have hlen:(evD σ.ev).length=σ.ev.length:=Aa _;cases hx:(Gh l s).getLast? with
 |some x=>
  have hf:=jl7 gl l s x hx;dsimp only[RW]
  (refine j4 func72 ntmps72 results72 fun w M E b0=>?_)
  (repeat' first|refine Ca 7 ?_;(refine Cj 7 ?_)|refine yyp ?_;try refine Cc ?_ ?_<;>intro hb|refine yy ?_|refine Cf 119 ?_;refine Cg (hc:=hf) ?_|refine at_nil ?_;refine Ce [0,1,2,6,7,8,15] ?_|refine Cb fun K hK=>?_|apply_assumption -exfalso -symm)
  (refine j0 (j7 ⟨?_,rfl⟩))
  rfl
 |none=>
  have hf:=jl8 gl l s hx;dsimp only[RW,Sc.step];have hap:evD (σ.ev++[(s,false)])=evD σ.ev++[.agg [.str s,.bool false]]:=by simp[evD]
  rw[hap]
  (refine j4 func72 ntmps72 results72 fun w M E b0=>?_)
  refine jd9 (jf2 (n:=900) (q:=950) rfl rfl) ?_
  (repeat' first|refine Ca 7 ?_;(refine Cj 7 ?_)|refine Ca 25 ?_;(refine Dh 25 ?_)|refine yyp ?_;try refine Cc ?_ ?_<;>intro hb|refine yy ?_|refine Cf 119 ?_;refine Cg (hc:=hf) ?_|(refine Cq ?_;first|(refine Cs (fun kv=>?_))|(refine z_append_suf (fun sx sp kv hsx hsp hsl=>?_)))|refine at_nil ?_;refine Ce [0,1,2,6,7,8,15] ?_|refine Cb fun K hK=>?_|apply_assumption -exfalso -symm)
  refine jd9 (jf3 (n:=900) (q:=950) (i:=0) rfl rfl rfl rfl (by(repeat (first|exact Drop.nil|apply Drop.drop rfl|apply Drop.take rfl));fail_if_success intros) rfl) ?_
  (refine j0 (j7 ⟨?_,rfl⟩))
  rfl
end
section
def Ug:List Nat:=[0,1,2,4,6,7,8,19,28]
def Wv:List Nat:=[0,1,4,5,6,7,8,18]
def qs6:Plan:=lin [0,4,8,12,16,20,25,30]
def re6:Plan:=lin [0,4,8,12,20,24,28,17,33,36,42,47,48,52,59]
variable {mm:Int}
theorem qs7 {C:Ctx}{S1 S2 S3:Sd}(h:Wk C S1 S2)(k:Wk C S2 S3):Wk C S1 S3:=fun a w hs=>k a w (h a w hs)
attribute [local irreducible] TR TC
theorem kp1 (gl:List (Nat × List D))(tk:List ByteArray)(l:List (ByteArray × Sc.Ent))(es:List Ex)(σ:Sc.W)(hl:es.length<=1000000000)
 (h1:∀ (j:Nat) (hj:j<es.length),FnE prog gl 74 [.ptr 900 0,.d (dEx es[j]),.d (.list 4 (l.map dEn))] (RW tk (Cv j2 σ (es.take j)).2)
   (fun v H1=>v=.d (dEx (j2 (Cv j2 σ (es.take j)).2 es[j]).1)/\H1=RW tk (j2 (Cv j2 σ (es.take j)).2 es[j]).2)):
 FnE prog gl 75 [.ptr 900 0,.d (.list 6 (es.map dEx)),.d (.list 4 (l.map dEn))] (RW tk σ)
  (fun v H1=>v=.d (.list 6 ((Cv j2 σ es).1.map dEx))/\H1=RW tk (Cv j2 σ es).2):=by
 simp only[r9]at h1 ⊢;dsimp only[RW]at h1 ⊢
 (refine j4 func75 ntmps75 results75 fun w M E b0=>?_)
 refine r7 1 rfl fun hn=>?_;simp only[Aa]at hn
 (repeat' first|refine yyp ?_;try refine Cc ?_ ?_<;>intro hb|refine yy ?_|refine at_nil ?_;refine Ce [0,1,2,6,7,8,12] ?_|refine Cb fun K hK=>?_|apply_assumption -exfalso -symm)
 refine jf1 (t:=7) (e:=28) (sz:=6) rfl rfl ?_;refine j8 [7,8,9,10,11,12,13,14,15,16,17,18,19,20,21,22,23,24] [7,900] (fun x:Nat × Nat=>[(8,.d (.int .i64 x.1)),(7,.own 7 x.2)]) (fun x=>(7,.row 28 6 true ((Cv j2 σ (es.take x.1)).1.map dE) x.2)::RW tk (Cv j2 σ (es.take x.1)).2) (fun x=>x.1<=es.length) (fun x=>es.length - x.1) (0,0) (Ak _) fun⟨j,kv⟩ hj=>?_;dsimp only[Ac,Ad,RW]at hj ⊢;have hlen:=z8 j2 (es.take j) σ;simp only[Aj]at hlen;rcases Ah j es.length with hj2|hj2
 ·have hone:=h1 j hj2
  (repeat' first|refine Ca 22 ?_;refine Ch (hc:=hone) ?_|refine Ca 23 ?_;(refine Dh 23 ?_)|refine yyp ?_;try refine Cc ?_ ?_<;>intro hb|refine yy ?_|(refine Cq ?_;first|(refine Cs (fun kv=>?_))|(refine z_append_suf (fun sx sp kv hsx hsp hsl=>?_)))|refine at_nil ?_;refine Ce [0,1,2,6,7,8,12] ?_|refine Cb fun K hK=>?_|apply_assumption -exfalso -symm)
  refine⟨(j+1,kv),by dsimp only;omega,by dsimp only;omega,?_⟩;dsimp only;rw[z7 j2 es σ j hj2];simp only[Ap,Am,Aw];exact v6
 have hjl:j=es.length:=by omega
 subst hjl;rw[Au]
 (repeat' first|refine yyp ?_;try refine Cc ?_ ?_<;>intro hb|refine yy ?_|refine at_nil ?_;refine Ce [0,1,2,6,7,8,12] ?_|refine Cb fun K hK=>?_|apply_assumption -exfalso -symm)
 (refine j0 (j7 ⟨?_,rfl⟩))
 rfl
theorem qh7 (gl:List (Nat × List D))(tk:List ByteArray)(l:List (ByteArray × Sc.Ent)):∀ (m:Nat) (e:Ex) (σ:Sc.W),exN e<=m->σ.env=Gh l->σ.room (exN e)->FnE prog gl 74 [.ptr 900 0,.d (dEx e),.d (.list 4 (l.map dEn))] (RW tk σ)
 (fun v H1=>v=.d (dEx (j2 σ e).1)/\H1=RW tk (j2 σ e).2):=by
 intro m
 induction m with
 |zero=>intro e σ h;have:=jm4 e;omega
 |succ m ih=>
  rintro⟨kind,op,ty,n,s,es⟩ σ hm henv hr;unfold Sc.W.room at hr;simp only[exN]at hm hr;have hlen:=n7 es;have hn:=jr1 gl tk l σ s henv (by unfold Sc.W.room;omega);have hnl:=(Sc.Ho σ s).ev;have hne:=(Sc.Ho σ s).env;have he:∀ σ1:Sc.W,σ1.env=Gh l->σ1.ev.length+Hr es<=1000000000->_:=fun σ1 h0 h1=>kp1 gl tk l es σ1 (by omega) fun j hj=>ih es[j] _ (by have:=n5 es j hj;omega) ((Sc.Dm (es.take j) σ1).env.trans h0) (by
   have h2:=(Sc.Dm (es.take j) σ1).ev;have:=n5 es j hj;unfold Sc.W.room;omega)
  have h1:=he σ henv (by omega);have h2:=he (Sc.nameOf σ s).2 (hne.trans henv) (by omega);clear he ih;simp only[j2,ja5];cases hk:Dt kind with
  |true=>
   simp only[if_true];generalize Sc.nameOf σ s=r at hn h2 ⊢;generalize Cv j2 r.2 es=q at h2 ⊢;rw[congrFun r9 (Ex.mk kind op ty n s es),congrFun r9 (Ex.mk kind op ty n r.1 q.1)];dsimp only[RW]at hn h2 ⊢
   (refine j4 func74 ntmps74 results74 fun w M E b0=>?_)
   (repeat' first|refine Ca 4 ?_;(refine j6 4 ?_)|refine Ca 6 ?_;(refine Cj 6 ?_)|refine Ca 10 ?_;(first|refine yyp ?_;try refine Cc ?_ ?_<;>intro hb|refine yy2 ?_ ?_<;>intro hcmp);all_goals try refine Db true 10 19 Ug ?_|refine Ca 15 ?_;(first|refine yyp ?_;try refine Cc ?_ ?_<;>intro hb|refine yy2 ?_ ?_<;>intro hcmp);all_goals try refine Db true 15 19 Ug ?_|refine Ca 19 ?_;refine yyp ?_;try refine Cc ?_ ?_<;>intro hb|refine Ca 24 ?_;refine Ch (hc:=hn) ?_|refine Ca 30 ?_;refine Ch (hc:=h2) ?_|refine yyp ?_|refine yy ?_|refine yy2 ?_ ?_<;>intro hcmp|refine at_nil ?_;refine Ce Ug ?_|refine Cb fun K hK=>?_|apply_assumption -exfalso -symm)
   all_goals first
    |(exfalso;simp only[Dt,Ex.kind,Bo,Eb]at *;omega)
    |((refine j0 (j7 ⟨?_,rfl⟩))
      rfl)
  |false=>
   simp only[if_false,Ay];generalize Cv j2 σ es=q at h1 ⊢;rw[congrFun r9 (Ex.mk kind op ty n s es),congrFun r9 (Ex.mk kind op ty n s q.1)];clear hn h2;dsimp only[RW]at h1 ⊢
   (refine j4 func74 ntmps74 results74 fun w M E b0=>?_)
   (repeat' first|refine Ca 4 ?_;(refine j6 4 ?_)|refine Ca 6 ?_;(refine Cj 6 ?_)|refine Ca 10 ?_;(first|refine yyp ?_;try refine Cc ?_ ?_<;>intro hb|refine yy2 ?_ ?_<;>intro hcmp);all_goals try refine Db true 10 19 Ug ?_|refine Ca 15 ?_;(first|refine yyp ?_;try refine Cc ?_ ?_<;>intro hb|refine yy2 ?_ ?_<;>intro hcmp);all_goals try refine Db true 15 19 Ug ?_|refine Ca 19 ?_;refine yyp ?_;try refine Cc ?_ ?_<;>intro hb|refine Ca 30 ?_;refine Ch (hc:=h1) ?_|refine yyp ?_|refine yy ?_|refine yy2 ?_ ?_<;>intro hcmp|refine at_nil ?_;refine Ce Ug ?_|refine Cb fun K hK=>?_|apply_assumption -exfalso -symm)
   all_goals first
    |(exfalso;simp only[Dt,Ex.kind,Bool.or_eq_false_iff,beq_eq_false_iff_ne,ne_eq]at *;omega)
    |((refine j0 (j7 ⟨?_,rfl⟩))
      rfl)
theorem js0 (gl:List (Nat × List D))(tk:List ByteArray)(l:List (ByteArray × Sc.Ent))(e:Ex)(σ:Sc.W)(he:σ.env=Gh l)(hr:σ.room (exN e)):FnE prog gl 74 [.ptr 900 0,.d (dEx e),.d (.list 4 (l.map dEn))] (RW tk σ)
 (fun v H1=>v=.d (dEx (j2 σ e).1)/\H1=RW tk (j2 σ e).2):=qh7 gl tk l _ e σ (As _) he hr
theorem ji3 (gl:List (Nat × List D))(tk:List ByteArray)(l:List (ByteArray × Sc.Ent))(es:List Ex)(σ:Sc.W)(he:σ.env=Gh l)(hr:σ.room (Hr es)):FnE prog gl 75 [.ptr 900 0,.d (.list 6 (es.map dEx)),.d (.list 4 (l.map dEn))] (RW tk σ)
 (fun v H1=>v=.d (.list 6 ((Cv j2 σ es).1.map dEx))/\H1=RW tk (Cv j2 σ es).2):=by
 unfold Sc.W.room at hr;have:=n7 es;refine kp1 gl tk l es σ (by omega) fun j hj=>js0 gl tk l es[j] _ ((Sc.Dm (es.take j) σ).env.trans he) ?_;have h2:=(Sc.Dm (es.take j) σ).ev;have:=n5 es j hj;unfold Sc.W.room;omega
theorem ma5 (gl:List (Nat × List D))(tk:List ByteArray)(σ:Sc.W)(nn:List ByteArray)(hn9:nn.length<=1000000000)(hr:σ.room nn.length):
 FnE prog gl 121 [.ptr 900 0,.d (.list 1 (nn.map .str))] (RW tk σ) (fun v H1=>v=.tup []/\H1=RW tk (Sc.Cu σ nn)):=by
 have htw:Sc.Cu σ nn={σ with ev:=evN σ.ev nn nn.length}:=by rw[mk9];rfl
 rw[htw];unfold Sc.W.room at hr;obtain⟨env,t,c,ev⟩:=σ;dsimp only[RW]at hr ⊢;clear htw
 (refine j4 func121 ntmps121 results121 fun w M E b0=>?_)
 refine r7 1 rfl fun hn=>?_;simp only[Aa]at hn
 (repeat' first|refine yyp ?_;try refine Cc ?_ ?_<;>intro hb|refine yy ?_|refine at_nil ?_;refine Ce Wv ?_|refine Cb fun K hK=>?_|refine Ck 3 ?_;refine j1 [] qs6 ?_|refine Ck 4 ?_;refine j1 [11,14] re6 ?_|apply_assumption -exfalso -symm)
 refine j8 [4,5,6,7,8,9,10,11,12,13,14,15,16,17,18,19,20,21,22,23,24,25,26,27,28,29,30,31,32] [900] (fun j:Nat=>[(4,.d (.int .i64 j))]) (fun j=>[(900,.hbox 81 2 (evD (evN ev nn j)) 0 [.nils 0,.d (.list 1 (tk.map .str)),.d (.int .i64 c)])]) (fun j=>j<=nn.length) (fun j=>nn.length - j) 0 (Ak _) fun j hj=>?_;dsimp only[Ac,Ad]at hj ⊢;have hlen:(evD (evN ev nn j)).length<=ev.length+j:=by
  have:=jn7 ev nn j;unfold evD;rw[Aa];exact this
 rcases Ah j nn.length with hj2|hj2
 ·have hst:=jm9 ev nn j hj2;have hc:=jr9 gl (nn.take j) nn[j];generalize (nn.take j).any (Sc.isB nn[j])=b at hc hst;rw[Ep]at hc;have hap:∀ e,evD (evN ev nn j++[(e,true)])=evD (evN ev nn j)++[.agg [.str e,.bool true]]:=fun e=>by simp[evD]
  ((repeat' first|refine Ck 4 ?_;refine halt ?_|refine yyp ?_;try refine Cc ?_ ?_<;>intro hb|refine yy ?_|refine Cf 24 ?_;refine Cg (hc:=hc) ?_;try refine Cc ?_ ?_<;>intro hb|refine at_nil ?_;refine Ce Wv ?_|refine Cb fun K hK=>?_|refine Ck 3 ?_;refine j1 [] qs6 ?_|apply_assumption -exfalso -symm);all_goals try refine unhalt ?_)
  ·rw[hb,Ae rfl]at hst;refine jd9 (jf2 (n:=900) (q:=950) rfl rfl) ?_
   (repeat' first|refine Ca 29 ?_;(refine Dh 29 ?_)|refine yyp ?_;try refine Cc ?_ ?_<;>intro hb|refine yy ?_|(refine Cq ?_;first|(refine Cs (fun kv=>?_))|(refine z_append_suf (fun sx sp kv hsx hsp hsl=>?_)))|refine at_nil ?_;refine Ce Wv ?_|refine Cb fun K hK=>?_|refine Ck 3 ?_;refine j1 [] qs6 ?_|refine Ck 4 ?_;refine j1 [11,14] re6 ?_|apply_assumption -exfalso -symm)
   refine⟨j+1,by omega,by omega,?_⟩;rw[hst,hap];exact qs7 (jf3 (n:=900) (q:=950) (i:=0) rfl rfl rfl rfl (by(repeat (first|exact Drop.nil|apply Drop.drop rfl|apply Drop.take rfl));fail_if_success intros) rfl) v6
  ·rw[hb,Af Ef]at hst;refine⟨j+1,by omega,by omega,?_⟩;rw[hst];exact v6
 obtain rfl:j=nn.length:=by omega
 (repeat' first|refine yyp ?_;try refine Cc ?_ ?_<;>intro hb|refine yy ?_|refine at_nil ?_;refine Ce Wv ?_|refine Cb fun K hK=>?_|refine Ck 3 ?_;refine j1 [] qs6 ?_|refine Ck 4 ?_;refine j1 [11,14] re6 ?_|apply_assumption -exfalso -symm)
 exact je0 ⟨rfl,rfl⟩
end
section
def Xw:List Nat:=[0,1,4,5,6,7,22,138]
def Pf:List Nat:=[0,1,2,4,5,6,7]
def re7:Plan:=lin [0,4,8,16,20,24,13,29,34,36,42]
def qs8:Plan:=lin [0,5,8,12,16,21,24,28,33,36,40,44,48,52,56,60,65,68,72,76,80,88,85,93,96,100,105,110,112,116]
variable {mm:Int}
attribute [local irreducible] TR TC
theorem ma6 (gl:List (Nat × List D))(tk:List ByteArray)(σ:Sc.W)(s:ByteArray)(z:D)(hz:z=.list 1 []\/z=.nil 1)(htk:σ.tk.map (·.1)=tk)(hn:σ.Ud 1):FnE prog gl 76 [.ptr 900 0,.d (.str s)] (RW tk σ)
 (fun v H1=>v=.d (.agg [.str s,.str (Sc.Ct σ).1,.bool false,z])/\H1=RW tk (Sc.Ct σ).2):=by
 obtain⟨hn0,hn1⟩:=hn;have hfree:=Sc.Qy σ (σ.count.toNat+1);have hhas:=Sc.Oz σ (σ.tk.length+1) (σ.count.toNat+1);have hle:=Sc.Ta σ (σ.count.toNat+1);unfold Sc.Ct;obtain⟨env,t,c,ev⟩:=σ;dsimp only at *;obtain⟨n,rfl⟩:∃ n:Nat,c=n:=⟨c.toNat,by omega⟩;simp only[Int.toNat_natCast]at *;generalize Sc.skip ⟨env,t,n,ev⟩ (t.length+1) (n+1)=nk at *;unfold Sc.W.has at hfree hhas;dsimp only at hfree hhas;rw[htk]at hfree hhas;dsimp only[RW]
 (refine j4 func76 ntmps76 results76 fun w M E b0=>?_)
 refine jd9 (jf2 (n:=900) (q:=950) rfl rfl) ?_
 (repeat' first|refine Ca 4 ?_;(refine Cj 4 ?_)|refine yyp ?_;try refine Cc ?_ ?_<;>intro hb|refine yy ?_|refine at_nil ?_;refine Ce Xw ?_|refine Cb fun K hK=>?_|refine Ck 2 ?_;refine j1 [] re7 ?_|apply_assumption -exfalso -symm)
 refine j8 [12,13,14,15,16,17,18,19,20,21,22,23,24,25,26,27,28,29] [900] (fun j:Nat=>[]) (fun j=>[(900,.box [.own 950 0,.d (.list 1 (tk.map .str)),.d (.int .i64 ((n+1+j:Nat)))])]) (fun j=>j<=nk) (fun j=>nk - j) 0 (Ak _) fun j hj=>?_;dsimp only[Ac,Ad];have hi:=qh6 gl (n+1+j) (by omega);have hc:=jr9 gl tk (Sc.newName (n+1+j));have hsz:(⟨(Sc.dec (n+1+j)).toArray⟩:ByteArray).size<=1000000000000000001:=by
  have:=kr9 (n+1+j);show(Sc.dec (n+1+j)).toArray.size<=_;simp only[Fj];omega
 have hz1:(⟨#[110]⟩:ByteArray).size=1:=rfl;have hap:=jm8 (n+1+j);have hany:∀ x,tk.any (Sc.isB x)=true↔x∈tk:=fun x=>by
  rw[Eo];exact⟨fun⟨y,hy,e⟩=>by rw[Sc.Li]at e;exact e ▸ hy,fun h=>⟨x,h,Sc.Li.2 rfl⟩⟩
 rw[<-hap]at hc;rcases Ah j nk with hj2|hj2
 ·have hb1:=(hany _).2 (hhas j hj2);rw[<-hap]at hb1;rw[hb1]at hc
  (repeat' first|refine yyp ?_;try refine Cc ?_ ?_<;>intro hb|refine yy ?_|refine Cf 120 ?_;refine Cg (hc:=hi) ?_|refine Cf 24 ?_;refine Cg (hc:=hc) ?_;try refine Cc ?_ ?_<;>intro hb|refine at_nil ?_;refine Ce Xw ?_|refine Cb fun K hK=>?_|refine Ck 2 ?_;refine j1 [] re7 ?_|apply_assumption -exfalso -symm)
  refine⟨j+1,by omega,by omega,?_⟩;rw[show((n+1+(j+1):Nat):Int)=(n+1+j:Nat)+1 by omega];exact v6
 ·obtain rfl:j=nk:=by omega
  have hb1:tk.any (Sc.isB (Sc.newName (n+1+j)))=false:=by
   rw[Bool.eq_false_iff];exact fun h=>hfree ((hany _).1 h)
  rw[<-hap]at hb1;rw[hb1]at hc
  (repeat' first|refine Ca 37 ?_;refine z_p Cr ?_|refine yyp ?_;try refine Cc ?_ ?_<;>intro hb|refine yy ?_|refine Cf 120 ?_;refine Cg (hc:=hi) ?_|refine Cf 24 ?_;refine Cg (hc:=hc) ?_;try refine Cc ?_ ?_<;>intro hb|refine at_nil ?_;refine Ce Xw ?_|refine Cb fun K hK=>?_|refine Ck 2 ?_;refine j1 [] re7 ?_|apply_assumption -exfalso -symm)
  rw[hap];refine jd9 (jf3 (n:=900) (q:=950) (i:=0) rfl rfl rfl rfl (by(repeat (first|exact Drop.nil|apply Drop.drop rfl|apply Drop.take rfl));fail_if_success intros) rfl) ?_;rcases hz with rfl|rfl
  ·(refine j0 (j7 ⟨?_,rfl⟩))
   rfl
  ·refine jd9 (jl3 4 3 rfl rfl) ?_
   (refine j0 (j7 ⟨?_,rfl⟩))
   rfl
theorem ku0 (gl:List (Nat × List D))(tk:List ByteArray)(σ:Sc.W)(s:ByteArray)(htk:σ.tk.map (·.1)=tk)(hn:σ.Ud 1):FnE prog gl 76 [.ptr 900 0,.d (.str s)] (RW tk σ)
 (fun v H1=>v=.d (dEn (s,⟨(Sc.Ct σ).1,false,[]⟩))/\H1=RW tk (Sc.Ct σ).2):=ma6 gl tk σ s _ (.inl rfl) htk hn
theorem jz7 (gl:List (Nat × List D))(l:List (ByteArray × Sc.Ent))(p:Pr)(hp:p.kind=5->0<p.exprs.length):FnD prog gl 73 [.d (dPr p),.d (.list 4 (l.map dEn))]
 (fun v=>v=.d (.bool (Sc.Cy (Gh l) p.kind p.chan p.exprs))):=by
 rw[qw9];by_cases h5:p.kind=5
 ·have hpos:=hp h5;obtain⟨e,r,hel⟩:∃ e r,p.exprs=e::r:=by
   cases h:p.exprs with
   |nil=>rw[h]at hpos;simp at hpos
   |cons e r=>exact⟨e,r,rfl⟩
  have h0:p.exprs[0]=e:=by simp only[hel,Ez]
  cases hx:(Gh l p.chan.s).getLast? with
  |none=>
   have hf:=jl8 gl l p.chan.s hx;rw[hel,kn7 _ _ _ _ _ hx]
   (refine j3 func73 ntmps73 results73 fun w M=>?_)
   (repeat' first|refine Ca 2 ?_;(refine j6 2 ?_)|refine Ca 5 ?_;(refine Cj 5 ?_)|refine Ca 18 ?_;(first|refine yyp ?_;try refine Cc ?_ ?_<;>intro hb|refine yy2 ?_ ?_<;>intro hcmp);all_goals try refine Db false 18 4 Pf ?_|refine Ca 26 ?_;(first|refine yyp ?_;try refine Cc ?_ ?_<;>intro hb|refine yy2 ?_ ?_<;>intro hcmp);all_goals try refine Db false 26 4 Pf ?_|refine Ca 29 ?_;(first|refine yyp ?_;try refine Cc ?_ ?_<;>intro hb|refine yy2 ?_ ?_<;>intro hcmp);all_goals try refine Db false 29 4 Pf ?_|refine yyp ?_|refine yy ?_|refine yy2 ?_ ?_<;>intro hcmp|refine Cf 119 ?_;refine Cg (hc:=hf) ?_|refine at_nil ?_;refine Ce Pf ?_|refine Cb fun K hK=>?_|refine Ck 2 ?_;refine j1 [] qs8 ?_|apply_assumption -exfalso -symm)
   all_goals (refine j0 (j5 ?_))
   all_goals rfl
  |some x=>
   have hf:=jl7 gl l p.chan.s x hx;have hc:=jr9 gl x.tags p.exprs[0].s;rw[hel,kg0 _ _ _ _ _ _ hx,<-h0];generalize x.tags.any (Sc.isB p.exprs[0].s)=b at hc ⊢;obtain⟨xf,xp,xt⟩:=x;dsimp only at hc ⊢
   (refine j3 func73 ntmps73 results73 fun w M=>?_)
   (repeat' first|refine Ca 2 ?_;(refine j6 2 ?_)|refine Ca 5 ?_;(refine Cj 5 ?_)|refine Ca 18 ?_;(first|refine yyp ?_;try refine Cc ?_ ?_<;>intro hb|refine yy2 ?_ ?_<;>intro hcmp);all_goals try refine Db false 18 4 Pf ?_|refine Ca 26 ?_;(first|refine yyp ?_;try refine Cc ?_ ?_<;>intro hb|refine yy2 ?_ ?_<;>intro hcmp);all_goals try refine Db false 26 4 Pf ?_|refine Ca 29 ?_;(first|refine yyp ?_;try refine Cc ?_ ?_<;>intro hb|refine yy2 ?_ ?_<;>intro hcmp);all_goals try refine Db false 29 4 Pf ?_|refine Ca 34 ?_;(first|refine yyp ?_;try refine Cc ?_ ?_<;>intro hb|refine yy2 ?_ ?_<;>intro hcmp);all_goals try refine Db false 34 4 Pf ?_|refine yyp ?_|refine yy ?_|refine yy2 ?_ ?_<;>intro hcmp|refine Cf 119 ?_;refine Cg (hc:=hf) ?_|refine Cf 24 ?_;refine Cg (hc:=hc) ?_|refine at_nil ?_;refine Ce Pf ?_|refine Cb fun K hK=>?_|refine Ck 2 ?_;refine j1 [] qs8 ?_|apply_assumption -exfalso -symm)
   all_goals (refine j0 (j5 ?_))
   all_goals (clear hc hf;(repeat (rename (∀ S:Sd,TC _ _ _ S->_)=>hX;clear hX));simp_all;try rfl)
 ·have hfalse:Sc.Cy (Gh l) p.kind p.chan p.exprs=false:=by unfold Sc.Cy;rw[Af h5]
  rw[hfalse];cases hx:(Gh l p.chan.s).getLast? with
  |none=>
   have hf:=jl8 gl l p.chan.s hx
   (refine j3 func73 ntmps73 results73 fun w M=>?_)
   (repeat' first|refine Ca 2 ?_;(refine j6 2 ?_)|refine Ca 5 ?_;(refine Cj 5 ?_)|refine Ca 18 ?_;(first|refine yyp ?_;try refine Cc ?_ ?_<;>intro hb|refine yy2 ?_ ?_<;>intro hcmp);all_goals try refine Db false 18 4 Pf ?_|refine yyp ?_|refine yy ?_|refine Cf 119 ?_;refine Cg (hc:=hf) ?_|refine at_nil ?_;refine Ce Pf ?_|refine Cb fun K hK=>?_|refine Ck 2 ?_;refine j1 [] qs8 ?_|apply_assumption -exfalso -symm)
   all_goals (refine j0 (j5 ?_))
   all_goals rfl
  |some x=>
   have hf:=jl7 gl l p.chan.s x hx
   (refine j3 func73 ntmps73 results73 fun w M=>?_)
   (repeat' first|refine Ca 2 ?_;(refine j6 2 ?_)|refine Ca 5 ?_;(refine Cj 5 ?_)|refine Ca 18 ?_;(first|refine yyp ?_;try refine Cc ?_ ?_<;>intro hb|refine yy2 ?_ ?_<;>intro hcmp);all_goals try refine Db false 18 4 Pf ?_|refine yyp ?_|refine yy ?_|refine Cf 119 ?_;refine Cg (hc:=hf) ?_|refine at_nil ?_;refine Ce Pf ?_|refine Cb fun K hK=>?_|refine Ck 2 ?_;refine j1 [] qs8 ?_|apply_assumption -exfalso -symm)
   all_goals (refine j0 (j5 ?_))
   all_goals rfl
end
end Go.Proofs.YtdopmfifmgkmoaaGreatDoor
