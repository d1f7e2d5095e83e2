/- Parts: S25. -/
import Derived.Test.YtdopmfifmgkmoaaGreatDoorP31
set_option linter.all false
set_option maxRecDepth 100000
set_option maxHeartbeats 16000000
namespace Go.Proofs.YtdopmfifmgkmoaaGreatDoor
open Go.RowKit Go.Proofs.Tryz
section
def qs25_0:List Nat:=[0,1,2,3,8,9,11,12,13,14,15,39,40,41,42]
def kl3:List Nat:=[8,9,14,15,16,17,18,19,20,21,22,23,24,25,26,27,28,29,30,31,32,33,34,35,36]
def kl4:List Nat:=[11,41,42,43,44,45,46,47,48,49,50,51,52,53,54,55,56,57,58,59,60,61,62,63,64,65]
def n7:Plan:=lin [0,4,8,16,20,24,28,36,44,48,52,60,13,33,41,57,65,68,72,76,83]
def ks6 (t:ByteArray):List ByteArray->Nat
 |[]=>0
 |s::l=>(if t=s then 1 else 0)+ks6 t l
theorem kp9 (t:ByteArray):∀ l m:List ByteArray,ks6 t (l++m)=ks6 t l+ks6 t m
 |[],m=>by simp[ks6]
 |s::l,m=>by simp only[List.cons_append,ks6,kp9 t l m];omega
theorem jh3 (t:ByteArray)(l:List ByteArray)(j:Nat)(hj:j<l.length):ks6 t (l.take (j+1))=ks6 t (l.take j)+(if t=l[j] then 1 else 0):=by
 rw[List.take_succ_eq_append_getElem hj,kp9]
 simp[ks6]
theorem jw7 (t:ByteArray)(l:List ByteArray)(j:Nat):ks6 t (l.take j)<=ks6 t l:=by
 have:=kp9 t (l.take j) (l.drop j)
 rw[List.take_append_drop]at this
 omega
theorem ji3 (t:ByteArray):∀ l:List ByteArray,ks6 t l<=l.length
 |[]=>Nat.le_refl _
 |s::l=>by have:=ji3 t l;simp only[ks6,List.length_cons];split<;>omega
theorem mg0:∀ (ns:List ByteArray) (xs:List Sc.Ent) (f:ByteArray->List Sc.Ent) (s:ByteArray) (x:Sc.Ent),ns.length=xs.length->
 Sc.pushE f (ns++[s]) (xs++[x])=fun t=>if t=s then Sc.pushE f ns xs t++[x] else Sc.pushE f ns xs t
 |[],[],f,s,x,_=>rfl
 |[],_::_,_,_,_,h=>by cases h
 |_::_,[],_,_,_,h=>by cases h
 |n::ns,y::xs,f,s,x,h=>by
  simp only[List.cons_append,Sc.pushE]
  exact mg0 ns xs _ s x (by simpa using h)
theorem jk1 (ns:List ByteArray)(xs:List Sc.Ent)(f:ByteArray->List Sc.Ent)(h:ns.length=xs.length)(j:Nat)(hj:j<ns.length):
 Sc.pushE f (ns.take (j+1)) (xs.take (j+1))=fun t=>if t=ns[j] then Sc.pushE f (ns.take j) (xs.take j) t++[xs[j]] else Sc.pushE f (ns.take j) (xs.take j) t:=by
 rw[List.take_succ_eq_append_getElem hj,List.take_succ_eq_append_getElem (by omega)]
 exact mg0 _ _ _ _ _ (by simp;omega)
theorem je1:∀ (ns:List ByteArray) (xs:List Sc.Ent) (f:ByteArray->List Sc.Ent) (t:ByteArray),ns.length=xs.length->∃ l,Sc.pushE f ns xs t=f t++l/\l.length=ks6 t ns
 |[],[],f,t,_=>⟨[],(List.append_nil _).symm,rfl⟩
 |[],_::_,_,_,h=>by cases h
 |_::_,[],_,_,h=>by cases h
 |n::ns,y::xs,f,t,h=>by
  simp only[Sc.pushE]
  obtain⟨l,h1,h2⟩:=je1 ns xs (fun t=>if t=n then f t++[y] else f t) t (by simpa using h)
  rw[h1]
  by_cases ht:t=n
  ·refine⟨y::l,by simp only[if_pos ht,List.append_assoc,List.singleton_append],by simp only[List.length_cons,ks6,if_pos ht,h2];omega⟩
  ·exact⟨l,by simp only[if_neg ht],by simp only[ks6,if_neg ht,h2];omega⟩
def popE (f:ByteArray->List Sc.Ent)(ns:List ByteArray)(t:ByteArray):List Sc.Ent:=(f t).take ((f t).length - ks6 t ns)
theorem jo7 (ns:List ByteArray)(xs:List Sc.Ent)(f:ByteArray->List Sc.Ent)(h:ns.length=xs.length):popE (Sc.pushE f ns xs) ns=f:=by
 funext t
 obtain⟨l,h1,h2⟩:=je1 ns xs f t h
 unfold popE
 rw[h1,List.length_append,h2,Nat.add_sub_cancel,List.take_append_of_le_length (Nat.le_refl _),List.take_length]
theorem jw8 (f:ByteArray->List Sc.Ent):popE f []=f:=by
 funext t
 simp[popE,ks6]
theorem jo8 (ns:List ByteArray)(f:ByteArray->List Sc.Ent)(j:Nat)(hj:j<ns.length):
 popE f (ns.take (j+1))=fun t=>if t=ns[j] then (popE f (ns.take j) t).take ((popE f (ns.take j) t).length - 1) else popE f (ns.take j) t:=by
 funext t
 unfold popE
 rw[jh3 t ns j hj]
 split
 ·rw[List.take_take,List.length_take]
  congr 1
  omega
 ·rw[Nat.add_zero]
theorem ja8 (f g:ByteArray->List Sc.Ent)(s:ByteArray)(l:List Sc.Ent)(h:g=fun t=>if t=s then l else f t):updF (dEnv f) s (l.map dEnt)=dEnv g:=by
 subst h
 funext t
 unfold updF dEnv
 by_cases ht:t=s
 ·simp only[if_pos ht]
 ·simp only[if_neg ht]
def Sc.W.deep (σ:Sc.W)(m:Nat):Prop:=∀ s,(σ.env s).length+m<=1000000000
def pv (p:Pr):List V:=[.d (.int .u8 p.kind),.d (.str p.name),
    .d (.int .u8 p.chan.kind),.d (.int .u8 p.chan.op),.d (.int .u8 p.chan.ty),.d (.int .i32 p.chan.n),.d (.str p.chan.s),.d (.list 6 (p.chan.l.map dEx)),
    .d (.list 6 (p.targets.map dEx)),.d (.list 6 (p.exprs.map dEx)),
    .d (.str p.rep.name),.d (.int .u8 p.rep.base.kind),.d (.int .u8 p.rep.base.op),.d (.int .u8 p.rep.base.ty),.d (.int .i32 p.rep.base.n),.d (.str p.rep.base.s),.d (.list 6 (p.rep.base.l.map dEx)),
    .d (.int .u8 p.rep.count.kind),.d (.int .u8 p.rep.count.op),.d (.int .u8 p.rep.count.ty),.d (.int .i32 p.rep.count.n),.d (.str p.rep.count.s),.d (.list 6 (p.rep.count.l.map dEx)),
    .d (.list 23 (p.guards.map dGu)),.d (.list 42 (p.l.map dPr)),.d (.list 1 (p.procs.map (.int .i64))),
    .d (.int .u8 p.spec.kind),.d (.int .u8 p.spec.type.kind),.d (.int .i64 p.spec.type.dim),.d (.int .u8 p.spec.type.item),.d (.str p.spec.type.proto),.d (.list 1 (p.spec.names.map .str)),
    .d (.int .u8 p.spec.e.kind),.d (.int .u8 p.spec.e.op),.d (.int .u8 p.spec.e.ty),.d (.int .i32 p.spec.e.n),.d (.str p.spec.e.s),.d (.list 6 (p.spec.e.l.map dEx)),
    .d (.bool p.spec.proto.cases),.d (.list 2 (p.spec.proto.l.map dVa)),.d (.list 6 (p.spec.formals.map dFo)),.d (.list 42 (p.spec.body.map dPr))]
def sv (s:Sp):List V:=[.d (.int .u8 s.kind),.d (.int .u8 s.type.kind),.d (.int .i64 s.type.dim),.d (.int .u8 s.type.item),.d (.str s.type.proto),.d (.list 1 (s.names.map .str)),
    .d (.int .u8 s.e.kind),.d (.int .u8 s.e.op),.d (.int .u8 s.e.ty),.d (.int .i32 s.e.n),.d (.str s.e.s),.d (.list 6 (s.e.l.map dEx)),
    .d (.bool s.proto.cases),.d (.list 2 (s.proto.l.map dVa)),.d (.list 6 (s.formals.map dFo)),.d (.list 42 (s.body.map dPr))]
attribute [local irreducible] TR TC
theorem ji4 (gl:List (Nat × List D))(k:Sc.Kind)(σ σ2:Sc.W)(nn:List ByteArray)(xs:List Sc.Ent)(p p2:Pr)(hl:nn.length=xs.length)(hd:σ.deep nn.length)(he:σ2.env=Sc.pushE σ.env nn xs)
 (hdo:FnE prog gl 65 [.ptr 1003 0,.ptr 1002 0] ((1003,.box (pv p))::(1002,.box [.ptr 900 0])::HW k {σ with env:=Sc.pushE σ.env nn xs})
   (fun v H1=>v=.tup []/\H1=(1003,.box (pv p2))::(1002,.box [.ptr 900 0])::HW k σ2)):
 FnE prog gl 64 [.ptr 900 0,.d (.list 1 (nn.map .str)),.d (.list 3 (xs.map dEnt)),.clo (.func 65) [] [.ptr 1003 0,.ptr 1002 0]] ((1003,.box (pv p))::(1002,.box [.ptr 900 0])::HW k σ)
  (fun v H1=>v=.tup []/\H1=(1003,.box (pv p2))::(1002,.box [.ptr 900 0])::HW k {σ2 with env:=σ.env}):=by
 unfold Sc.W.deep at hd
 have hpl:=fun t=>je1 nn xs σ.env t hl
 have hle1:nn.length<=xs.length:=Nat.le_of_eq hl
 have hle2:xs.length<=nn.length:=Nat.le_of_eq hl.symm
 clear hl
 obtain⟨env,tk,c,ev⟩:=σ
 obtain⟨env2,tk2,c2,ev2⟩:=σ2
 dsimp only at he hd hpl hdo ⊢
 subst he
 cases k
 all_goals dsimp only[HW,ja2,l9]at hdo ⊢
 case free=>
  (refine j3 func64 ntmps64 results64 fun w M E b0=>?_)
  refine r7 1 rfl fun hn=>?_
  simp only[List.length_map]at hn
  (repeat' first|refine yyp ?_;try refine s_bu ?_ ?_<;>intro hb|refine yy ?_|refine at_nil ?_;refine z_nil qs25_0 ?_|refine tc_seq fun K hK=>?_|refine j5 3 ?_;refine j2 [16,17] (linT [0,4,8,16,20,24,28,36,44,48,52,33,41,57] (.two 3 (lin [62,67,71]) 15 (.mid 3 (lin [67,71]) 16 (lin [13,71])))) ?_|refine j5 9 ?_;refine j2 [20] n7 ?_|apply_assumption -exfalso -symm)
  refine k9 kl3 [901] (fun j:Nat=>[(14,.d (.int .i64 j))]) (fun j=>[(901,.smap 120 3 (dEnv (Sc.pushE env (nn.take j) (xs.take j))) none)]) (fun j=>j<=nn.length) (fun j=>nn.length - j) 0 (Nat.zero_le _) fun j hj=>?_
  dsimp only[List.cons_append,List.nil_append]
  rcases Nat.lt_or_ge j nn.length with hj2|hj2
  ·have hj3:j<xs.length:=by omega
   have hlen:(Sc.pushE env (nn.take j) (xs.take j) nn[j]).length<=1000000000 - 1:=by
    obtain⟨l,h1,h2⟩:=je1 (nn.take j) (xs.take j) env nn[j] (by simp;omega)
    have h3:=ji3 nn[j] (nn.take j)
    have h4:=hd nn[j]
    rw[h1,List.length_append,h2]
    rw[List.length_take]at h3
    omega
   have key:updF (dEnv (Sc.pushE env (nn.take j) (xs.take j))) nn[j] ((Sc.pushE env (nn.take j) (xs.take j) nn[j]).map dEnt++[dEnt xs[j]])=dEnv (Sc.pushE env (nn.take (j+1)) (xs.take (j+1))):=by
    rw[jk1 nn xs env (by omega) j hj2]
    have:=ja8 (Sc.pushE env (nn.take j) (xs.take j)) _ nn[j] (Sc.pushE env (nn.take j) (xs.take j) nn[j]++[xs[j]]) rfl
    rw[List.map_append]at this
    refine this.trans ?_
    congr 1
    funext t
    by_cases ht:t=nn[j]
    ·simp only[if_pos ht]
     rw[ht]
    ·simp only[if_neg ht]
   (repeat' first|refine tr_at 29 ?_;(refine je9 950 ?_)|refine tr_at 34 ?_;(refine z_lit 34 ?_)|refine jq4 17 ?_;(refine jl7 ?_)|refine yyp ?_;try refine s_bu ?_ ?_<;>intro hb|refine yy ?_|(refine at_append ?_;first|(refine z_append (fun kv=>?_))|(refine z_append_suf (fun sx sp kv hsx hsp hsl=>?_)))|refine at_nil ?_;refine z_nil qs25_0 ?_|refine tr_two ?_ ?_|refine ja1 ?_ ?_|refine tc_seq fun K hK=>?_|refine j5 3 ?_;refine j2 [16,17] (linT [0,4,8,16,20,24,28,36,44,48,52,33,41,57] (.two 3 (lin [62,67,71]) 15 (.mid 3 (lin [67,71]) 16 (lin [13,71])))) ?_|refine j5 9 ?_;refine j2 [20] n7 ?_|apply_assumption -exfalso -symm)
   all_goals
    refine⟨j+1,by omega,by omega,?_⟩
    rw[<-key]
    exact v7
  rw[List.take_of_length_le hj2,List.take_of_length_le (show xs.length<=j by omega)]
  (repeat' first|refine tr_at 38 ?_;refine y_callE (hc:=hdo) ?_|refine yyp ?_;try refine s_bu ?_ ?_<;>intro hb|refine yy ?_|refine at_nil ?_;refine z_nil qs25_0 ?_|refine tc_seq fun K hK=>?_|refine j5 3 ?_;refine j2 [16,17] (linT [0,4,8,16,20,24,28,36,44,48,52,33,41,57] (.two 3 (lin [62,67,71]) 15 (.mid 3 (lin [67,71]) 16 (lin [13,71])))) ?_|refine j5 9 ?_;refine j2 [20] n7 ?_|apply_assumption -exfalso -symm)
  rw[show dEnv (Sc.pushE env nn xs)=dEnv (popE (Sc.pushE env nn xs) (nn.take 0)) by rw[List.take_zero,jw8]]
  refine k9 kl4 [901] (fun j:Nat=>[(41,.d (.int .i64 j))]) (fun j=>[(901,.smap 120 3 (dEnv (popE (Sc.pushE env nn xs) (nn.take j))) none)]) (fun j=>j<=nn.length) (fun j=>nn.length - j) 0 (Nat.zero_le _) fun j hj=>?_
  dsimp only[List.cons_append,List.nil_append]
  rcases Nat.lt_or_ge j nn.length with hj2|hj2
  ·have hlen:1<=(popE (Sc.pushE env nn xs) (nn.take j) nn[j]).length:=by
    obtain⟨l,h1,h2⟩:=hpl nn[j]
    have h3:=jh3 nn[j] nn j hj2
    rw[if_pos rfl]at h3
    have h4:=jw7 nn[j] nn (j+1)
    unfold popE
    rw[h1,List.length_take,List.length_append,h2]
    omega
   have key:updF (dEnv (popE (Sc.pushE env nn xs) (nn.take j))) nn[j] (((popE (Sc.pushE env nn xs) (nn.take j) nn[j]).map dEnt).take ((popE (Sc.pushE env nn xs) (nn.take j) nn[j]).length - 1))=dEnv (popE (Sc.pushE env nn xs) (nn.take (j+1))):=by
    rw[jo8 nn _ j hj2,<-List.map_take]
    refine(ja8 (popE (Sc.pushE env nn xs) (nn.take j)) _ nn[j] _ rfl).trans ?_
    congr 1
    funext t
    by_cases ht:t=nn[j]
    ·simp only[if_pos ht]
     rw[ht]
    ·simp only[if_neg ht]
   (repeat' first|refine tr_at 55 ?_;(refine je9 950 ?_;refine jd3 950 rfl fun hsm=>?_;simp only[List.length_map]at hsm)|refine tr_at 61 ?_;(refine jo6 ?_)|refine tr_at 64 ?_;(refine jw1 (m:=(popE (Sc.pushE env nn xs) (nn.take j) nn[j]).length - 1) (em:=by first|omega|(simp only[dEnv,List.length_map];omega)) (hm:=by first|omega|(simp only[dEnv,List.length_map];omega)) fun k1=>?_)|refine jq4 20 ?_;(refine jl7 ?_)|refine yyp ?_;try refine s_bu ?_ ?_<;>intro hb|refine yy ?_|refine at_nil ?_;refine z_nil qs25_0 ?_|refine tc_seq fun K hK=>?_|refine j5 3 ?_;refine j2 [16,17] (linT [0,4,8,16,20,24,28,36,44,48,52,33,41,57] (.two 3 (lin [62,67,71]) 15 (.mid 3 (lin [67,71]) 16 (lin [13,71])))) ?_|refine j5 9 ?_;refine j2 [20] n7 ?_|apply_assumption -exfalso -symm)
   all_goals
    refine⟨j+1,by omega,by omega,?_⟩
    rw[<-key]
    exact v7
  rw[List.take_of_length_le hj2,jo7 nn xs env (by omega)]
  (repeat' first|refine yyp ?_;try refine s_bu ?_ ?_<;>intro hb|refine yy ?_|refine at_nil ?_;refine z_nil qs25_0 ?_|refine tc_seq fun K hK=>?_|refine j5 3 ?_;refine j2 [16,17] (linT [0,4,8,16,20,24,28,36,44,48,52,33,41,57] (.two 3 (lin [62,67,71]) 15 (.mid 3 (lin [67,71]) 16 (lin [13,71])))) ?_|refine j5 9 ?_;refine j2 [20] n7 ?_|apply_assumption -exfalso -symm)
  all_goals first
   |exact je5 ⟨rfl,rfl⟩
   |(dsimp only[Exit.thenD,Exit.inBlockD];exact je5 ⟨rfl,rfl⟩)
 case check ns=>
  (refine j3 func64 ntmps64 results64 fun w M E b0=>?_)
  refine r7 1 rfl fun hn=>?_
  simp only[List.length_map]at hn
  (repeat' first|refine yyp ?_;try refine s_bu ?_ ?_<;>intro hb|refine yy ?_|refine at_nil ?_;refine z_nil qs25_0 ?_|refine tc_seq fun K hK=>?_|refine j5 3 ?_;refine j2 [16,17] (linT [0,4,8,16,20,24,28,36,44,48,52,33,41,57] (.two 3 (lin [62,67,71]) 15 (.mid 3 (lin [67,71]) 16 (lin [13,71])))) ?_|refine j5 9 ?_;refine j2 [20] n7 ?_|apply_assumption -exfalso -symm)
  refine k9 kl3 [901] (fun j:Nat=>[(14,.d (.int .i64 j))]) (fun j=>[(901,.smap 120 3 (dEnv (Sc.pushE env (nn.take j) (xs.take j))) none)]) (fun j=>j<=nn.length) (fun j=>nn.length - j) 0 (Nat.zero_le _) fun j hj=>?_
  dsimp only[List.cons_append,List.nil_append]
  rcases Nat.lt_or_ge j nn.length with hj2|hj2
  ·have hj3:j<xs.length:=by omega
   have hlen:(Sc.pushE env (nn.take j) (xs.take j) nn[j]).length<=1000000000 - 1:=by
    obtain⟨l,h1,h2⟩:=je1 (nn.take j) (xs.take j) env nn[j] (by simp;omega)
    have h3:=ji3 nn[j] (nn.take j)
    have h4:=hd nn[j]
    rw[h1,List.length_append,h2]
    rw[List.length_take]at h3
    omega
   have key:updF (dEnv (Sc.pushE env (nn.take j) (xs.take j))) nn[j] ((Sc.pushE env (nn.take j) (xs.take j) nn[j]).map dEnt++[dEnt xs[j]])=dEnv (Sc.pushE env (nn.take (j+1)) (xs.take (j+1))):=by
    rw[jk1 nn xs env (by omega) j hj2]
    have:=ja8 (Sc.pushE env (nn.take j) (xs.take j)) _ nn[j] (Sc.pushE env (nn.take j) (xs.take j) nn[j]++[xs[j]]) rfl
    rw[List.map_append]at this
    refine this.trans ?_
    congr 1
    funext t
    by_cases ht:t=nn[j]
    ·simp only[if_pos ht]
     rw[ht]
    ·simp only[if_neg ht]
   (repeat' first|refine tr_at 29 ?_;(refine je9 950 ?_)|refine tr_at 34 ?_;(refine z_lit 34 ?_)|refine jq4 17 ?_;(refine jl7 ?_)|refine yyp ?_;try refine s_bu ?_ ?_<;>intro hb|refine yy ?_|(refine at_append ?_;first|(refine z_append (fun kv=>?_))|(refine z_append_suf (fun sx sp kv hsx hsp hsl=>?_)))|refine at_nil ?_;refine z_nil qs25_0 ?_|refine tr_two ?_ ?_|refine ja1 ?_ ?_|refine tc_seq fun K hK=>?_|refine j5 3 ?_;refine j2 [16,17] (linT [0,4,8,16,20,24,28,36,44,48,52,33,41,57] (.two 3 (lin [62,67,71]) 15 (.mid 3 (lin [67,71]) 16 (lin [13,71])))) ?_|refine j5 9 ?_;refine j2 [20] n7 ?_|apply_assumption -exfalso -symm)
   all_goals
    refine⟨j+1,by omega,by omega,?_⟩
    rw[<-key]
    exact v7
  rw[List.take_of_length_le hj2,List.take_of_length_le (show xs.length<=j by omega)]
  (repeat' first|refine tr_at 38 ?_;refine y_callE (hc:=hdo) ?_|refine yyp ?_;try refine s_bu ?_ ?_<;>intro hb|refine yy ?_|refine at_nil ?_;refine z_nil qs25_0 ?_|refine tc_seq fun K hK=>?_|refine j5 3 ?_;refine j2 [16,17] (linT [0,4,8,16,20,24,28,36,44,48,52,33,41,57] (.two 3 (lin [62,67,71]) 15 (.mid 3 (lin [67,71]) 16 (lin [13,71])))) ?_|refine j5 9 ?_;refine j2 [20] n7 ?_|apply_assumption -exfalso -symm)
  rw[show dEnv (Sc.pushE env nn xs)=dEnv (popE (Sc.pushE env nn xs) (nn.take 0)) by rw[List.take_zero,jw8]]
  refine k9 kl4 [901] (fun j:Nat=>[(41,.d (.int .i64 j))]) (fun j=>[(901,.smap 120 3 (dEnv (popE (Sc.pushE env nn xs) (nn.take j))) none)]) (fun j=>j<=nn.length) (fun j=>nn.length - j) 0 (Nat.zero_le _) fun j hj=>?_
  dsimp only[List.cons_append,List.nil_append]
  rcases Nat.lt_or_ge j nn.length with hj2|hj2
  ·have hlen:1<=(popE (Sc.pushE env nn xs) (nn.take j) nn[j]).length:=by
    obtain⟨l,h1,h2⟩:=hpl nn[j]
    have h3:=jh3 nn[j] nn j hj2
    rw[if_pos rfl]at h3
    have h4:=jw7 nn[j] nn (j+1)
    unfold popE
    rw[h1,List.length_take,List.length_append,h2]
    omega
   have key:updF (dEnv (popE (Sc.pushE env nn xs) (nn.take j))) nn[j] (((popE (Sc.pushE env nn xs) (nn.take j) nn[j]).map dEnt).take ((popE (Sc.pushE env nn xs) (nn.take j) nn[j]).length - 1))=dEnv (popE (Sc.pushE env nn xs) (nn.take (j+1))):=by
    rw[jo8 nn _ j hj2,<-List.map_take]
    refine(ja8 (popE (Sc.pushE env nn xs) (nn.take j)) _ nn[j] _ rfl).trans ?_
    congr 1
    funext t
    by_cases ht:t=nn[j]
    ·simp only[if_pos ht]
     rw[ht]
    ·simp only[if_neg ht]
   (repeat' first|refine tr_at 55 ?_;(refine je9 950 ?_;refine jd3 950 rfl fun hsm=>?_;simp only[List.length_map]at hsm)|refine tr_at 61 ?_;(refine jo6 ?_)|refine tr_at 64 ?_;(refine jw1 (m:=(popE (Sc.pushE env nn xs) (nn.take j) nn[j]).length - 1) (em:=by first|omega|(simp only[dEnv,List.length_map];omega)) (hm:=by first|omega|(simp only[dEnv,List.length_map];omega)) fun k1=>?_)|refine jq4 20 ?_;(refine jl7 ?_)|refine yyp ?_;try refine s_bu ?_ ?_<;>intro hb|refine yy ?_|refine at_nil ?_;refine z_nil qs25_0 ?_|refine tc_seq fun K hK=>?_|refine j5 3 ?_;refine j2 [16,17] (linT [0,4,8,16,20,24,28,36,44,48,52,33,41,57] (.two 3 (lin [62,67,71]) 15 (.mid 3 (lin [67,71]) 16 (lin [13,71])))) ?_|refine j5 9 ?_;refine j2 [20] n7 ?_|apply_assumption -exfalso -symm)
   all_goals
    refine⟨j+1,by omega,by omega,?_⟩
    rw[<-key]
    exact v7
  rw[List.take_of_length_le hj2,jo7 nn xs env (by omega)]
  (repeat' first|refine yyp ?_;try refine s_bu ?_ ?_<;>intro hb|refine yy ?_|refine at_nil ?_;refine z_nil qs25_0 ?_|refine tc_seq fun K hK=>?_|refine j5 3 ?_;refine j2 [16,17] (linT [0,4,8,16,20,24,28,36,44,48,52,33,41,57] (.two 3 (lin [62,67,71]) 15 (.mid 3 (lin [67,71]) 16 (lin [13,71])))) ?_|refine j5 9 ?_;refine j2 [20] n7 ?_|apply_assumption -exfalso -symm)
  all_goals first
   |exact je5 ⟨rfl,rfl⟩
   |(dsimp only[Exit.thenD,Exit.inBlockD];exact je5 ⟨rfl,rfl⟩)
 case none=>
  (refine j3 func64 ntmps64 results64 fun w M E b0=>?_)
  refine r7 1 rfl fun hn=>?_
  simp only[List.length_map]at hn
  (repeat' first|refine yyp ?_;try refine s_bu ?_ ?_<;>intro hb|refine yy ?_|refine at_nil ?_;refine z_nil qs25_0 ?_|refine tc_seq fun K hK=>?_|refine j5 3 ?_;refine j2 [16,17] (linT [0,4,8,16,20,24,28,36,44,48,52,33,41,57] (.two 3 (lin [62,67,71]) 15 (.mid 3 (lin [67,71]) 16 (lin [13,71])))) ?_|refine j5 9 ?_;refine j2 [20] n7 ?_|apply_assumption -exfalso -symm)
  refine k9 kl3 [901] (fun j:Nat=>[(14,.d (.int .i64 j))]) (fun j=>[(901,.smap 120 3 (dEnv (Sc.pushE env (nn.take j) (xs.take j))) none)]) (fun j=>j<=nn.length) (fun j=>nn.length - j) 0 (Nat.zero_le _) fun j hj=>?_
  dsimp only[List.cons_append,List.nil_append]
  rcases Nat.lt_or_ge j nn.length with hj2|hj2
  ·have hj3:j<xs.length:=by omega
   have hlen:(Sc.pushE env (nn.take j) (xs.take j) nn[j]).length<=1000000000 - 1:=by
    obtain⟨l,h1,h2⟩:=je1 (nn.take j) (xs.take j) env nn[j] (by simp;omega)
    have h3:=ji3 nn[j] (nn.take j)
    have h4:=hd nn[j]
    rw[h1,List.length_append,h2]
    rw[List.length_take]at h3
    omega
   have key:updF (dEnv (Sc.pushE env (nn.take j) (xs.take j))) nn[j] ((Sc.pushE env (nn.take j) (xs.take j) nn[j]).map dEnt++[dEnt xs[j]])=dEnv (Sc.pushE env (nn.take (j+1)) (xs.take (j+1))):=by
    rw[jk1 nn xs env (by omega) j hj2]
    have:=ja8 (Sc.pushE env (nn.take j) (xs.take j)) _ nn[j] (Sc.pushE env (nn.take j) (xs.take j) nn[j]++[xs[j]]) rfl
    rw[List.map_append]at this
    refine this.trans ?_
    congr 1
    funext t
    by_cases ht:t=nn[j]
    ·simp only[if_pos ht]
     rw[ht]
    ·simp only[if_neg ht]
   (repeat' first|refine tr_at 29 ?_;(refine je9 950 ?_)|refine tr_at 34 ?_;(refine z_lit 34 ?_)|refine jq4 17 ?_;(refine jl7 ?_)|refine yyp ?_;try refine s_bu ?_ ?_<;>intro hb|refine yy ?_|(refine at_append ?_;first|(refine z_append (fun kv=>?_))|(refine z_append_suf (fun sx sp kv hsx hsp hsl=>?_)))|refine at_nil ?_;refine z_nil qs25_0 ?_|refine tr_two ?_ ?_|refine ja1 ?_ ?_|refine tc_seq fun K hK=>?_|refine j5 3 ?_;refine j2 [16,17] (linT [0,4,8,16,20,24,28,36,44,48,52,33,41,57] (.two 3 (lin [62,67,71]) 15 (.mid 3 (lin [67,71]) 16 (lin [13,71])))) ?_|refine j5 9 ?_;refine j2 [20] n7 ?_|apply_assumption -exfalso -symm)
   all_goals
    refine⟨j+1,by omega,by omega,?_⟩
    rw[<-key]
    exact v7
  rw[List.take_of_length_le hj2,List.take_of_length_le (show xs.length<=j by omega)]
  (repeat' first|refine tr_at 38 ?_;refine y_callE (hc:=hdo) ?_|refine yyp ?_;try refine s_bu ?_ ?_<;>intro hb|refine yy ?_|refine at_nil ?_;refine z_nil qs25_0 ?_|refine tc_seq fun K hK=>?_|refine j5 3 ?_;refine j2 [16,17] (linT [0,4,8,16,20,24,28,36,44,48,52,33,41,57] (.two 3 (lin [62,67,71]) 15 (.mid 3 (lin [67,71]) 16 (lin [13,71])))) ?_|refine j5 9 ?_;refine j2 [20] n7 ?_|apply_assumption -exfalso -symm)
  rw[show dEnv (Sc.pushE env nn xs)=dEnv (popE (Sc.pushE env nn xs) (nn.take 0)) by rw[List.take_zero,jw8]]
  refine k9 kl4 [901] (fun j:Nat=>[(41,.d (.int .i64 j))]) (fun j=>[(901,.smap 120 3 (dEnv (popE (Sc.pushE env nn xs) (nn.take j))) none)]) (fun j=>j<=nn.length) (fun j=>nn.length - j) 0 (Nat.zero_le _) fun j hj=>?_
  dsimp only[List.cons_append,List.nil_append]
  rcases Nat.lt_or_ge j nn.length with hj2|hj2
  ·have hlen:1<=(popE (Sc.pushE env nn xs) (nn.take j) nn[j]).length:=by
    obtain⟨l,h1,h2⟩:=hpl nn[j]
    have h3:=jh3 nn[j] nn j hj2
    rw[if_pos rfl]at h3
    have h4:=jw7 nn[j] nn (j+1)
    unfold popE
    rw[h1,List.length_take,List.length_append,h2]
    omega
   have key:updF (dEnv (popE (Sc.pushE env nn xs) (nn.take j))) nn[j] (((popE (Sc.pushE env nn xs) (nn.take j) nn[j]).map dEnt).take ((popE (Sc.pushE env nn xs) (nn.take j) nn[j]).length - 1))=dEnv (popE (Sc.pushE env nn xs) (nn.take (j+1))):=by
    rw[jo8 nn _ j hj2,<-List.map_take]
    refine(ja8 (popE (Sc.pushE env nn xs) (nn.take j)) _ nn[j] _ rfl).trans ?_
    congr 1
    funext t
    by_cases ht:t=nn[j]
    ·simp only[if_pos ht]
     rw[ht]
    ·simp only[if_neg ht]
   (repeat' first|refine tr_at 55 ?_;(refine je9 950 ?_;refine jd3 950 rfl fun hsm=>?_;simp only[List.length_map]at hsm)|refine tr_at 61 ?_;(refine jo6 ?_)|refine tr_at 64 ?_;(refine jw1 (m:=(popE (Sc.pushE env nn xs) (nn.take j) nn[j]).length - 1) (em:=by first|omega|(simp only[dEnv,List.length_map];omega)) (hm:=by first|omega|(simp only[dEnv,List.length_map];omega)) fun k1=>?_)|refine jq4 20 ?_;(refine jl7 ?_)|refine yyp ?_;try refine s_bu ?_ ?_<;>intro hb|refine yy ?_|refine at_nil ?_;refine z_nil qs25_0 ?_|refine tc_seq fun K hK=>?_|refine j5 3 ?_;refine j2 [16,17] (linT [0,4,8,16,20,24,28,36,44,48,52,33,41,57] (.two 3 (lin [62,67,71]) 15 (.mid 3 (lin [67,71]) 16 (lin [13,71])))) ?_|refine j5 9 ?_;refine j2 [20] n7 ?_|apply_assumption -exfalso -symm)
   all_goals
    refine⟨j+1,by omega,by omega,?_⟩
    rw[<-key]
    exact v7
  rw[List.take_of_length_le hj2,jo7 nn xs env (by omega)]
  (repeat' first|refine yyp ?_;try refine s_bu ?_ ?_<;>intro hb|refine yy ?_|refine at_nil ?_;refine z_nil qs25_0 ?_|refine tc_seq fun K hK=>?_|refine j5 3 ?_;refine j2 [16,17] (linT [0,4,8,16,20,24,28,36,44,48,52,33,41,57] (.two 3 (lin [62,67,71]) 15 (.mid 3 (lin [67,71]) 16 (lin [13,71])))) ?_|refine j5 9 ?_;refine j2 [20] n7 ?_|apply_assumption -exfalso -symm)
  all_goals first
   |exact je5 ⟨rfl,rfl⟩
   |(dsimp only[Exit.thenD,Exit.inBlockD];exact je5 ⟨rfl,rfl⟩)
theorem qi4 (gl:List (Nat × List D))(k:Sc.Kind)(σ σ2:Sc.W)(nn:List ByteArray)(xs:List Sc.Ent)(p p2:Sp)(hl:nn.length=xs.length)(hd:σ.deep nn.length)(he:σ2.env=Sc.pushE σ.env nn xs)
 (hdo:FnE prog gl 104 [.ptr 1003 0,.ptr 1002 0] ((1003,.box (sv p))::(1002,.box [.ptr 900 0])::HW k {σ with env:=Sc.pushE σ.env nn xs})
   (fun v H1=>v=.tup []/\H1=(1003,.box (sv p2))::(1002,.box [.ptr 900 0])::HW k σ2)):
 FnE prog gl 64 [.ptr 900 0,.d (.list 1 (nn.map .str)),.d (.list 3 (xs.map dEnt)),.clo (.func 104) [] [.ptr 1003 0,.ptr 1002 0]] ((1003,.box (sv p))::(1002,.box [.ptr 900 0])::HW k σ)
  (fun v H1=>v=.tup []/\H1=(1003,.box (sv p2))::(1002,.box [.ptr 900 0])::HW k {σ2 with env:=σ.env}):=by
 unfold Sc.W.deep at hd
 have hpl:=fun t=>je1 nn xs σ.env t hl
 have hle1:nn.length<=xs.length:=Nat.le_of_eq hl
 have hle2:xs.length<=nn.length:=Nat.le_of_eq hl.symm
 clear hl
 obtain⟨env,tk,c,ev⟩:=σ
 obtain⟨env2,tk2,c2,ev2⟩:=σ2
 dsimp only at he hd hpl hdo ⊢
 subst he
 cases k
 all_goals dsimp only[HW,ja2,l9]at hdo ⊢
 case free=>
  (refine j3 func64 ntmps64 results64 fun w M E b0=>?_)
  refine r7 1 rfl fun hn=>?_
  simp only[List.length_map]at hn
  (repeat' first|refine yyp ?_;try refine s_bu ?_ ?_<;>intro hb|refine yy ?_|refine at_nil ?_;refine z_nil qs25_0 ?_|refine tc_seq fun K hK=>?_|refine j5 3 ?_;refine j2 [16,17] (linT [0,4,8,16,20,24,28,36,44,48,52,33,41,57] (.two 3 (lin [62,67,71]) 15 (.mid 3 (lin [67,71]) 16 (lin [13,71])))) ?_|refine j5 9 ?_;refine j2 [20] n7 ?_|apply_assumption -exfalso -symm)
  refine k9 kl3 [901] (fun j:Nat=>[(14,.d (.int .i64 j))]) (fun j=>[(901,.smap 120 3 (dEnv (Sc.pushE env (nn.take j) (xs.take j))) none)]) (fun j=>j<=nn.length) (fun j=>nn.length - j) 0 (Nat.zero_le _) fun j hj=>?_
  dsimp only[List.cons_append,List.nil_append]
  rcases Nat.lt_or_ge j nn.length with hj2|hj2
  ·have hj3:j<xs.length:=by omega
   have hlen:(Sc.pushE env (nn.take j) (xs.take j) nn[j]).length<=1000000000 - 1:=by
    obtain⟨l,h1,h2⟩:=je1 (nn.take j) (xs.take j) env nn[j] (by simp;omega)
    have h3:=ji3 nn[j] (nn.take j)
    have h4:=hd nn[j]
    rw[h1,List.length_append,h2]
    rw[List.length_take]at h3
    omega
   have key:updF (dEnv (Sc.pushE env (nn.take j) (xs.take j))) nn[j] ((Sc.pushE env (nn.take j) (xs.take j) nn[j]).map dEnt++[dEnt xs[j]])=dEnv (Sc.pushE env (nn.take (j+1)) (xs.take (j+1))):=by
    rw[jk1 nn xs env (by omega) j hj2]
    have:=ja8 (Sc.pushE env (nn.take j) (xs.take j)) _ nn[j] (Sc.pushE env (nn.take j) (xs.take j) nn[j]++[xs[j]]) rfl
    rw[List.map_append]at this
    refine this.trans ?_
    congr 1
    funext t
    by_cases ht:t=nn[j]
    ·simp only[if_pos ht]
     rw[ht]
    ·simp only[if_neg ht]
   (repeat' first|refine tr_at 29 ?_;(refine je9 950 ?_)|refine tr_at 34 ?_;(refine z_lit 34 ?_)|refine jq4 17 ?_;(refine jl7 ?_)|refine yyp ?_;try refine s_bu ?_ ?_<;>intro hb|refine yy ?_|(refine at_append ?_;first|(refine z_append (fun kv=>?_))|(refine z_append_suf (fun sx sp kv hsx hsp hsl=>?_)))|refine at_nil ?_;refine z_nil qs25_0 ?_|refine tr_two ?_ ?_|refine ja1 ?_ ?_|refine tc_seq fun K hK=>?_|refine j5 3 ?_;refine j2 [16,17] (linT [0,4,8,16,20,24,28,36,44,48,52,33,41,57] (.two 3 (lin [62,67,71]) 15 (.mid 3 (lin [67,71]) 16 (lin [13,71])))) ?_|refine j5 9 ?_;refine j2 [20] n7 ?_|apply_assumption -exfalso -symm)
   all_goals
    refine⟨j+1,by omega,by omega,?_⟩
    rw[<-key]
    exact v7
  rw[List.take_of_length_le hj2,List.take_of_length_le (show xs.length<=j by omega)]
  (repeat' first|refine tr_at 38 ?_;refine y_callE (hc:=hdo) ?_|refine yyp ?_;try refine s_bu ?_ ?_<;>intro hb|refine yy ?_|refine at_nil ?_;refine z_nil qs25_0 ?_|refine tc_seq fun K hK=>?_|refine j5 3 ?_;refine j2 [16,17] (linT [0,4,8,16,20,24,28,36,44,48,52,33,41,57] (.two 3 (lin [62,67,71]) 15 (.mid 3 (lin [67,71]) 16 (lin [13,71])))) ?_|refine j5 9 ?_;refine j2 [20] n7 ?_|apply_assumption -exfalso -symm)
  rw[show dEnv (Sc.pushE env nn xs)=dEnv (popE (Sc.pushE env nn xs) (nn.take 0)) by rw[List.take_zero,jw8]]
  refine k9 kl4 [901] (fun j:Nat=>[(41,.d (.int .i64 j))]) (fun j=>[(901,.smap 120 3 (dEnv (popE (Sc.pushE env nn xs) (nn.take j))) none)]) (fun j=>j<=nn.length) (fun j=>nn.length - j) 0 (Nat.zero_le _) fun j hj=>?_
  dsimp only[List.cons_append,List.nil_append]
  rcases Nat.lt_or_ge j nn.length with hj2|hj2
  ·have hlen:1<=(popE (Sc.pushE env nn xs) (nn.take j) nn[j]).length:=by
    obtain⟨l,h1,h2⟩:=hpl nn[j]
    have h3:=jh3 nn[j] nn j hj2
    rw[if_pos rfl]at h3
    have h4:=jw7 nn[j] nn (j+1)
    unfold popE
    rw[h1,List.length_take,List.length_append,h2]
    omega
   have key:updF (dEnv (popE (Sc.pushE env nn xs) (nn.take j))) nn[j] (((popE (Sc.pushE env nn xs) (nn.take j) nn[j]).map dEnt).take ((popE (Sc.pushE env nn xs) (nn.take j) nn[j]).length - 1))=dEnv (popE (Sc.pushE env nn xs) (nn.take (j+1))):=by
    rw[jo8 nn _ j hj2,<-List.map_take]
    refine(ja8 (popE (Sc.pushE env nn xs) (nn.take j)) _ nn[j] _ rfl).trans ?_
    congr 1
    funext t
    by_cases ht:t=nn[j]
    ·simp only[if_pos ht]
     rw[ht]
    ·simp only[if_neg ht]
   (repeat' first|refine tr_at 55 ?_;(refine je9 950 ?_;refine jd3 950 rfl fun hsm=>?_;simp only[List.length_map]at hsm)|refine tr_at 61 ?_;(refine jo6 ?_)|refine tr_at 64 ?_;(refine jw1 (m:=(popE (Sc.pushE env nn xs) (nn.take j) nn[j]).length - 1) (em:=by first|omega|(simp only[dEnv,List.length_map];omega)) (hm:=by first|omega|(simp only[dEnv,List.length_map];omega)) fun k1=>?_)|refine jq4 20 ?_;(refine jl7 ?_)|refine yyp ?_;try refine s_bu ?_ ?_<;>intro hb|refine yy ?_|refine at_nil ?_;refine z_nil qs25_0 ?_|refine tc_seq fun K hK=>?_|refine j5 3 ?_;refine j2 [16,17] (linT [0,4,8,16,20,24,28,36,44,48,52,33,41,57] (.two 3 (lin [62,67,71]) 15 (.mid 3 (lin [67,71]) 16 (lin [13,71])))) ?_|refine j5 9 ?_;refine j2 [20] n7 ?_|apply_assumption -exfalso -symm)
   all_goals
    refine⟨j+1,by omega,by omega,?_⟩
    rw[<-key]
    exact v7
  rw[List.take_of_length_le hj2,jo7 nn xs env (by omega)]
  (repeat' first|refine yyp ?_;try refine s_bu ?_ ?_<;>intro hb|refine yy ?_|refine at_nil ?_;refine z_nil qs25_0 ?_|refine tc_seq fun K hK=>?_|refine j5 3 ?_;refine j2 [16,17] (linT [0,4,8,16,20,24,28,36,44,48,52,33,41,57] (.two 3 (lin [62,67,71]) 15 (.mid 3 (lin [67,71]) 16 (lin [13,71])))) ?_|refine j5 9 ?_;refine j2 [20] n7 ?_|apply_assumption -exfalso -symm)
  all_goals first
   |exact je5 ⟨rfl,rfl⟩
   |(dsimp only[Exit.thenD,Exit.inBlockD];exact je5 ⟨rfl,rfl⟩)
 case check ns=>
  (refine j3 func64 ntmps64 results64 fun w M E b0=>?_)
  refine r7 1 rfl fun hn=>?_
  simp only[List.length_map]at hn
  (repeat' first|refine yyp ?_;try refine s_bu ?_ ?_<;>intro hb|refine yy ?_|refine at_nil ?_;refine z_nil qs25_0 ?_|refine tc_seq fun K hK=>?_|refine j5 3 ?_;refine j2 [16,17] (linT [0,4,8,16,20,24,28,36,44,48,52,33,41,57] (.two 3 (lin [62,67,71]) 15 (.mid 3 (lin [67,71]) 16 (lin [13,71])))) ?_|refine j5 9 ?_;refine j2 [20] n7 ?_|apply_assumption -exfalso -symm)
  refine k9 kl3 [901] (fun j:Nat=>[(14,.d (.int .i64 j))]) (fun j=>[(901,.smap 120 3 (dEnv (Sc.pushE env (nn.take j) (xs.take j))) none)]) (fun j=>j<=nn.length) (fun j=>nn.length - j) 0 (Nat.zero_le _) fun j hj=>?_
  dsimp only[List.cons_append,List.nil_append]
  rcases Nat.lt_or_ge j nn.length with hj2|hj2
  ·have hj3:j<xs.length:=by omega
   have hlen:(Sc.pushE env (nn.take j) (xs.take j) nn[j]).length<=1000000000 - 1:=by
    obtain⟨l,h1,h2⟩:=je1 (nn.take j) (xs.take j) env nn[j] (by simp;omega)
    have h3:=ji3 nn[j] (nn.take j)
    have h4:=hd nn[j]
    rw[h1,List.length_append,h2]
    rw[List.length_take]at h3
    omega
   have key:updF (dEnv (Sc.pushE env (nn.take j) (xs.take j))) nn[j] ((Sc.pushE env (nn.take j) (xs.take j) nn[j]).map dEnt++[dEnt xs[j]])=dEnv (Sc.pushE env (nn.take (j+1)) (xs.take (j+1))):=by
    rw[jk1 nn xs env (by omega) j hj2]
    have:=ja8 (Sc.pushE env (nn.take j) (xs.take j)) _ nn[j] (Sc.pushE env (nn.take j) (xs.take j) nn[j]++[xs[j]]) rfl
    rw[List.map_append]at this
    refine this.trans ?_
    congr 1
    funext t
    by_cases ht:t=nn[j]
    ·simp only[if_pos ht]
     rw[ht]
    ·simp only[if_neg ht]
   (repeat' first|refine tr_at 29 ?_;(refine je9 950 ?_)|refine tr_at 34 ?_;(refine z_lit 34 ?_)|refine jq4 17 ?_;(refine jl7 ?_)|refine yyp ?_;try refine s_bu ?_ ?_<;>intro hb|refine yy ?_|(refine at_append ?_;first|(refine z_append (fun kv=>?_))|(refine z_append_suf (fun sx sp kv hsx hsp hsl=>?_)))|refine at_nil ?_;refine z_nil qs25_0 ?_|refine tr_two ?_ ?_|refine ja1 ?_ ?_|refine tc_seq fun K hK=>?_|refine j5 3 ?_;refine j2 [16,17] (linT [0,4,8,16,20,24,28,36,44,48,52,33,41,57] (.two 3 (lin [62,67,71]) 15 (.mid 3 (lin [67,71]) 16 (lin [13,71])))) ?_|refine j5 9 ?_;refine j2 [20] n7 ?_|apply_assumption -exfalso -symm)
   all_goals
    refine⟨j+1,by omega,by omega,?_⟩
    rw[<-key]
    exact v7
  rw[List.take_of_length_le hj2,List.take_of_length_le (show xs.length<=j by omega)]
  (repeat' first|refine tr_at 38 ?_;refine y_callE (hc:=hdo) ?_|refine yyp ?_;try refine s_bu ?_ ?_<;>intro hb|refine yy ?_|refine at_nil ?_;refine z_nil qs25_0 ?_|refine tc_seq fun K hK=>?_|refine j5 3 ?_;refine j2 [16,17] (linT [0,4,8,16,20,24,28,36,44,48,52,33,41,57] (.two 3 (lin [62,67,71]) 15 (.mid 3 (lin [67,71]) 16 (lin [13,71])))) ?_|refine j5 9 ?_;refine j2 [20] n7 ?_|apply_assumption -exfalso -symm)
  rw[show dEnv (Sc.pushE env nn xs)=dEnv (popE (Sc.pushE env nn xs) (nn.take 0)) by rw[List.take_zero,jw8]]
  refine k9 kl4 [901] (fun j:Nat=>[(41,.d (.int .i64 j))]) (fun j=>[(901,.smap 120 3 (dEnv (popE (Sc.pushE env nn xs) (nn.take j))) none)]) (fun j=>j<=nn.length) (fun j=>nn.length - j) 0 (Nat.zero_le _) fun j hj=>?_
  dsimp only[List.cons_append,List.nil_append]
  rcases Nat.lt_or_ge j nn.length with hj2|hj2
  ·have hlen:1<=(popE (Sc.pushE env nn xs) (nn.take j) nn[j]).length:=by
    obtain⟨l,h1,h2⟩:=hpl nn[j]
    have h3:=jh3 nn[j] nn j hj2
    rw[if_pos rfl]at h3
    have h4:=jw7 nn[j] nn (j+1)
    unfold popE
    rw[h1,List.length_take,List.length_append,h2]
    omega
   have key:updF (dEnv (popE (Sc.pushE env nn xs) (nn.take j))) nn[j] (((popE (Sc.pushE env nn xs) (nn.take j) nn[j]).map dEnt).take ((popE (Sc.pushE env nn xs) (nn.take j) nn[j]).length - 1))=dEnv (popE (Sc.pushE env nn xs) (nn.take (j+1))):=by
    rw[jo8 nn _ j hj2,<-List.map_take]
    refine(ja8 (popE (Sc.pushE env nn xs) (nn.take j)) _ nn[j] _ rfl).trans ?_
    congr 1
    funext t
    by_cases ht:t=nn[j]
    ·simp only[if_pos ht]
     rw[ht]
    ·simp only[if_neg ht]
   (repeat' first|refine tr_at 55 ?_;(refine je9 950 ?_;refine jd3 950 rfl fun hsm=>?_;simp only[List.length_map]at hsm)|refine tr_at 61 ?_;(refine jo6 ?_)|refine tr_at 64 ?_;(refine jw1 (m:=(popE (Sc.pushE env nn xs) (nn.take j) nn[j]).length - 1) (em:=by first|omega|(simp only[dEnv,List.length_map];omega)) (hm:=by first|omega|(simp only[dEnv,List.length_map];omega)) fun k1=>?_)|refine jq4 20 ?_;(refine jl7 ?_)|refine yyp ?_;try refine s_bu ?_ ?_<;>intro hb|refine yy ?_|refine at_nil ?_;refine z_nil qs25_0 ?_|refine tc_seq fun K hK=>?_|refine j5 3 ?_;refine j2 [16,17] (linT [0,4,8,16,20,24,28,36,44,48,52,33,41,57] (.two 3 (lin [62,67,71]) 15 (.mid 3 (lin [67,71]) 16 (lin [13,71])))) ?_|refine j5 9 ?_;refine j2 [20] n7 ?_|apply_assumption -exfalso -symm)
   all_goals
    refine⟨j+1,by omega,by omega,?_⟩
    rw[<-key]
    exact v7
  rw[List.take_of_length_le hj2,jo7 nn xs env (by omega)]
  (repeat' first|refine yyp ?_;try refine s_bu ?_ ?_<;>intro hb|refine yy ?_|refine at_nil ?_;refine z_nil qs25_0 ?_|refine tc_seq fun K hK=>?_|refine j5 3 ?_;refine j2 [16,17] (linT [0,4,8,16,20,24,28,36,44,48,52,33,41,57] (.two 3 (lin [62,67,71]) 15 (.mid 3 (lin [67,71]) 16 (lin [13,71])))) ?_|refine j5 9 ?_;refine j2 [20] n7 ?_|apply_assumption -exfalso -symm)
  all_goals first
   |exact je5 ⟨rfl,rfl⟩
   |(dsimp only[Exit.thenD,Exit.inBlockD];exact je5 ⟨rfl,rfl⟩)
 case none=>
  (refine j3 func64 ntmps64 results64 fun w M E b0=>?_)
  refine r7 1 rfl fun hn=>?_
  simp only[List.length_map]at hn
  (repeat' first|refine yyp ?_;try refine s_bu ?_ ?_<;>intro hb|refine yy ?_|refine at_nil ?_;refine z_nil qs25_0 ?_|refine tc_seq fun K hK=>?_|refine j5 3 ?_;refine j2 [16,17] (linT [0,4,8,16,20,24,28,36,44,48,52,33,41,57] (.two 3 (lin [62,67,71]) 15 (.mid 3 (lin [67,71]) 16 (lin [13,71])))) ?_|refine j5 9 ?_;refine j2 [20] n7 ?_|apply_assumption -exfalso -symm)
  refine k9 kl3 [901] (fun j:Nat=>[(14,.d (.int .i64 j))]) (fun j=>[(901,.smap 120 3 (dEnv (Sc.pushE env (nn.take j) (xs.take j))) none)]) (fun j=>j<=nn.length) (fun j=>nn.length - j) 0 (Nat.zero_le _) fun j hj=>?_
  dsimp only[List.cons_append,List.nil_append]
  rcases Nat.lt_or_ge j nn.length with hj2|hj2
  ·have hj3:j<xs.length:=by omega
   have hlen:(Sc.pushE env (nn.take j) (xs.take j) nn[j]).length<=1000000000 - 1:=by
    obtain⟨l,h1,h2⟩:=je1 (nn.take j) (xs.take j) env nn[j] (by simp;omega)
    have h3:=ji3 nn[j] (nn.take j)
    have h4:=hd nn[j]
    rw[h1,List.length_append,h2]
    rw[List.length_take]at h3
    omega
   have key:updF (dEnv (Sc.pushE env (nn.take j) (xs.take j))) nn[j] ((Sc.pushE env (nn.take j) (xs.take j) nn[j]).map dEnt++[dEnt xs[j]])=dEnv (Sc.pushE env (nn.take (j+1)) (xs.take (j+1))):=by
    rw[jk1 nn xs env (by omega) j hj2]
    have:=ja8 (Sc.pushE env (nn.take j) (xs.take j)) _ nn[j] (Sc.pushE env (nn.take j) (xs.take j) nn[j]++[xs[j]]) rfl
    rw[List.map_append]at this
    refine this.trans ?_
    congr 1
    funext t
    by_cases ht:t=nn[j]
    ·simp only[if_pos ht]
     rw[ht]
    ·simp only[if_neg ht]
   (repeat' first|refine tr_at 29 ?_;(refine je9 950 ?_)|refine tr_at 34 ?_;(refine z_lit 34 ?_)|refine jq4 17 ?_;(refine jl7 ?_)|refine yyp ?_;try refine s_bu ?_ ?_<;>intro hb|refine yy ?_|(refine at_append ?_;first|(refine z_append (fun kv=>?_))|(refine z_append_suf (fun sx sp kv hsx hsp hsl=>?_)))|refine at_nil ?_;refine z_nil qs25_0 ?_|refine tr_two ?_ ?_|refine ja1 ?_ ?_|refine tc_seq fun K hK=>?_|refine j5 3 ?_;refine j2 [16,17] (linT [0,4,8,16,20,24,28,36,44,48,52,33,41,57] (.two 3 (lin [62,67,71]) 15 (.mid 3 (lin [67,71]) 16 (lin [13,71])))) ?_|refine j5 9 ?_;refine j2 [20] n7 ?_|apply_assumption -exfalso -symm)
   all_goals
    refine⟨j+1,by omega,by omega,?_⟩
    rw[<-key]
    exact v7
  rw[List.take_of_length_le hj2,List.take_of_length_le (show xs.length<=j by omega)]
  (repeat' first|refine tr_at 38 ?_;refine y_callE (hc:=hdo) ?_|refine yyp ?_;try refine s_bu ?_ ?_<;>intro hb|refine yy ?_|refine at_nil ?_;refine z_nil qs25_0 ?_|refine tc_seq fun K hK=>?_|refine j5 3 ?_;refine j2 [16,17] (linT [0,4,8,16,20,24,28,36,44,48,52,33,41,57] (.two 3 (lin [62,67,71]) 15 (.mid 3 (lin [67,71]) 16 (lin [13,71])))) ?_|refine j5 9 ?_;refine j2 [20] n7 ?_|apply_assumption -exfalso -symm)
  rw[show dEnv (Sc.pushE env nn xs)=dEnv (popE (Sc.pushE env nn xs) (nn.take 0)) by rw[List.take_zero,jw8]]
  refine k9 kl4 [901] (fun j:Nat=>[(41,.d (.int .i64 j))]) (fun j=>[(901,.smap 120 3 (dEnv (popE (Sc.pushE env nn xs) (nn.take j))) none)]) (fun j=>j<=nn.length) (fun j=>nn.length - j) 0 (Nat.zero_le _) fun j hj=>?_
  dsimp only[List.cons_append,List.nil_append]
  rcases Nat.lt_or_ge j nn.length with hj2|hj2
  ·have hlen:1<=(popE (Sc.pushE env nn xs) (nn.take j) nn[j]).length:=by
    obtain⟨l,h1,h2⟩:=hpl nn[j]
    have h3:=jh3 nn[j] nn j hj2
    rw[if_pos rfl]at h3
    have h4:=jw7 nn[j] nn (j+1)
    unfold popE
    rw[h1,List.length_take,List.length_append,h2]
    omega
   have key:updF (dEnv (popE (Sc.pushE env nn xs) (nn.take j))) nn[j] (((popE (Sc.pushE env nn xs) (nn.take j) nn[j]).map dEnt).take ((popE (Sc.pushE env nn xs) (nn.take j) nn[j]).length - 1))=dEnv (popE (Sc.pushE env nn xs) (nn.take (j+1))):=by
    rw[jo8 nn _ j hj2,<-List.map_take]
    refine(ja8 (popE (Sc.pushE env nn xs) (nn.take j)) _ nn[j] _ rfl).trans ?_
    congr 1
    funext t
    by_cases ht:t=nn[j]
    ·simp only[if_pos ht]
     rw[ht]
    ·simp only[if_neg ht]
   (repeat' first|refine tr_at 55 ?_;(refine je9 950 ?_;refine jd3 950 rfl fun hsm=>?_;simp only[List.length_map]at hsm)|refine tr_at 61 ?_;(refine jo6 ?_)|refine tr_at 64 ?_;(refine jw1 (m:=(popE (Sc.pushE env nn xs) (nn.take j) nn[j]).length - 1) (em:=by first|omega|(simp only[dEnv,List.length_map];omega)) (hm:=by first|omega|(simp only[dEnv,List.length_map];omega)) fun k1=>?_)|refine jq4 20 ?_;(refine jl7 ?_)|refine yyp ?_;try refine s_bu ?_ ?_<;>intro hb|refine yy ?_|refine at_nil ?_;refine z_nil qs25_0 ?_|refine tc_seq fun K hK=>?_|refine j5 3 ?_;refine j2 [16,17] (linT [0,4,8,16,20,24,28,36,44,48,52,33,41,57] (.two 3 (lin [62,67,71]) 15 (.mid 3 (lin [67,71]) 16 (lin [13,71])))) ?_|refine j5 9 ?_;refine j2 [20] n7 ?_|apply_assumption -exfalso -symm)
   all_goals
    refine⟨j+1,by omega,by omega,?_⟩
    rw[<-key]
    exact v7
  rw[List.take_of_length_le hj2,jo7 nn xs env (by omega)]
  (repeat' first|refine yyp ?_;try refine s_bu ?_ ?_<;>intro hb|refine yy ?_|refine at_nil ?_;refine z_nil qs25_0 ?_|refine tc_seq fun K hK=>?_|refine j5 3 ?_;refine j2 [16,17] (linT [0,4,8,16,20,24,28,36,44,48,52,33,41,57] (.two 3 (lin [62,67,71]) 15 (.mid 3 (lin [67,71]) 16 (lin [13,71])))) ?_|refine j5 9 ?_;refine j2 [20] n7 ?_|apply_assumption -exfalso -symm)
  all_goals first
   |exact je5 ⟨rfl,rfl⟩
   |(dsimp only[Exit.thenD,Exit.inBlockD];exact je5 ⟨rfl,rfl⟩)
end
end Go.Proofs.YtdopmfifmgkmoaaGreatDoor
