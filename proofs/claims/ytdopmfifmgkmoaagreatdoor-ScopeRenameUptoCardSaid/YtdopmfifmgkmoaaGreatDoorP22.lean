/- Parts: S25. -/
import Derived.Test.YtdopmfifmgkmoaaGreatDoorP21
set_option linter.all false
set_option maxRecDepth 100000
set_option maxHeartbeats 16000000
namespace Go.Proofs.YtdopmfifmgkmoaaGreatDoor
open Go.RowKit Go.Proofs.Tryz
section
def Ij:List Nat:=[0,1,2,3,8,9,11,12,13,14,15,39,40,41,42]
def kn4:List Nat:=[8,9,14,15,16,17,18,19,20,21,22,23,24,25,26,27,28,29,30,31,32,33,34,35,36]
def kn5:List Nat:=[11,41,42,43,44,45,46,47,48,49,50,51,52,53,54,55,56,57,58,59,60,61,62,63,64,65]
def n8:Plan:=lin [0,4,8,16,20,24,28,36,44,48,52,60,13,33,41,57,65,68,72,76,83]
def kv6 (t:ByteArray):List ByteArray->Nat
 |[]=>0
 |s::l=>(if t=s then 1 else 0)+kv6 t l
theorem kr7 (t:ByteArray):∀ l m:List ByteArray,kv6 t (l++m)=kv6 t l+kv6 t m
 |[],m=>by simp[kv6]
 |s::l,m=>by simp only[Ac,kv6,kr7 t l m];omega
theorem jh8 (t:ByteArray)(l:List ByteArray)(j:Nat)(hj:j<l.length):kv6 t (l.take (j+1))=kv6 t (l.take j)+(if t=l[j] then 1 else 0):=by
 rw[Ba hj,kr7];simp[kv6]
theorem jy2 (t:ByteArray)(l:List ByteArray)(j:Nat):kv6 t (l.take j)<=kv6 t l:=by
 have:=kr7 t (l.take j) (l.drop j);rw[Ev]at this;omega
theorem jj0 (t:ByteArray):∀ l:List ByteArray,kv6 t l<=l.length
 |[]=>As _
 |s::l=>by have:=jj0 t l;simp only[kv6,Ai];split<;>omega
theorem mk7:∀ (ns:List ByteArray) (xs:List Sc.Ent) (f:ByteArray->List Sc.Ent) (s:ByteArray) (x:Sc.Ent),ns.length=xs.length->
 Sc.Cn f (ns++[s]) (xs++[x])=fun t=>if t=s then Sc.Cn f ns xs t++[x] else Sc.Cn f ns xs t
 |[],[],f,s,x,_=>rfl
 |[],_::_,_,_,_,h=>by cases h
 |_::_,[],_,_,_,h=>by cases h
 |n::ns,y::xs,f,s,x,h=>by
  simp only[Ac,Sc.Cn];exact mk7 ns xs _ s x (by simpa using h)
theorem jl2 (ns:List ByteArray)(xs:List Sc.Ent)(f:ByteArray->List Sc.Ent)(h:ns.length=xs.length)(j:Nat)(hj:j<ns.length):
 Sc.Cn f (ns.take (j+1)) (xs.take (j+1))=fun t=>if t=ns[j] then Sc.Cn f (ns.take j) (xs.take j) t++[xs[j]] else Sc.Cn f (ns.take j) (xs.take j) t:=by
 rw[Ba hj,Ba (by omega)];exact mk7 _ _ _ _ _ (by simp;omega)
theorem je2:∀ (ns:List ByteArray) (xs:List Sc.Ent) (f:ByteArray->List Sc.Ent) (t:ByteArray),ns.length=xs.length->∃ l,Sc.Cn f ns xs t=f t++l/\l.length=kv6 t ns
 |[],[],f,t,_=>⟨[],(Bp _).symm,rfl⟩
 |[],_::_,_,_,h=>by cases h
 |_::_,[],_,_,h=>by cases h
 |n::ns,y::xs,f,t,h=>by
  simp only[Sc.Cn];obtain⟨l,h1,h2⟩:=je2 ns xs (fun t=>if t=n then f t++[y] else f t) t (by simpa using h);rw[h1];by_cases ht:t=n
  ·refine⟨y::l,by simp only[Ae ht,Bb,List.singleton_append],by simp only[Ai,kv6,Ae ht,h2];omega⟩
  ·exact⟨l,by simp only[Af ht],by simp only[kv6,Af ht,h2];omega⟩
def Ht (f:ByteArray->List Sc.Ent)(ns:List ByteArray)(t:ByteArray):List Sc.Ent:=(f t).take ((f t).length - kv6 t ns)
theorem jp8 (ns:List ByteArray)(xs:List Sc.Ent)(f:ByteArray->List Sc.Ent)(h:ns.length=xs.length):Ht (Sc.Cn f ns xs) ns=f:=by
 funext t;obtain⟨l,h1,h2⟩:=je2 ns xs f t h;unfold Ht;rw[h1,Ag,h2,Nat.add_sub_cancel,List.take_append_of_le_length (As _),Au]
theorem jy3 (f:ByteArray->List Sc.Ent):Ht f []=f:=by
 funext t;simp[Ht,kv6]
theorem jp9 (ns:List ByteArray)(f:ByteArray->List Sc.Ent)(j:Nat)(hj:j<ns.length):
 Ht f (ns.take (j+1))=fun t=>if t=ns[j] then (Ht f (ns.take j) t).take ((Ht f (ns.take j) t).length - 1) else Ht f (ns.take j) t:=by
 funext t;unfold Ht;rw[jh8 t ns j hj];split
 ·rw[List.take_take,Aj];congr 1;omega
 ·rw[Nat.add_zero]
theorem jb0 (f g:ByteArray->List Sc.Ent)(s:ByteArray)(l:List Sc.Ent)(h:g=fun t=>if t=s then l else f t):Nf (Ig f) s (l.map Ga)=Ig g:=by
 subst h;funext t;unfold Nf Ig;by_cases ht:t=s
 ·simp only[Ae ht]
 ·simp only[Af ht]
def Sc.W.deep (σ:Sc.W)(m:Nat):Prop:=∀ s,(σ.env s).length+m<=1000000000
def pv (p:Pr):List V:=[.d (.int .u8 p.kind),.d (.str p.name),
    .d (.int .u8 p.chan.kind),.d (.int .u8 p.chan.op),.d (.int .u8 p.chan.ty),.d (.int .i32 p.chan.n),.d (.str p.chan.s),.d (.list 6 (p.chan.l.map dEx)),
    .d (.list 6 (p.targets.map dEx)),.d (.list 6 (p.exprs.map dEx)),
    .d (.str p.rep.name),.d (.int .u8 p.rep.base.kind),.d (.int .u8 p.rep.base.op),.d (.int .u8 p.rep.base.ty),.d (.int .i32 p.rep.base.n),.d (.str p.rep.base.s),.d (.list 6 (p.rep.base.l.map dEx)),
    .d (.int .u8 p.rep.count.kind),.d (.int .u8 p.rep.count.op),.d (.int .u8 p.rep.count.ty),.d (.int .i32 p.rep.count.n),.d (.str p.rep.count.s),.d (.list 6 (p.rep.count.l.map dEx)),
    .d (.list 23 (p.guards.map dGu)),.d (.list 42 (p.l.map dPr)),.d (.list 1 (p.procs.map (.int .i64))),
    .d (.int .u8 p.spec.kind),.d (.int .u8 p.spec.type.kind),.d (.int .i64 p.spec.type.dim),.d (.int .u8 p.spec.type.item),.d (.str p.spec.type.proto),.d (.list 1 (p.spec.names.map .str)),
    .d (.int .u8 p.spec.e.kind),.d (.int .u8 p.spec.e.op),.d (.int .u8 p.spec.e.ty),.d (.int .i32 p.spec.e.n),.d (.str p.spec.e.s),.d (.list 6 (p.spec.e.l.map dEx)),
    .d (.bool p.spec.proto.cases),.d (.list 2 (p.spec.proto.l.map dVa)),.d (.list 6 (p.spec.formals.map dFo)),.d (.list 42 (p.spec.body.map dPr))]
def sv (s:Sp):List V:=[.d (.int .u8 s.kind),.d (.int .u8 s.type.kind),.d (.int .i64 s.type.dim),.d (.int .u8 s.type.item),.d (.str s.type.proto),.d (.list 1 (s.names.map .str)),
    .d (.int .u8 s.e.kind),.d (.int .u8 s.e.op),.d (.int .u8 s.e.ty),.d (.int .i32 s.e.n),.d (.str s.e.s),.d (.list 6 (s.e.l.map dEx)),
    .d (.bool s.proto.cases),.d (.list 2 (s.proto.l.map dVa)),.d (.list 6 (s.formals.map dFo)),.d (.list 42 (s.body.map dPr))]
attribute [local irreducible] TR TC
theorem jj1 (gl:List (Nat × List D))(k:Sc.Kind)(σ σ2:Sc.W)(nn:List ByteArray)(xs:List Sc.Ent)(p p2:Pr)(hl:nn.length=xs.length)(hd:σ.deep nn.length)(he:σ2.env=Sc.Cn σ.env nn xs)
 (hdo:FnE prog gl 65 [.ptr 1003 0,.ptr 1002 0] ((1003,.box (pv p))::(1002,.box [.ptr 900 0])::HW k {σ with env:=Sc.Cn σ.env nn xs})
   (fun v H1=>v=.tup []/\H1=(1003,.box (pv p2))::(1002,.box [.ptr 900 0])::HW k σ2)):
 FnE prog gl 64 [.ptr 900 0,.d (.list 1 (nn.map .str)),.d (.list 3 (xs.map Ga)),.clo (.func 65) [] [.ptr 1003 0,.ptr 1002 0]] ((1003,.box (pv p))::(1002,.box [.ptr 900 0])::HW k σ)
  (fun v H1=>v=.tup []/\H1=(1003,.box (pv p2))::(1002,.box [.ptr 900 0])::HW k {σ2 with env:=σ.env}):=by
 unfold Sc.W.deep at hd;have hpl:=fun t=>je2 nn xs σ.env t hl;have hle1:nn.length<=xs.length:=Fq hl;have hle2:xs.length<=nn.length:=Fq hl.symm;clear hl;obtain⟨env,tk,c,ev⟩:=σ;obtain⟨env2,tk2,c2,ev2⟩:=σ2;dsimp only at he hd hpl hdo ⊢;subst he;cases k
 all_goals dsimp only[HW,ja4,n6]at hdo ⊢
 case free=>
  (refine j4 func64 ntmps64 results64 fun w M E b0=>?_)
  refine r7 1 rfl fun hn=>?_;simp only[Aa]at hn
  (repeat' first|refine yyp ?_;try refine Cc ?_ ?_<;>intro hb|refine yy ?_|refine at_nil ?_;refine Ce Ij ?_|refine Cb fun K hK=>?_|refine Ck 3 ?_;refine j1 [16,17] (Cm [0,4,8,16,20,24,28,36,44,48,52,33,41,57] (.two 3 (lin [62,67,71]) 15 (.mid 3 (lin [67,71]) 16 (lin [13,71])))) ?_|refine Ck 9 ?_;refine j1 [20] n8 ?_|apply_assumption -exfalso -symm)
  refine j8 kn4 [901] (fun j:Nat=>[(14,.d (.int .i64 j))]) (fun j=>[(901,.smap 120 3 (Ig (Sc.Cn env (nn.take j) (xs.take j))) none)]) (fun j=>j<=nn.length) (fun j=>nn.length - j) 0 (Ak _) fun j hj=>?_;dsimp only[Ac,Ad];rcases Ah j nn.length with hj2|hj2
  ·have hj3:j<xs.length:=by omega
   have hlen:(Sc.Cn env (nn.take j) (xs.take j) nn[j]).length<=1000000000 - 1:=by
    obtain⟨l,h1,h2⟩:=je2 (nn.take j) (xs.take j) env nn[j] (by simp;omega);have h3:=jj0 nn[j] (nn.take j);have h4:=hd nn[j];rw[h1,Ag,h2];rw[Aj]at h3;omega
   have key:Nf (Ig (Sc.Cn env (nn.take j) (xs.take j))) nn[j] ((Sc.Cn env (nn.take j) (xs.take j) nn[j]).map Ga++[Ga xs[j]])=Ig (Sc.Cn env (nn.take (j+1)) (xs.take (j+1))):=by
    rw[jl2 nn xs env (by omega) j hj2];have:=jb0 (Sc.Cn env (nn.take j) (xs.take j)) _ nn[j] (Sc.Cn env (nn.take j) (xs.take j) nn[j]++[xs[j]]) rfl;rw[Ap]at this;refine this.trans ?_;congr 1;funext t;by_cases ht:t=nn[j]
    ·simp only[Ae ht];rw[ht]
    ·simp only[Af ht]
   (repeat' first|refine Ca 29 ?_;(refine jf4 950 ?_)|refine Ca 34 ?_;(refine Dh 34 ?_)|refine jr6 17 ?_;(refine jn3 ?_)|refine yyp ?_;try refine Cc ?_ ?_<;>intro hb|refine yy ?_|(refine Cq ?_;first|(refine Cs (fun kv=>?_))|(refine z_append_suf (fun sx sp kv hsx hsp hsl=>?_)))|refine at_nil ?_;refine Ce Ij ?_|refine Oh ?_ ?_|refine n9 ?_ ?_|refine Cb fun K hK=>?_|refine Ck 3 ?_;refine j1 [16,17] (Cm [0,4,8,16,20,24,28,36,44,48,52,33,41,57] (.two 3 (lin [62,67,71]) 15 (.mid 3 (lin [67,71]) 16 (lin [13,71])))) ?_|refine Ck 9 ?_;refine j1 [20] n8 ?_|apply_assumption -exfalso -symm)
   all_goals
    refine⟨j+1,by omega,by omega,?_⟩;rw[<-key];exact v6
  rw[Ao hj2,Ao (show xs.length<=j by omega)]
  (repeat' first|refine Ca 38 ?_;refine Ch (hc:=hdo) ?_|refine yyp ?_;try refine Cc ?_ ?_<;>intro hb|refine yy ?_|refine at_nil ?_;refine Ce Ij ?_|refine Cb fun K hK=>?_|refine Ck 3 ?_;refine j1 [16,17] (Cm [0,4,8,16,20,24,28,36,44,48,52,33,41,57] (.two 3 (lin [62,67,71]) 15 (.mid 3 (lin [67,71]) 16 (lin [13,71])))) ?_|refine Ck 9 ?_;refine j1 [20] n8 ?_|apply_assumption -exfalso -symm)
  rw[show Ig (Sc.Cn env nn xs)=Ig (Ht (Sc.Cn env nn xs) (nn.take 0)) by rw[Fd,jy3]];refine j8 kn5 [901] (fun j:Nat=>[(41,.d (.int .i64 j))]) (fun j=>[(901,.smap 120 3 (Ig (Ht (Sc.Cn env nn xs) (nn.take j))) none)]) (fun j=>j<=nn.length) (fun j=>nn.length - j) 0 (Ak _) fun j hj=>?_;dsimp only[Ac,Ad];rcases Ah j nn.length with hj2|hj2
  ·have hlen:1<=(Ht (Sc.Cn env nn xs) (nn.take j) nn[j]).length:=by
    obtain⟨l,h1,h2⟩:=hpl nn[j];have h3:=jh8 nn[j] nn j hj2;rw[Ae rfl]at h3;have h4:=jy2 nn[j] nn (j+1);unfold Ht;rw[h1,Aj,Ag,h2];omega
   have key:Nf (Ig (Ht (Sc.Cn env nn xs) (nn.take j))) nn[j] (((Ht (Sc.Cn env nn xs) (nn.take j) nn[j]).map Ga).take ((Ht (Sc.Cn env nn xs) (nn.take j) nn[j]).length - 1))=Ig (Ht (Sc.Cn env nn xs) (nn.take (j+1))):=by
    rw[jp9 nn _ j hj2,<-Ep];refine(jb0 (Ht (Sc.Cn env nn xs) (nn.take j)) _ nn[j] _ rfl).trans ?_;congr 1;funext t;by_cases ht:t=nn[j]
    ·simp only[Ae ht];rw[ht]
    ·simp only[Af ht]
   (repeat' first|refine Ca 55 ?_;(refine jf4 950 ?_;refine jd0 950 rfl fun hsm=>?_;simp only[Aa]at hsm)|refine Ca 61 ?_;(refine jp7 ?_)|refine Ca 64 ?_;(refine jx6 (m:=(Ht (Sc.Cn env nn xs) (nn.take j) nn[j]).length - 1) (em:=by first|omega|(simp only[Ig,Aa];omega)) (hm:=by first|omega|(simp only[Ig,Aa];omega)) fun k1=>?_)|refine jr6 20 ?_;(refine jn3 ?_)|refine yyp ?_;try refine Cc ?_ ?_<;>intro hb|refine yy ?_|refine at_nil ?_;refine Ce Ij ?_|refine Cb fun K hK=>?_|refine Ck 3 ?_;refine j1 [16,17] (Cm [0,4,8,16,20,24,28,36,44,48,52,33,41,57] (.two 3 (lin [62,67,71]) 15 (.mid 3 (lin [67,71]) 16 (lin [13,71])))) ?_|refine Ck 9 ?_;refine j1 [20] n8 ?_|apply_assumption -exfalso -symm)
   all_goals
    refine⟨j+1,by omega,by omega,?_⟩;rw[<-key];exact v6
  rw[Ao hj2,jp8 nn xs env (by omega)]
  (repeat' first|refine yyp ?_;try refine Cc ?_ ?_<;>intro hb|refine yy ?_|refine at_nil ?_;refine Ce Ij ?_|refine Cb fun K hK=>?_|refine Ck 3 ?_;refine j1 [16,17] (Cm [0,4,8,16,20,24,28,36,44,48,52,33,41,57] (.two 3 (lin [62,67,71]) 15 (.mid 3 (lin [67,71]) 16 (lin [13,71])))) ?_|refine Ck 9 ?_;refine j1 [20] n8 ?_|apply_assumption -exfalso -symm)
  all_goals first
   |exact je0 ⟨rfl,rfl⟩
   |(dsimp only[Exit.Mq,Exit.Mh];exact je0 ⟨rfl,rfl⟩)
 case check ns=>
  (refine j4 func64 ntmps64 results64 fun w M E b0=>?_)
  refine r7 1 rfl fun hn=>?_;simp only[Aa]at hn
  (repeat' first|refine yyp ?_;try refine Cc ?_ ?_<;>intro hb|refine yy ?_|refine at_nil ?_;refine Ce Ij ?_|refine Cb fun K hK=>?_|refine Ck 3 ?_;refine j1 [16,17] (Cm [0,4,8,16,20,24,28,36,44,48,52,33,41,57] (.two 3 (lin [62,67,71]) 15 (.mid 3 (lin [67,71]) 16 (lin [13,71])))) ?_|refine Ck 9 ?_;refine j1 [20] n8 ?_|apply_assumption -exfalso -symm)
  refine j8 kn4 [901] (fun j:Nat=>[(14,.d (.int .i64 j))]) (fun j=>[(901,.smap 120 3 (Ig (Sc.Cn env (nn.take j) (xs.take j))) none)]) (fun j=>j<=nn.length) (fun j=>nn.length - j) 0 (Ak _) fun j hj=>?_;dsimp only[Ac,Ad];rcases Ah j nn.length with hj2|hj2
  ·have hj3:j<xs.length:=by omega
   have hlen:(Sc.Cn env (nn.take j) (xs.take j) nn[j]).length<=1000000000 - 1:=by
    obtain⟨l,h1,h2⟩:=je2 (nn.take j) (xs.take j) env nn[j] (by simp;omega);have h3:=jj0 nn[j] (nn.take j);have h4:=hd nn[j];rw[h1,Ag,h2];rw[Aj]at h3;omega
   have key:Nf (Ig (Sc.Cn env (nn.take j) (xs.take j))) nn[j] ((Sc.Cn env (nn.take j) (xs.take j) nn[j]).map Ga++[Ga xs[j]])=Ig (Sc.Cn env (nn.take (j+1)) (xs.take (j+1))):=by
    rw[jl2 nn xs env (by omega) j hj2];have:=jb0 (Sc.Cn env (nn.take j) (xs.take j)) _ nn[j] (Sc.Cn env (nn.take j) (xs.take j) nn[j]++[xs[j]]) rfl;rw[Ap]at this;refine this.trans ?_;congr 1;funext t;by_cases ht:t=nn[j]
    ·simp only[Ae ht];rw[ht]
    ·simp only[Af ht]
   (repeat' first|refine Ca 29 ?_;(refine jf4 950 ?_)|refine Ca 34 ?_;(refine Dh 34 ?_)|refine jr6 17 ?_;(refine jn3 ?_)|refine yyp ?_;try refine Cc ?_ ?_<;>intro hb|refine yy ?_|(refine Cq ?_;first|(refine Cs (fun kv=>?_))|(refine z_append_suf (fun sx sp kv hsx hsp hsl=>?_)))|refine at_nil ?_;refine Ce Ij ?_|refine Oh ?_ ?_|refine n9 ?_ ?_|refine Cb fun K hK=>?_|refine Ck 3 ?_;refine j1 [16,17] (Cm [0,4,8,16,20,24,28,36,44,48,52,33,41,57] (.two 3 (lin [62,67,71]) 15 (.mid 3 (lin [67,71]) 16 (lin [13,71])))) ?_|refine Ck 9 ?_;refine j1 [20] n8 ?_|apply_assumption -exfalso -symm)
   all_goals
    refine⟨j+1,by omega,by omega,?_⟩;rw[<-key];exact v6
  rw[Ao hj2,Ao (show xs.length<=j by omega)]
  (repeat' first|refine Ca 38 ?_;refine Ch (hc:=hdo) ?_|refine yyp ?_;try refine Cc ?_ ?_<;>intro hb|refine yy ?_|refine at_nil ?_;refine Ce Ij ?_|refine Cb fun K hK=>?_|refine Ck 3 ?_;refine j1 [16,17] (Cm [0,4,8,16,20,24,28,36,44,48,52,33,41,57] (.two 3 (lin [62,67,71]) 15 (.mid 3 (lin [67,71]) 16 (lin [13,71])))) ?_|refine Ck 9 ?_;refine j1 [20] n8 ?_|apply_assumption -exfalso -symm)
  rw[show Ig (Sc.Cn env nn xs)=Ig (Ht (Sc.Cn env nn xs) (nn.take 0)) by rw[Fd,jy3]];refine j8 kn5 [901] (fun j:Nat=>[(41,.d (.int .i64 j))]) (fun j=>[(901,.smap 120 3 (Ig (Ht (Sc.Cn env nn xs) (nn.take j))) none)]) (fun j=>j<=nn.length) (fun j=>nn.length - j) 0 (Ak _) fun j hj=>?_;dsimp only[Ac,Ad];rcases Ah j nn.length with hj2|hj2
  ·have hlen:1<=(Ht (Sc.Cn env nn xs) (nn.take j) nn[j]).length:=by
    obtain⟨l,h1,h2⟩:=hpl nn[j];have h3:=jh8 nn[j] nn j hj2;rw[Ae rfl]at h3;have h4:=jy2 nn[j] nn (j+1);unfold Ht;rw[h1,Aj,Ag,h2];omega
   have key:Nf (Ig (Ht (Sc.Cn env nn xs) (nn.take j))) nn[j] (((Ht (Sc.Cn env nn xs) (nn.take j) nn[j]).map Ga).take ((Ht (Sc.Cn env nn xs) (nn.take j) nn[j]).length - 1))=Ig (Ht (Sc.Cn env nn xs) (nn.take (j+1))):=by
    rw[jp9 nn _ j hj2,<-Ep];refine(jb0 (Ht (Sc.Cn env nn xs) (nn.take j)) _ nn[j] _ rfl).trans ?_;congr 1;funext t;by_cases ht:t=nn[j]
    ·simp only[Ae ht];rw[ht]
    ·simp only[Af ht]
   (repeat' first|refine Ca 55 ?_;(refine jf4 950 ?_;refine jd0 950 rfl fun hsm=>?_;simp only[Aa]at hsm)|refine Ca 61 ?_;(refine jp7 ?_)|refine Ca 64 ?_;(refine jx6 (m:=(Ht (Sc.Cn env nn xs) (nn.take j) nn[j]).length - 1) (em:=by first|omega|(simp only[Ig,Aa];omega)) (hm:=by first|omega|(simp only[Ig,Aa];omega)) fun k1=>?_)|refine jr6 20 ?_;(refine jn3 ?_)|refine yyp ?_;try refine Cc ?_ ?_<;>intro hb|refine yy ?_|refine at_nil ?_;refine Ce Ij ?_|refine Cb fun K hK=>?_|refine Ck 3 ?_;refine j1 [16,17] (Cm [0,4,8,16,20,24,28,36,44,48,52,33,41,57] (.two 3 (lin [62,67,71]) 15 (.mid 3 (lin [67,71]) 16 (lin [13,71])))) ?_|refine Ck 9 ?_;refine j1 [20] n8 ?_|apply_assumption -exfalso -symm)
   all_goals
    refine⟨j+1,by omega,by omega,?_⟩;rw[<-key];exact v6
  rw[Ao hj2,jp8 nn xs env (by omega)]
  (repeat' first|refine yyp ?_;try refine Cc ?_ ?_<;>intro hb|refine yy ?_|refine at_nil ?_;refine Ce Ij ?_|refine Cb fun K hK=>?_|refine Ck 3 ?_;refine j1 [16,17] (Cm [0,4,8,16,20,24,28,36,44,48,52,33,41,57] (.two 3 (lin [62,67,71]) 15 (.mid 3 (lin [67,71]) 16 (lin [13,71])))) ?_|refine Ck 9 ?_;refine j1 [20] n8 ?_|apply_assumption -exfalso -symm)
  all_goals first
   |exact je0 ⟨rfl,rfl⟩
   |(dsimp only[Exit.Mq,Exit.Mh];exact je0 ⟨rfl,rfl⟩)
 case none=>
  (refine j4 func64 ntmps64 results64 fun w M E b0=>?_)
  refine r7 1 rfl fun hn=>?_;simp only[Aa]at hn
  (repeat' first|refine yyp ?_;try refine Cc ?_ ?_<;>intro hb|refine yy ?_|refine at_nil ?_;refine Ce Ij ?_|refine Cb fun K hK=>?_|refine Ck 3 ?_;refine j1 [16,17] (Cm [0,4,8,16,20,24,28,36,44,48,52,33,41,57] (.two 3 (lin [62,67,71]) 15 (.mid 3 (lin [67,71]) 16 (lin [13,71])))) ?_|refine Ck 9 ?_;refine j1 [20] n8 ?_|apply_assumption -exfalso -symm)
  refine j8 kn4 [901] (fun j:Nat=>[(14,.d (.int .i64 j))]) (fun j=>[(901,.smap 120 3 (Ig (Sc.Cn env (nn.take j) (xs.take j))) none)]) (fun j=>j<=nn.length) (fun j=>nn.length - j) 0 (Ak _) fun j hj=>?_;dsimp only[Ac,Ad];rcases Ah j nn.length with hj2|hj2
  ·have hj3:j<xs.length:=by omega
   have hlen:(Sc.Cn env (nn.take j) (xs.take j) nn[j]).length<=1000000000 - 1:=by
    obtain⟨l,h1,h2⟩:=je2 (nn.take j) (xs.take j) env nn[j] (by simp;omega);have h3:=jj0 nn[j] (nn.take j);have h4:=hd nn[j];rw[h1,Ag,h2];rw[Aj]at h3;omega
   have key:Nf (Ig (Sc.Cn env (nn.take j) (xs.take j))) nn[j] ((Sc.Cn env (nn.take j) (xs.take j) nn[j]).map Ga++[Ga xs[j]])=Ig (Sc.Cn env (nn.take (j+1)) (xs.take (j+1))):=by
    rw[jl2 nn xs env (by omega) j hj2];have:=jb0 (Sc.Cn env (nn.take j) (xs.take j)) _ nn[j] (Sc.Cn env (nn.take j) (xs.take j) nn[j]++[xs[j]]) rfl;rw[Ap]at this;refine this.trans ?_;congr 1;funext t;by_cases ht:t=nn[j]
    ·simp only[Ae ht];rw[ht]
    ·simp only[Af ht]
   (repeat' first|refine Ca 29 ?_;(refine jf4 950 ?_)|refine Ca 34 ?_;(refine Dh 34 ?_)|refine jr6 17 ?_;(refine jn3 ?_)|refine yyp ?_;try refine Cc ?_ ?_<;>intro hb|refine yy ?_|(refine Cq ?_;first|(refine Cs (fun kv=>?_))|(refine z_append_suf (fun sx sp kv hsx hsp hsl=>?_)))|refine at_nil ?_;refine Ce Ij ?_|refine Oh ?_ ?_|refine n9 ?_ ?_|refine Cb fun K hK=>?_|refine Ck 3 ?_;refine j1 [16,17] (Cm [0,4,8,16,20,24,28,36,44,48,52,33,41,57] (.two 3 (lin [62,67,71]) 15 (.mid 3 (lin [67,71]) 16 (lin [13,71])))) ?_|refine Ck 9 ?_;refine j1 [20] n8 ?_|apply_assumption -exfalso -symm)
   all_goals
    refine⟨j+1,by omega,by omega,?_⟩;rw[<-key];exact v6
  rw[Ao hj2,Ao (show xs.length<=j by omega)]
  (repeat' first|refine Ca 38 ?_;refine Ch (hc:=hdo) ?_|refine yyp ?_;try refine Cc ?_ ?_<;>intro hb|refine yy ?_|refine at_nil ?_;refine Ce Ij ?_|refine Cb fun K hK=>?_|refine Ck 3 ?_;refine j1 [16,17] (Cm [0,4,8,16,20,24,28,36,44,48,52,33,41,57] (.two 3 (lin [62,67,71]) 15 (.mid 3 (lin [67,71]) 16 (lin [13,71])))) ?_|refine Ck 9 ?_;refine j1 [20] n8 ?_|apply_assumption -exfalso -symm)
  rw[show Ig (Sc.Cn env nn xs)=Ig (Ht (Sc.Cn env nn xs) (nn.take 0)) by rw[Fd,jy3]];refine j8 kn5 [901] (fun j:Nat=>[(41,.d (.int .i64 j))]) (fun j=>[(901,.smap 120 3 (Ig (Ht (Sc.Cn env nn xs) (nn.take j))) none)]) (fun j=>j<=nn.length) (fun j=>nn.length - j) 0 (Ak _) fun j hj=>?_;dsimp only[Ac,Ad];rcases Ah j nn.length with hj2|hj2
  ·have hlen:1<=(Ht (Sc.Cn env nn xs) (nn.take j) nn[j]).length:=by
    obtain⟨l,h1,h2⟩:=hpl nn[j];have h3:=jh8 nn[j] nn j hj2;rw[Ae rfl]at h3;have h4:=jy2 nn[j] nn (j+1);unfold Ht;rw[h1,Aj,Ag,h2];omega
   have key:Nf (Ig (Ht (Sc.Cn env nn xs) (nn.take j))) nn[j] (((Ht (Sc.Cn env nn xs) (nn.take j) nn[j]).map Ga).take ((Ht (Sc.Cn env nn xs) (nn.take j) nn[j]).length - 1))=Ig (Ht (Sc.Cn env nn xs) (nn.take (j+1))):=by
    rw[jp9 nn _ j hj2,<-Ep];refine(jb0 (Ht (Sc.Cn env nn xs) (nn.take j)) _ nn[j] _ rfl).trans ?_;congr 1;funext t;by_cases ht:t=nn[j]
    ·simp only[Ae ht];rw[ht]
    ·simp only[Af ht]
   (repeat' first|refine Ca 55 ?_;(refine jf4 950 ?_;refine jd0 950 rfl fun hsm=>?_;simp only[Aa]at hsm)|refine Ca 61 ?_;(refine jp7 ?_)|refine Ca 64 ?_;(refine jx6 (m:=(Ht (Sc.Cn env nn xs) (nn.take j) nn[j]).length - 1) (em:=by first|omega|(simp only[Ig,Aa];omega)) (hm:=by first|omega|(simp only[Ig,Aa];omega)) fun k1=>?_)|refine jr6 20 ?_;(refine jn3 ?_)|refine yyp ?_;try refine Cc ?_ ?_<;>intro hb|refine yy ?_|refine at_nil ?_;refine Ce Ij ?_|refine Cb fun K hK=>?_|refine Ck 3 ?_;refine j1 [16,17] (Cm [0,4,8,16,20,24,28,36,44,48,52,33,41,57] (.two 3 (lin [62,67,71]) 15 (.mid 3 (lin [67,71]) 16 (lin [13,71])))) ?_|refine Ck 9 ?_;refine j1 [20] n8 ?_|apply_assumption -exfalso -symm)
   all_goals
    refine⟨j+1,by omega,by omega,?_⟩;rw[<-key];exact v6
  rw[Ao hj2,jp8 nn xs env (by omega)]
  (repeat' first|refine yyp ?_;try refine Cc ?_ ?_<;>intro hb|refine yy ?_|refine at_nil ?_;refine Ce Ij ?_|refine Cb fun K hK=>?_|refine Ck 3 ?_;refine j1 [16,17] (Cm [0,4,8,16,20,24,28,36,44,48,52,33,41,57] (.two 3 (lin [62,67,71]) 15 (.mid 3 (lin [67,71]) 16 (lin [13,71])))) ?_|refine Ck 9 ?_;refine j1 [20] n8 ?_|apply_assumption -exfalso -symm)
  all_goals first
   |exact je0 ⟨rfl,rfl⟩
   |(dsimp only[Exit.Mq,Exit.Mh];exact je0 ⟨rfl,rfl⟩)
theorem qp5 (gl:List (Nat × List D))(k:Sc.Kind)(σ σ2:Sc.W)(nn:List ByteArray)(xs:List Sc.Ent)(p p2:Sp)(hl:nn.length=xs.length)(hd:σ.deep nn.length)(he:σ2.env=Sc.Cn σ.env nn xs)
 (hdo:FnE prog gl 104 [.ptr 1003 0,.ptr 1002 0] ((1003,.box (sv p))::(1002,.box [.ptr 900 0])::HW k {σ with env:=Sc.Cn σ.env nn xs})
   (fun v H1=>v=.tup []/\H1=(1003,.box (sv p2))::(1002,.box [.ptr 900 0])::HW k σ2)):
 FnE prog gl 64 [.ptr 900 0,.d (.list 1 (nn.map .str)),.d (.list 3 (xs.map Ga)),.clo (.func 104) [] [.ptr 1003 0,.ptr 1002 0]] ((1003,.box (sv p))::(1002,.box [.ptr 900 0])::HW k σ)
  (fun v H1=>v=.tup []/\H1=(1003,.box (sv p2))::(1002,.box [.ptr 900 0])::HW k {σ2 with env:=σ.env}):=by
 unfold Sc.W.deep at hd;have hpl:=fun t=>je2 nn xs σ.env t hl;have hle1:nn.length<=xs.length:=Fq hl;have hle2:xs.length<=nn.length:=Fq hl.symm;clear hl;obtain⟨env,tk,c,ev⟩:=σ;obtain⟨env2,tk2,c2,ev2⟩:=σ2;dsimp only at he hd hpl hdo ⊢;subst he;cases k
 all_goals dsimp only[HW,ja4,n6]at hdo ⊢
 case free=>
  (refine j4 func64 ntmps64 results64 fun w M E b0=>?_)
  refine r7 1 rfl fun hn=>?_;simp only[Aa]at hn
  (repeat' first|refine yyp ?_;try refine Cc ?_ ?_<;>intro hb|refine yy ?_|refine at_nil ?_;refine Ce Ij ?_|refine Cb fun K hK=>?_|refine Ck 3 ?_;refine j1 [16,17] (Cm [0,4,8,16,20,24,28,36,44,48,52,33,41,57] (.two 3 (lin [62,67,71]) 15 (.mid 3 (lin [67,71]) 16 (lin [13,71])))) ?_|refine Ck 9 ?_;refine j1 [20] n8 ?_|apply_assumption -exfalso -symm)
  refine j8 kn4 [901] (fun j:Nat=>[(14,.d (.int .i64 j))]) (fun j=>[(901,.smap 120 3 (Ig (Sc.Cn env (nn.take j) (xs.take j))) none)]) (fun j=>j<=nn.length) (fun j=>nn.length - j) 0 (Ak _) fun j hj=>?_;dsimp only[Ac,Ad];rcases Ah j nn.length with hj2|hj2
  ·have hj3:j<xs.length:=by omega
   have hlen:(Sc.Cn env (nn.take j) (xs.take j) nn[j]).length<=1000000000 - 1:=by
    obtain⟨l,h1,h2⟩:=je2 (nn.take j) (xs.take j) env nn[j] (by simp;omega);have h3:=jj0 nn[j] (nn.take j);have h4:=hd nn[j];rw[h1,Ag,h2];rw[Aj]at h3;omega
   have key:Nf (Ig (Sc.Cn env (nn.take j) (xs.take j))) nn[j] ((Sc.Cn env (nn.take j) (xs.take j) nn[j]).map Ga++[Ga xs[j]])=Ig (Sc.Cn env (nn.take (j+1)) (xs.take (j+1))):=by
    rw[jl2 nn xs env (by omega) j hj2];have:=jb0 (Sc.Cn env (nn.take j) (xs.take j)) _ nn[j] (Sc.Cn env (nn.take j) (xs.take j) nn[j]++[xs[j]]) rfl;rw[Ap]at this;refine this.trans ?_;congr 1;funext t;by_cases ht:t=nn[j]
    ·simp only[Ae ht];rw[ht]
    ·simp only[Af ht]
   (repeat' first|refine Ca 29 ?_;(refine jf4 950 ?_)|refine Ca 34 ?_;(refine Dh 34 ?_)|refine jr6 17 ?_;(refine jn3 ?_)|refine yyp ?_;try refine Cc ?_ ?_<;>intro hb|refine yy ?_|(refine Cq ?_;first|(refine Cs (fun kv=>?_))|(refine z_append_suf (fun sx sp kv hsx hsp hsl=>?_)))|refine at_nil ?_;refine Ce Ij ?_|refine Oh ?_ ?_|refine n9 ?_ ?_|refine Cb fun K hK=>?_|refine Ck 3 ?_;refine j1 [16,17] (Cm [0,4,8,16,20,24,28,36,44,48,52,33,41,57] (.two 3 (lin [62,67,71]) 15 (.mid 3 (lin [67,71]) 16 (lin [13,71])))) ?_|refine Ck 9 ?_;refine j1 [20] n8 ?_|apply_assumption -exfalso -symm)
   all_goals
    refine⟨j+1,by omega,by omega,?_⟩;rw[<-key];exact v6
  rw[Ao hj2,Ao (show xs.length<=j by omega)]
  (repeat' first|refine Ca 38 ?_;refine Ch (hc:=hdo) ?_|refine yyp ?_;try refine Cc ?_ ?_<;>intro hb|refine yy ?_|refine at_nil ?_;refine Ce Ij ?_|refine Cb fun K hK=>?_|refine Ck 3 ?_;refine j1 [16,17] (Cm [0,4,8,16,20,24,28,36,44,48,52,33,41,57] (.two 3 (lin [62,67,71]) 15 (.mid 3 (lin [67,71]) 16 (lin [13,71])))) ?_|refine Ck 9 ?_;refine j1 [20] n8 ?_|apply_assumption -exfalso -symm)
  rw[show Ig (Sc.Cn env nn xs)=Ig (Ht (Sc.Cn env nn xs) (nn.take 0)) by rw[Fd,jy3]];refine j8 kn5 [901] (fun j:Nat=>[(41,.d (.int .i64 j))]) (fun j=>[(901,.smap 120 3 (Ig (Ht (Sc.Cn env nn xs) (nn.take j))) none)]) (fun j=>j<=nn.length) (fun j=>nn.length - j) 0 (Ak _) fun j hj=>?_;dsimp only[Ac,Ad];rcases Ah j nn.length with hj2|hj2
  ·have hlen:1<=(Ht (Sc.Cn env nn xs) (nn.take j) nn[j]).length:=by
    obtain⟨l,h1,h2⟩:=hpl nn[j];have h3:=jh8 nn[j] nn j hj2;rw[Ae rfl]at h3;have h4:=jy2 nn[j] nn (j+1);unfold Ht;rw[h1,Aj,Ag,h2];omega
   have key:Nf (Ig (Ht (Sc.Cn env nn xs) (nn.take j))) nn[j] (((Ht (Sc.Cn env nn xs) (nn.take j) nn[j]).map Ga).take ((Ht (Sc.Cn env nn xs) (nn.take j) nn[j]).length - 1))=Ig (Ht (Sc.Cn env nn xs) (nn.take (j+1))):=by
    rw[jp9 nn _ j hj2,<-Ep];refine(jb0 (Ht (Sc.Cn env nn xs) (nn.take j)) _ nn[j] _ rfl).trans ?_;congr 1;funext t;by_cases ht:t=nn[j]
    ·simp only[Ae ht];rw[ht]
    ·simp only[Af ht]
   (repeat' first|refine Ca 55 ?_;(refine jf4 950 ?_;refine jd0 950 rfl fun hsm=>?_;simp only[Aa]at hsm)|refine Ca 61 ?_;(refine jp7 ?_)|refine Ca 64 ?_;(refine jx6 (m:=(Ht (Sc.Cn env nn xs) (nn.take j) nn[j]).length - 1) (em:=by first|omega|(simp only[Ig,Aa];omega)) (hm:=by first|omega|(simp only[Ig,Aa];omega)) fun k1=>?_)|refine jr6 20 ?_;(refine jn3 ?_)|refine yyp ?_;try refine Cc ?_ ?_<;>intro hb|refine yy ?_|refine at_nil ?_;refine Ce Ij ?_|refine Cb fun K hK=>?_|refine Ck 3 ?_;refine j1 [16,17] (Cm [0,4,8,16,20,24,28,36,44,48,52,33,41,57] (.two 3 (lin [62,67,71]) 15 (.mid 3 (lin [67,71]) 16 (lin [13,71])))) ?_|refine Ck 9 ?_;refine j1 [20] n8 ?_|apply_assumption -exfalso -symm)
   all_goals
    refine⟨j+1,by omega,by omega,?_⟩;rw[<-key];exact v6
  rw[Ao hj2,jp8 nn xs env (by omega)]
  (repeat' first|refine yyp ?_;try refine Cc ?_ ?_<;>intro hb|refine yy ?_|refine at_nil ?_;refine Ce Ij ?_|refine Cb fun K hK=>?_|refine Ck 3 ?_;refine j1 [16,17] (Cm [0,4,8,16,20,24,28,36,44,48,52,33,41,57] (.two 3 (lin [62,67,71]) 15 (.mid 3 (lin [67,71]) 16 (lin [13,71])))) ?_|refine Ck 9 ?_;refine j1 [20] n8 ?_|apply_assumption -exfalso -symm)
  all_goals first
   |exact je0 ⟨rfl,rfl⟩
   |(dsimp only[Exit.Mq,Exit.Mh];exact je0 ⟨rfl,rfl⟩)
 case check ns=>
  (refine j4 func64 ntmps64 results64 fun w M E b0=>?_)
  refine r7 1 rfl fun hn=>?_;simp only[Aa]at hn
  (repeat' first|refine yyp ?_;try refine Cc ?_ ?_<;>intro hb|refine yy ?_|refine at_nil ?_;refine Ce Ij ?_|refine Cb fun K hK=>?_|refine Ck 3 ?_;refine j1 [16,17] (Cm [0,4,8,16,20,24,28,36,44,48,52,33,41,57] (.two 3 (lin [62,67,71]) 15 (.mid 3 (lin [67,71]) 16 (lin [13,71])))) ?_|refine Ck 9 ?_;refine j1 [20] n8 ?_|apply_assumption -exfalso -symm)
  refine j8 kn4 [901] (fun j:Nat=>[(14,.d (.int .i64 j))]) (fun j=>[(901,.smap 120 3 (Ig (Sc.Cn env (nn.take j) (xs.take j))) none)]) (fun j=>j<=nn.length) (fun j=>nn.length - j) 0 (Ak _) fun j hj=>?_;dsimp only[Ac,Ad];rcases Ah j nn.length with hj2|hj2
  ·have hj3:j<xs.length:=by omega
   have hlen:(Sc.Cn env (nn.take j) (xs.take j) nn[j]).length<=1000000000 - 1:=by
    obtain⟨l,h1,h2⟩:=je2 (nn.take j) (xs.take j) env nn[j] (by simp;omega);have h3:=jj0 nn[j] (nn.take j);have h4:=hd nn[j];rw[h1,Ag,h2];rw[Aj]at h3;omega
   have key:Nf (Ig (Sc.Cn env (nn.take j) (xs.take j))) nn[j] ((Sc.Cn env (nn.take j) (xs.take j) nn[j]).map Ga++[Ga xs[j]])=Ig (Sc.Cn env (nn.take (j+1)) (xs.take (j+1))):=by
    rw[jl2 nn xs env (by omega) j hj2];have:=jb0 (Sc.Cn env (nn.take j) (xs.take j)) _ nn[j] (Sc.Cn env (nn.take j) (xs.take j) nn[j]++[xs[j]]) rfl;rw[Ap]at this;refine this.trans ?_;congr 1;funext t;by_cases ht:t=nn[j]
    ·simp only[Ae ht];rw[ht]
    ·simp only[Af ht]
   (repeat' first|refine Ca 29 ?_;(refine jf4 950 ?_)|refine Ca 34 ?_;(refine Dh 34 ?_)|refine jr6 17 ?_;(refine jn3 ?_)|refine yyp ?_;try refine Cc ?_ ?_<;>intro hb|refine yy ?_|(refine Cq ?_;first|(refine Cs (fun kv=>?_))|(refine z_append_suf (fun sx sp kv hsx hsp hsl=>?_)))|refine at_nil ?_;refine Ce Ij ?_|refine Oh ?_ ?_|refine n9 ?_ ?_|refine Cb fun K hK=>?_|refine Ck 3 ?_;refine j1 [16,17] (Cm [0,4,8,16,20,24,28,36,44,48,52,33,41,57] (.two 3 (lin [62,67,71]) 15 (.mid 3 (lin [67,71]) 16 (lin [13,71])))) ?_|refine Ck 9 ?_;refine j1 [20] n8 ?_|apply_assumption -exfalso -symm)
   all_goals
    refine⟨j+1,by omega,by omega,?_⟩;rw[<-key];exact v6
  rw[Ao hj2,Ao (show xs.length<=j by omega)]
  (repeat' first|refine Ca 38 ?_;refine Ch (hc:=hdo) ?_|refine yyp ?_;try refine Cc ?_ ?_<;>intro hb|refine yy ?_|refine at_nil ?_;refine Ce Ij ?_|refine Cb fun K hK=>?_|refine Ck 3 ?_;refine j1 [16,17] (Cm [0,4,8,16,20,24,28,36,44,48,52,33,41,57] (.two 3 (lin [62,67,71]) 15 (.mid 3 (lin [67,71]) 16 (lin [13,71])))) ?_|refine Ck 9 ?_;refine j1 [20] n8 ?_|apply_assumption -exfalso -symm)
  rw[show Ig (Sc.Cn env nn xs)=Ig (Ht (Sc.Cn env nn xs) (nn.take 0)) by rw[Fd,jy3]];refine j8 kn5 [901] (fun j:Nat=>[(41,.d (.int .i64 j))]) (fun j=>[(901,.smap 120 3 (Ig (Ht (Sc.Cn env nn xs) (nn.take j))) none)]) (fun j=>j<=nn.length) (fun j=>nn.length - j) 0 (Ak _) fun j hj=>?_;dsimp only[Ac,Ad];rcases Ah j nn.length with hj2|hj2
  ·have hlen:1<=(Ht (Sc.Cn env nn xs) (nn.take j) nn[j]).length:=by
    obtain⟨l,h1,h2⟩:=hpl nn[j];have h3:=jh8 nn[j] nn j hj2;rw[Ae rfl]at h3;have h4:=jy2 nn[j] nn (j+1);unfold Ht;rw[h1,Aj,Ag,h2];omega
   have key:Nf (Ig (Ht (Sc.Cn env nn xs) (nn.take j))) nn[j] (((Ht (Sc.Cn env nn xs) (nn.take j) nn[j]).map Ga).take ((Ht (Sc.Cn env nn xs) (nn.take j) nn[j]).length - 1))=Ig (Ht (Sc.Cn env nn xs) (nn.take (j+1))):=by
    rw[jp9 nn _ j hj2,<-Ep];refine(jb0 (Ht (Sc.Cn env nn xs) (nn.take j)) _ nn[j] _ rfl).trans ?_;congr 1;funext t;by_cases ht:t=nn[j]
    ·simp only[Ae ht];rw[ht]
    ·simp only[Af ht]
   (repeat' first|refine Ca 55 ?_;(refine jf4 950 ?_;refine jd0 950 rfl fun hsm=>?_;simp only[Aa]at hsm)|refine Ca 61 ?_;(refine jp7 ?_)|refine Ca 64 ?_;(refine jx6 (m:=(Ht (Sc.Cn env nn xs) (nn.take j) nn[j]).length - 1) (em:=by first|omega|(simp only[Ig,Aa];omega)) (hm:=by first|omega|(simp only[Ig,Aa];omega)) fun k1=>?_)|refine jr6 20 ?_;(refine jn3 ?_)|refine yyp ?_;try refine Cc ?_ ?_<;>intro hb|refine yy ?_|refine at_nil ?_;refine Ce Ij ?_|refine Cb fun K hK=>?_|refine Ck 3 ?_;refine j1 [16,17] (Cm [0,4,8,16,20,24,28,36,44,48,52,33,41,57] (.two 3 (lin [62,67,71]) 15 (.mid 3 (lin [67,71]) 16 (lin [13,71])))) ?_|refine Ck 9 ?_;refine j1 [20] n8 ?_|apply_assumption -exfalso -symm)
   all_goals
    refine⟨j+1,by omega,by omega,?_⟩;rw[<-key];exact v6
  rw[Ao hj2,jp8 nn xs env (by omega)]
  (repeat' first|refine yyp ?_;try refine Cc ?_ ?_<;>intro hb|refine yy ?_|refine at_nil ?_;refine Ce Ij ?_|refine Cb fun K hK=>?_|refine Ck 3 ?_;refine j1 [16,17] (Cm [0,4,8,16,20,24,28,36,44,48,52,33,41,57] (.two 3 (lin [62,67,71]) 15 (.mid 3 (lin [67,71]) 16 (lin [13,71])))) ?_|refine Ck 9 ?_;refine j1 [20] n8 ?_|apply_assumption -exfalso -symm)
  all_goals first
   |exact je0 ⟨rfl,rfl⟩
   |(dsimp only[Exit.Mq,Exit.Mh];exact je0 ⟨rfl,rfl⟩)
 case none=>
  (refine j4 func64 ntmps64 results64 fun w M E b0=>?_)
  refine r7 1 rfl fun hn=>?_;simp only[Aa]at hn
  (repeat' first|refine yyp ?_;try refine Cc ?_ ?_<;>intro hb|refine yy ?_|refine at_nil ?_;refine Ce Ij ?_|refine Cb fun K hK=>?_|refine Ck 3 ?_;refine j1 [16,17] (Cm [0,4,8,16,20,24,28,36,44,48,52,33,41,57] (.two 3 (lin [62,67,71]) 15 (.mid 3 (lin [67,71]) 16 (lin [13,71])))) ?_|refine Ck 9 ?_;refine j1 [20] n8 ?_|apply_assumption -exfalso -symm)
  refine j8 kn4 [901] (fun j:Nat=>[(14,.d (.int .i64 j))]) (fun j=>[(901,.smap 120 3 (Ig (Sc.Cn env (nn.take j) (xs.take j))) none)]) (fun j=>j<=nn.length) (fun j=>nn.length - j) 0 (Ak _) fun j hj=>?_;dsimp only[Ac,Ad];rcases Ah j nn.length with hj2|hj2
  ·have hj3:j<xs.length:=by omega
   have hlen:(Sc.Cn env (nn.take j) (xs.take j) nn[j]).length<=1000000000 - 1:=by
    obtain⟨l,h1,h2⟩:=je2 (nn.take j) (xs.take j) env nn[j] (by simp;omega);have h3:=jj0 nn[j] (nn.take j);have h4:=hd nn[j];rw[h1,Ag,h2];rw[Aj]at h3;omega
   have key:Nf (Ig (Sc.Cn env (nn.take j) (xs.take j))) nn[j] ((Sc.Cn env (nn.take j) (xs.take j) nn[j]).map Ga++[Ga xs[j]])=Ig (Sc.Cn env (nn.take (j+1)) (xs.take (j+1))):=by
    rw[jl2 nn xs env (by omega) j hj2];have:=jb0 (Sc.Cn env (nn.take j) (xs.take j)) _ nn[j] (Sc.Cn env (nn.take j) (xs.take j) nn[j]++[xs[j]]) rfl;rw[Ap]at this;refine this.trans ?_;congr 1;funext t;by_cases ht:t=nn[j]
    ·simp only[Ae ht];rw[ht]
    ·simp only[Af ht]
   (repeat' first|refine Ca 29 ?_;(refine jf4 950 ?_)|refine Ca 34 ?_;(refine Dh 34 ?_)|refine jr6 17 ?_;(refine jn3 ?_)|refine yyp ?_;try refine Cc ?_ ?_<;>intro hb|refine yy ?_|(refine Cq ?_;first|(refine Cs (fun kv=>?_))|(refine z_append_suf (fun sx sp kv hsx hsp hsl=>?_)))|refine at_nil ?_;refine Ce Ij ?_|refine Oh ?_ ?_|refine n9 ?_ ?_|refine Cb fun K hK=>?_|refine Ck 3 ?_;refine j1 [16,17] (Cm [0,4,8,16,20,24,28,36,44,48,52,33,41,57] (.two 3 (lin [62,67,71]) 15 (.mid 3 (lin [67,71]) 16 (lin [13,71])))) ?_|refine Ck 9 ?_;refine j1 [20] n8 ?_|apply_assumption -exfalso -symm)
   all_goals
    refine⟨j+1,by omega,by omega,?_⟩;rw[<-key];exact v6
  rw[Ao hj2,Ao (show xs.length<=j by omega)]
  (repeat' first|refine Ca 38 ?_;refine Ch (hc:=hdo) ?_|refine yyp ?_;try refine Cc ?_ ?_<;>intro hb|refine yy ?_|refine at_nil ?_;refine Ce Ij ?_|refine Cb fun K hK=>?_|refine Ck 3 ?_;refine j1 [16,17] (Cm [0,4,8,16,20,24,28,36,44,48,52,33,41,57] (.two 3 (lin [62,67,71]) 15 (.mid 3 (lin [67,71]) 16 (lin [13,71])))) ?_|refine Ck 9 ?_;refine j1 [20] n8 ?_|apply_assumption -exfalso -symm)
  rw[show Ig (Sc.Cn env nn xs)=Ig (Ht (Sc.Cn env nn xs) (nn.take 0)) by rw[Fd,jy3]];refine j8 kn5 [901] (fun j:Nat=>[(41,.d (.int .i64 j))]) (fun j=>[(901,.smap 120 3 (Ig (Ht (Sc.Cn env nn xs) (nn.take j))) none)]) (fun j=>j<=nn.length) (fun j=>nn.length - j) 0 (Ak _) fun j hj=>?_;dsimp only[Ac,Ad];rcases Ah j nn.length with hj2|hj2
  ·have hlen:1<=(Ht (Sc.Cn env nn xs) (nn.take j) nn[j]).length:=by
    obtain⟨l,h1,h2⟩:=hpl nn[j];have h3:=jh8 nn[j] nn j hj2;rw[Ae rfl]at h3;have h4:=jy2 nn[j] nn (j+1);unfold Ht;rw[h1,Aj,Ag,h2];omega
   have key:Nf (Ig (Ht (Sc.Cn env nn xs) (nn.take j))) nn[j] (((Ht (Sc.Cn env nn xs) (nn.take j) nn[j]).map Ga).take ((Ht (Sc.Cn env nn xs) (nn.take j) nn[j]).length - 1))=Ig (Ht (Sc.Cn env nn xs) (nn.take (j+1))):=by
    rw[jp9 nn _ j hj2,<-Ep];refine(jb0 (Ht (Sc.Cn env nn xs) (nn.take j)) _ nn[j] _ rfl).trans ?_;congr 1;funext t;by_cases ht:t=nn[j]
    ·simp only[Ae ht];rw[ht]
    ·simp only[Af ht]
   (repeat' first|refine Ca 55 ?_;(refine jf4 950 ?_;refine jd0 950 rfl fun hsm=>?_;simp only[Aa]at hsm)|refine Ca 61 ?_;(refine jp7 ?_)|refine Ca 64 ?_;(refine jx6 (m:=(Ht (Sc.Cn env nn xs) (nn.take j) nn[j]).length - 1) (em:=by first|omega|(simp only[Ig,Aa];omega)) (hm:=by first|omega|(simp only[Ig,Aa];omega)) fun k1=>?_)|refine jr6 20 ?_;(refine jn3 ?_)|refine yyp ?_;try refine Cc ?_ ?_<;>intro hb|refine yy ?_|refine at_nil ?_;refine Ce Ij ?_|refine Cb fun K hK=>?_|refine Ck 3 ?_;refine j1 [16,17] (Cm [0,4,8,16,20,24,28,36,44,48,52,33,41,57] (.two 3 (lin [62,67,71]) 15 (.mid 3 (lin [67,71]) 16 (lin [13,71])))) ?_|refine Ck 9 ?_;refine j1 [20] n8 ?_|apply_assumption -exfalso -symm)
   all_goals
    refine⟨j+1,by omega,by omega,?_⟩;rw[<-key];exact v6
  rw[Ao hj2,jp8 nn xs env (by omega)]
  (repeat' first|refine yyp ?_;try refine Cc ?_ ?_<;>intro hb|refine yy ?_|refine at_nil ?_;refine Ce Ij ?_|refine Cb fun K hK=>?_|refine Ck 3 ?_;refine j1 [16,17] (Cm [0,4,8,16,20,24,28,36,44,48,52,33,41,57] (.two 3 (lin [62,67,71]) 15 (.mid 3 (lin [67,71]) 16 (lin [13,71])))) ?_|refine Ck 9 ?_;refine j1 [20] n8 ?_|apply_assumption -exfalso -symm)
  all_goals first
   |exact je0 ⟨rfl,rfl⟩
   |(dsimp only[Exit.Mq,Exit.Mh];exact je0 ⟨rfl,rfl⟩)
end
end Go.Proofs.YtdopmfifmgkmoaaGreatDoor
