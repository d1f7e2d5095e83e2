/- Parts: S25. -/
import Derived.Test.YtklklgfpkpglgaaGreatDoorP20
set_option linter.all false
set_option maxRecDepth 100000
set_option maxHeartbeats 16000000
namespace Go.Proofs.YtklklgfpkpglgaaGreatDoor
open Go.RowKit Go.Proofs.Tryz
section
def Ie:List Nat:=[0,1,2,3,8,9,11,12,13,14,15,39,40,41,42]
def kq7:List Nat:=[8,9,14,15,16,17,18,19,20,21,22,23,24,25,26,27,28,29,30,31,32,33,34,35,36]
def kq8:List Nat:=[11,41,42,43,44,45,46,47,48,49,50,51,52,53,54,55,56,57,58,59,60,61,62,63,64,65]
def l8:Plan:=lin [0,4,8,16,20,24,28,36,44,48,52,60,13,33,41,57,65,68,72,76,83]
def mc0 (t:ByteArray):List ByteArray->Nat
 |[]=>0
 |s::l=>(if t=s then 1 else 0)+mc0 t l
theorem kv6 (t:ByteArray):∀ l m:List ByteArray,mc0 t (l++m)=mc0 t l+mc0 t m
 |[],m=>by simp[mc0]
 |s::l,m=>by simp only[Ac,mc0,kv6 t l m];omega
theorem jj3 (t:ByteArray)(l:List ByteArray)(j:Nat)(hj:j<l.length):mc0 t (l.take (j+1))=mc0 t (l.take j)+(if t=l[j] then 1 else 0):=by
 rw[Ao hj,kv6];simp[mc0]
theorem kb7 (t:ByteArray)(l:List ByteArray)(j:Nat):mc0 t (l.take j)<=mc0 t l:=by
 have:=kv6 t (l.take j) (l.drop j);rw[List.take_append_drop]at this;omega
theorem jk8 (t:ByteArray):∀ l:List ByteArray,mc0 t l<=l.length
 |[]=>Au _
 |s::l=>by have:=jk8 t l;simp only[mc0,An];split<;>omega
theorem mr6:∀ (ns:List ByteArray) (xs:List Sc.Ent) (f:ByteArray->List Sc.Ent) (s:ByteArray) (x:Sc.Ent),ns.length=xs.length->
 Sc.Cm f (ns++[s]) (xs++[x])=fun t=>if t=s then Sc.Cm f ns xs t++[x] else Sc.Cm f ns xs t
 |[],[],f,s,x,_=>rfl
 |[],_::_,_,_,_,h=>by cases h
 |_::_,[],_,_,_,h=>by cases h
 |n::ns,y::xs,f,s,x,h=>by
  simp only[Ac,Sc.Cm];exact mr6 ns xs _ s x (by simpa using h)
theorem jn0 (ns:List ByteArray)(xs:List Sc.Ent)(f:ByteArray->List Sc.Ent)(h:ns.length=xs.length)(j:Nat)(hj:j<ns.length):
 Sc.Cm f (ns.take (j+1)) (xs.take (j+1))=fun t=>if t=ns[j] then Sc.Cm f (ns.take j) (xs.take j) t++[xs[j]] else Sc.Cm f (ns.take j) (xs.take j) t:=by
 rw[Ao hj,Ao (by omega)];exact mr6 _ _ _ _ _ (by simp;omega)
theorem je8:∀ (ns:List ByteArray) (xs:List Sc.Ent) (f:ByteArray->List Sc.Ent) (t:ByteArray),ns.length=xs.length->∃ l,Sc.Cm f ns xs t=f t++l/\l.length=mc0 t ns
 |[],[],f,t,_=>⟨[],(Ea _).symm,rfl⟩
 |[],_::_,_,_,h=>by cases h
 |_::_,[],_,_,h=>by cases h
 |n::ns,y::xs,f,t,h=>by
  simp only[Sc.Cm];obtain⟨l,h1,h2⟩:=je8 ns xs (fun t=>if t=n then f t++[y] else f t) t (by simpa using h);rw[h1];by_cases ht:t=n
  ·refine⟨y::l,by simp only[Ad ht,Bv,List.singleton_append],by simp only[An,mc0,Ad ht,h2];omega⟩
  ·exact⟨l,by simp only[Ae ht],by simp only[mc0,Ae ht,h2];omega⟩
def Hq (f:ByteArray->List Sc.Ent)(ns:List ByteArray)(t:ByteArray):List Sc.Ent:=(f t).take ((f t).length - mc0 t ns)
theorem js1 (ns:List ByteArray)(xs:List Sc.Ent)(f:ByteArray->List Sc.Ent)(h:ns.length=xs.length):Hq (Sc.Cm f ns xs) ns=f:=by
 funext t;obtain⟨l,h1,h2⟩:=je8 ns xs f t h;unfold Hq;rw[h1,Ag,h2,Nat.add_sub_cancel,List.take_append_of_le_length (Au _),Bg]
theorem kb8 (f:ByteArray->List Sc.Ent):Hq f []=f:=by
 funext t;simp[Hq,mc0]
theorem js2 (ns:List ByteArray)(f:ByteArray->List Sc.Ent)(j:Nat)(hj:j<ns.length):
 Hq f (ns.take (j+1))=fun t=>if t=ns[j] then (Hq f (ns.take j) t).take ((Hq f (ns.take j) t).length - 1) else Hq f (ns.take j) t:=by
 funext t;unfold Hq;rw[jj3 t ns j hj];split
 ·rw[List.take_take,Aj];congr 1;omega
 ·rw[Nat.add_zero]
theorem ja4 (f g:ByteArray->List Sc.Ent)(s:ByteArray)(l:List Sc.Ent)(h:g=fun t=>if t=s then l else f t):Mt (Hu f) s (l.map Gd)=Hu g:=by
 subst h;funext t;unfold Mt Hu;by_cases ht:t=s
 ·simp only[Ad ht]
 ·simp only[Ae ht]
def Sc.W.deep (σ:Sc.W)(m:Nat):Prop:=∀ s,(σ.env s).length+m<=1000000000
def pv (p:Pr):List V:=[.d (.int .u8 p.kind),.d (.str p.name),
    .d (.int .u8 p.chan.kind),.d (.int .u8 p.chan.op),.d (.int .u8 p.chan.ty),.d (.int .i32 p.chan.n),.d (.str p.chan.s),.d (.list 6 (p.chan.l.map dEx)),
    .d (.list 6 (p.targets.map dEx)),.d (.list 6 (p.exprs.map dEx)),
    .d (.str p.rep.name),.d (.int .u8 p.rep.base.kind),.d (.int .u8 p.rep.base.op),.d (.int .u8 p.rep.base.ty),.d (.int .i32 p.rep.base.n),.d (.str p.rep.base.s),.d (.list 6 (p.rep.base.l.map dEx)),
    .d (.int .u8 p.rep.count.kind),.d (.int .u8 p.rep.count.op),.d (.int .u8 p.rep.count.ty),.d (.int .i32 p.rep.count.n),.d (.str p.rep.count.s),.d (.list 6 (p.rep.count.l.map dEx)),
    .d (.list 23 (p.guards.map dGu)),.d (.list 42 (p.l.map dPr)),.d (.list 1 (p.procs.map (.int .i64))),
    .d (.int .u8 p.spec.kind),.d (.int .u8 p.spec.type.kind),.d (.int .i64 p.spec.type.dim),.d (.int .u8 p.spec.type.item),.d (.str p.spec.type.proto),.d (.list 1 (p.spec.names.map .str)),
    .d (.int .u8 p.spec.e.kind),.d (.int .u8 p.spec.e.op),.d (.int .u8 p.spec.e.ty),.d (.int .i32 p.spec.e.n),.d (.str p.spec.e.s),.d (.list 6 (p.spec.e.l.map dEx)),
    .d (.bool p.spec.proto.cases),.d (.list 2 (p.spec.proto.l.map dVa)),.d (.list 6 (p.spec.formals.map dFo)),.d (.list 42 (p.spec.body.map dPr))]
def sv (s:Sp):List V:=[.d (.int .u8 s.kind),.d (.int .u8 s.type.kind),.d (.int .i64 s.type.dim),.d (.int .u8 s.type.item),.d (.str s.type.proto),.d (.list 1 (s.names.map .str)),
    .d (.int .u8 s.e.kind),.d (.int .u8 s.e.op),.d (.int .u8 s.e.ty),.d (.int .i32 s.e.n),.d (.str s.e.s),.d (.list 6 (s.e.l.map dEx)),
    .d (.bool s.proto.cases),.d (.list 2 (s.proto.l.map dVa)),.d (.list 6 (s.formals.map dFo)),.d (.list 42 (s.body.map dPr))]
attribute [local irreducible] TR TC
theorem jk9 (gl:List (Nat × List D))(k:Sc.Kind)(σ σ2:Sc.W)(nn:List ByteArray)(xs:List Sc.Ent)(p p2:Pr)(hl:nn.length=xs.length)(hd:σ.deep nn.length)(he:σ2.env=Sc.Cm σ.env nn xs)
 (hdo:FnE prog gl 55 [.ptr 1003 0,.ptr 1002 0] ((1003,.box (pv p))::(1002,.box [.ptr 900 0])::HW k {σ with env:=Sc.Cm σ.env nn xs})
   (fun v H1=>v=.tup []/\H1=(1003,.box (pv p2))::(1002,.box [.ptr 900 0])::HW k σ2)):
 FnE prog gl 54 [.ptr 900 0,.d (.list 1 (nn.map .str)),.d (.list 3 (xs.map Gd)),.clo (.func 55) [] [.ptr 1003 0,.ptr 1002 0]] ((1003,.box (pv p))::(1002,.box [.ptr 900 0])::HW k σ)
  (fun v H1=>v=.tup []/\H1=(1003,.box (pv p2))::(1002,.box [.ptr 900 0])::HW k {σ2 with env:=σ.env}):=by
 unfold Sc.W.deep at hd;have hpl:=fun t=>je8 nn xs σ.env t hl;have hle1:nn.length<=xs.length:=Nat.le_of_eq hl;have hle2:xs.length<=nn.length:=Nat.le_of_eq hl.symm;clear hl;obtain⟨env,tk,c,ev⟩:=σ;obtain⟨env2,tk2,c2,ev2⟩:=σ2;dsimp only at he hd hpl hdo ⊢;subst he;cases k
 all_goals dsimp only[HW,ja0,z6]at hdo ⊢
 case free=>
  (refine j2 func54 ntmps54 results54 fun w M E b0=>?_)
  refine j8 1 rfl fun hn=>?_;simp only[Ab]at hn
  (repeat' first|refine yyp ?_;try refine Ce ?_ ?_<;>intro hb|refine yy ?_|refine at_nil ?_;refine Cc Ie ?_|refine Cb fun K hK=>?_|refine Cf 3 ?_;refine j0 [16,17] q06 ?_|refine Cf 9 ?_;refine j0 [20] l8 ?_|apply_assumption -exfalso -symm)
  refine j6 kq7 [901] (fun j:Nat=>[(14,.d (.int .i64 j))]) (fun j=>[(901,.smap 112 3 (Hu (Sc.Cm env (nn.take j) (xs.take j))) none)]) (fun j=>j<=nn.length) (fun j=>nn.length - j) 0 (Ai _) fun j hj=>?_;dsimp only[Ac,Af];rcases Ah j nn.length with hj2|hj2
  ·have hj3:j<xs.length:=by omega
   have hlen:(Sc.Cm env (nn.take j) (xs.take j) nn[j]).length<=1000000000 - 1:=by
    obtain⟨l,h1,h2⟩:=je8 (nn.take j) (xs.take j) env nn[j] (by simp;omega);have h3:=jk8 nn[j] (nn.take j);have h4:=hd nn[j];rw[h1,Ag,h2];rw[Aj]at h3;omega
   have key:Mt (Hu (Sc.Cm env (nn.take j) (xs.take j))) nn[j] ((Sc.Cm env (nn.take j) (xs.take j) nn[j]).map Gd++[Gd xs[j]])=Hu (Sc.Cm env (nn.take (j+1)) (xs.take (j+1))):=by
    rw[jn0 nn xs env (by omega) j hj2];have:=ja4 (Sc.Cm env (nn.take j) (xs.take j)) _ nn[j] (Sc.Cm env (nn.take j) (xs.take j) nn[j]++[xs[j]]) rfl;rw[As]at this;refine this.trans ?_;congr 1;funext t;by_cases ht:t=nn[j]
    ·simp only[Ad ht];rw[ht]
    ·simp only[Ae ht]
   (repeat' first|refine Ca 29 ?_;(refine jg1 950 ?_)|refine Ca 34 ?_;(refine Dn 34 ?_)|refine jg0 17 ?_;(refine jp1 ?_)|refine yyp ?_;try refine Ce ?_ ?_<;>intro hb|refine yy ?_|(refine Da ?_;first|(refine Df (fun kv=>?_))|(refine z_append_suf (fun sx sp kv hsx hsp hsl=>?_)))|refine at_nil ?_;refine Cc Ie ?_|refine kf2 ?_ ?_|refine Hz ?_ ?_|refine Cb fun K hK=>?_|refine Cf 3 ?_;refine j0 [16,17] q06 ?_|refine Cf 9 ?_;refine j0 [20] l8 ?_|apply_assumption -exfalso -symm)
   all_goals
    refine⟨j+1,by omega,by omega,?_⟩;rw[<-key];exact k8
  rw[Am hj2,Am (show xs.length<=j by omega)]
  (repeat' first|refine Ca 38 ?_;refine Cg (hc:=hdo) ?_|refine yyp ?_;try refine Ce ?_ ?_<;>intro hb|refine yy ?_|refine at_nil ?_;refine Cc Ie ?_|refine Cb fun K hK=>?_|refine Cf 3 ?_;refine j0 [16,17] q06 ?_|refine Cf 9 ?_;refine j0 [20] l8 ?_|apply_assumption -exfalso -symm)
  rw[show Hu (Sc.Cm env nn xs)=Hu (Hq (Sc.Cm env nn xs) (nn.take 0)) by rw[Fq,kb8]];refine j6 kq8 [901] (fun j:Nat=>[(41,.d (.int .i64 j))]) (fun j=>[(901,.smap 112 3 (Hu (Hq (Sc.Cm env nn xs) (nn.take j))) none)]) (fun j=>j<=nn.length) (fun j=>nn.length - j) 0 (Ai _) fun j hj=>?_;dsimp only[Ac,Af];rcases Ah j nn.length with hj2|hj2
  ·have hlen:1<=(Hq (Sc.Cm env nn xs) (nn.take j) nn[j]).length:=by
    obtain⟨l,h1,h2⟩:=hpl nn[j];have h3:=jj3 nn[j] nn j hj2;rw[Ad rfl]at h3;have h4:=kb7 nn[j] nn (j+1);unfold Hq;rw[h1,Aj,Ag,h2];omega
   have key:Mt (Hu (Hq (Sc.Cm env nn xs) (nn.take j))) nn[j] (((Hq (Sc.Cm env nn xs) (nn.take j) nn[j]).map Gd).take ((Hq (Sc.Cm env nn xs) (nn.take j) nn[j]).length - 1))=Hu (Hq (Sc.Cm env nn xs) (nn.take (j+1))):=by
    rw[js2 nn _ j hj2,<-Eg];refine(ja4 (Hq (Sc.Cm env nn xs) (nn.take j)) _ nn[j] _ rfl).trans ?_;congr 1;funext t;by_cases ht:t=nn[j]
    ·simp only[Ad ht];rw[ht]
    ·simp only[Ae ht]
   (repeat' first|refine Ca 55 ?_;(refine jg1 950 ?_;refine jd0 950 rfl fun hsm=>?_;simp only[Ab]at hsm)|refine Ca 61 ?_;(refine jr9 ?_)|refine Ca 64 ?_;(refine kb1 (m:=(Hq (Sc.Cm env nn xs) (nn.take j) nn[j]).length - 1) (em:=by first|omega|(simp only[Hu,Ab];omega)) (hm:=by first|omega|(simp only[Hu,Ab];omega)) fun k1=>?_)|refine jg0 20 ?_;(refine jp1 ?_)|refine yyp ?_;try refine Ce ?_ ?_<;>intro hb|refine yy ?_|refine at_nil ?_;refine Cc Ie ?_|refine Cb fun K hK=>?_|refine Cf 3 ?_;refine j0 [16,17] q06 ?_|refine Cf 9 ?_;refine j0 [20] l8 ?_|apply_assumption -exfalso -symm)
   all_goals
    refine⟨j+1,by omega,by omega,?_⟩;rw[<-key];exact k8
  rw[Am hj2,js1 nn xs env (by omega)]
  (repeat' first|refine yyp ?_;try refine Ce ?_ ?_<;>intro hb|refine yy ?_|refine at_nil ?_;refine Cc Ie ?_|refine Cb fun K hK=>?_|refine Cf 3 ?_;refine j0 [16,17] q06 ?_|refine Cf 9 ?_;refine j0 [20] l8 ?_|apply_assumption -exfalso -symm)
  all_goals first
   |exact g8 ⟨rfl,rfl⟩
   |(dsimp only[Exit.Nf,Exit.Lp];exact g8 ⟨rfl,rfl⟩)
 case check ns=>
  (refine j2 func54 ntmps54 results54 fun w M E b0=>?_)
  refine j8 1 rfl fun hn=>?_;simp only[Ab]at hn
  (repeat' first|refine yyp ?_;try refine Ce ?_ ?_<;>intro hb|refine yy ?_|refine at_nil ?_;refine Cc Ie ?_|refine Cb fun K hK=>?_|refine Cf 3 ?_;refine j0 [16,17] q06 ?_|refine Cf 9 ?_;refine j0 [20] l8 ?_|apply_assumption -exfalso -symm)
  refine j6 kq7 [901] (fun j:Nat=>[(14,.d (.int .i64 j))]) (fun j=>[(901,.smap 112 3 (Hu (Sc.Cm env (nn.take j) (xs.take j))) none)]) (fun j=>j<=nn.length) (fun j=>nn.length - j) 0 (Ai _) fun j hj=>?_;dsimp only[Ac,Af];rcases Ah j nn.length with hj2|hj2
  ·have hj3:j<xs.length:=by omega
   have hlen:(Sc.Cm env (nn.take j) (xs.take j) nn[j]).length<=1000000000 - 1:=by
    obtain⟨l,h1,h2⟩:=je8 (nn.take j) (xs.take j) env nn[j] (by simp;omega);have h3:=jk8 nn[j] (nn.take j);have h4:=hd nn[j];rw[h1,Ag,h2];rw[Aj]at h3;omega
   have key:Mt (Hu (Sc.Cm env (nn.take j) (xs.take j))) nn[j] ((Sc.Cm env (nn.take j) (xs.take j) nn[j]).map Gd++[Gd xs[j]])=Hu (Sc.Cm env (nn.take (j+1)) (xs.take (j+1))):=by
    rw[jn0 nn xs env (by omega) j hj2];have:=ja4 (Sc.Cm env (nn.take j) (xs.take j)) _ nn[j] (Sc.Cm env (nn.take j) (xs.take j) nn[j]++[xs[j]]) rfl;rw[As]at this;refine this.trans ?_;congr 1;funext t;by_cases ht:t=nn[j]
    ·simp only[Ad ht];rw[ht]
    ·simp only[Ae ht]
   (repeat' first|refine Ca 29 ?_;(refine jg1 950 ?_)|refine Ca 34 ?_;(refine Dn 34 ?_)|refine jg0 17 ?_;(refine jp1 ?_)|refine yyp ?_;try refine Ce ?_ ?_<;>intro hb|refine yy ?_|(refine Da ?_;first|(refine Df (fun kv=>?_))|(refine z_append_suf (fun sx sp kv hsx hsp hsl=>?_)))|refine at_nil ?_;refine Cc Ie ?_|refine kf2 ?_ ?_|refine Hz ?_ ?_|refine Cb fun K hK=>?_|refine Cf 3 ?_;refine j0 [16,17] q06 ?_|refine Cf 9 ?_;refine j0 [20] l8 ?_|apply_assumption -exfalso -symm)
   all_goals
    refine⟨j+1,by omega,by omega,?_⟩;rw[<-key];exact k8
  rw[Am hj2,Am (show xs.length<=j by omega)]
  (repeat' first|refine Ca 38 ?_;refine Cg (hc:=hdo) ?_|refine yyp ?_;try refine Ce ?_ ?_<;>intro hb|refine yy ?_|refine at_nil ?_;refine Cc Ie ?_|refine Cb fun K hK=>?_|refine Cf 3 ?_;refine j0 [16,17] q06 ?_|refine Cf 9 ?_;refine j0 [20] l8 ?_|apply_assumption -exfalso -symm)
  rw[show Hu (Sc.Cm env nn xs)=Hu (Hq (Sc.Cm env nn xs) (nn.take 0)) by rw[Fq,kb8]];refine j6 kq8 [901] (fun j:Nat=>[(41,.d (.int .i64 j))]) (fun j=>[(901,.smap 112 3 (Hu (Hq (Sc.Cm env nn xs) (nn.take j))) none)]) (fun j=>j<=nn.length) (fun j=>nn.length - j) 0 (Ai _) fun j hj=>?_;dsimp only[Ac,Af];rcases Ah j nn.length with hj2|hj2
  ·have hlen:1<=(Hq (Sc.Cm env nn xs) (nn.take j) nn[j]).length:=by
    obtain⟨l,h1,h2⟩:=hpl nn[j];have h3:=jj3 nn[j] nn j hj2;rw[Ad rfl]at h3;have h4:=kb7 nn[j] nn (j+1);unfold Hq;rw[h1,Aj,Ag,h2];omega
   have key:Mt (Hu (Hq (Sc.Cm env nn xs) (nn.take j))) nn[j] (((Hq (Sc.Cm env nn xs) (nn.take j) nn[j]).map Gd).take ((Hq (Sc.Cm env nn xs) (nn.take j) nn[j]).length - 1))=Hu (Hq (Sc.Cm env nn xs) (nn.take (j+1))):=by
    rw[js2 nn _ j hj2,<-Eg];refine(ja4 (Hq (Sc.Cm env nn xs) (nn.take j)) _ nn[j] _ rfl).trans ?_;congr 1;funext t;by_cases ht:t=nn[j]
    ·simp only[Ad ht];rw[ht]
    ·simp only[Ae ht]
   (repeat' first|refine Ca 55 ?_;(refine jg1 950 ?_;refine jd0 950 rfl fun hsm=>?_;simp only[Ab]at hsm)|refine Ca 61 ?_;(refine jr9 ?_)|refine Ca 64 ?_;(refine kb1 (m:=(Hq (Sc.Cm env nn xs) (nn.take j) nn[j]).length - 1) (em:=by first|omega|(simp only[Hu,Ab];omega)) (hm:=by first|omega|(simp only[Hu,Ab];omega)) fun k1=>?_)|refine jg0 20 ?_;(refine jp1 ?_)|refine yyp ?_;try refine Ce ?_ ?_<;>intro hb|refine yy ?_|refine at_nil ?_;refine Cc Ie ?_|refine Cb fun K hK=>?_|refine Cf 3 ?_;refine j0 [16,17] q06 ?_|refine Cf 9 ?_;refine j0 [20] l8 ?_|apply_assumption -exfalso -symm)
   all_goals
    refine⟨j+1,by omega,by omega,?_⟩;rw[<-key];exact k8
  rw[Am hj2,js1 nn xs env (by omega)]
  (repeat' first|refine yyp ?_;try refine Ce ?_ ?_<;>intro hb|refine yy ?_|refine at_nil ?_;refine Cc Ie ?_|refine Cb fun K hK=>?_|refine Cf 3 ?_;refine j0 [16,17] q06 ?_|refine Cf 9 ?_;refine j0 [20] l8 ?_|apply_assumption -exfalso -symm)
  all_goals first
   |exact g8 ⟨rfl,rfl⟩
   |(dsimp only[Exit.Nf,Exit.Lp];exact g8 ⟨rfl,rfl⟩)
 case none=>
  (refine j2 func54 ntmps54 results54 fun w M E b0=>?_)
  refine j8 1 rfl fun hn=>?_;simp only[Ab]at hn
  (repeat' first|refine yyp ?_;try refine Ce ?_ ?_<;>intro hb|refine yy ?_|refine at_nil ?_;refine Cc Ie ?_|refine Cb fun K hK=>?_|refine Cf 3 ?_;refine j0 [16,17] q06 ?_|refine Cf 9 ?_;refine j0 [20] l8 ?_|apply_assumption -exfalso -symm)
  refine j6 kq7 [901] (fun j:Nat=>[(14,.d (.int .i64 j))]) (fun j=>[(901,.smap 112 3 (Hu (Sc.Cm env (nn.take j) (xs.take j))) none)]) (fun j=>j<=nn.length) (fun j=>nn.length - j) 0 (Ai _) fun j hj=>?_;dsimp only[Ac,Af];rcases Ah j nn.length with hj2|hj2
  ·have hj3:j<xs.length:=by omega
   have hlen:(Sc.Cm env (nn.take j) (xs.take j) nn[j]).length<=1000000000 - 1:=by
    obtain⟨l,h1,h2⟩:=je8 (nn.take j) (xs.take j) env nn[j] (by simp;omega);have h3:=jk8 nn[j] (nn.take j);have h4:=hd nn[j];rw[h1,Ag,h2];rw[Aj]at h3;omega
   have key:Mt (Hu (Sc.Cm env (nn.take j) (xs.take j))) nn[j] ((Sc.Cm env (nn.take j) (xs.take j) nn[j]).map Gd++[Gd xs[j]])=Hu (Sc.Cm env (nn.take (j+1)) (xs.take (j+1))):=by
    rw[jn0 nn xs env (by omega) j hj2];have:=ja4 (Sc.Cm env (nn.take j) (xs.take j)) _ nn[j] (Sc.Cm env (nn.take j) (xs.take j) nn[j]++[xs[j]]) rfl;rw[As]at this;refine this.trans ?_;congr 1;funext t;by_cases ht:t=nn[j]
    ·simp only[Ad ht];rw[ht]
    ·simp only[Ae ht]
   (repeat' first|refine Ca 29 ?_;(refine jg1 950 ?_)|refine Ca 34 ?_;(refine Dn 34 ?_)|refine jg0 17 ?_;(refine jp1 ?_)|refine yyp ?_;try refine Ce ?_ ?_<;>intro hb|refine yy ?_|(refine Da ?_;first|(refine Df (fun kv=>?_))|(refine z_append_suf (fun sx sp kv hsx hsp hsl=>?_)))|refine at_nil ?_;refine Cc Ie ?_|refine kf2 ?_ ?_|refine Hz ?_ ?_|refine Cb fun K hK=>?_|refine Cf 3 ?_;refine j0 [16,17] q06 ?_|refine Cf 9 ?_;refine j0 [20] l8 ?_|apply_assumption -exfalso -symm)
   all_goals
    refine⟨j+1,by omega,by omega,?_⟩;rw[<-key];exact k8
  rw[Am hj2,Am (show xs.length<=j by omega)]
  (repeat' first|refine Ca 38 ?_;refine Cg (hc:=hdo) ?_|refine yyp ?_;try refine Ce ?_ ?_<;>intro hb|refine yy ?_|refine at_nil ?_;refine Cc Ie ?_|refine Cb fun K hK=>?_|refine Cf 3 ?_;refine j0 [16,17] q06 ?_|refine Cf 9 ?_;refine j0 [20] l8 ?_|apply_assumption -exfalso -symm)
  rw[show Hu (Sc.Cm env nn xs)=Hu (Hq (Sc.Cm env nn xs) (nn.take 0)) by rw[Fq,kb8]];refine j6 kq8 [901] (fun j:Nat=>[(41,.d (.int .i64 j))]) (fun j=>[(901,.smap 112 3 (Hu (Hq (Sc.Cm env nn xs) (nn.take j))) none)]) (fun j=>j<=nn.length) (fun j=>nn.length - j) 0 (Ai _) fun j hj=>?_;dsimp only[Ac,Af];rcases Ah j nn.length with hj2|hj2
  ·have hlen:1<=(Hq (Sc.Cm env nn xs) (nn.take j) nn[j]).length:=by
    obtain⟨l,h1,h2⟩:=hpl nn[j];have h3:=jj3 nn[j] nn j hj2;rw[Ad rfl]at h3;have h4:=kb7 nn[j] nn (j+1);unfold Hq;rw[h1,Aj,Ag,h2];omega
   have key:Mt (Hu (Hq (Sc.Cm env nn xs) (nn.take j))) nn[j] (((Hq (Sc.Cm env nn xs) (nn.take j) nn[j]).map Gd).take ((Hq (Sc.Cm env nn xs) (nn.take j) nn[j]).length - 1))=Hu (Hq (Sc.Cm env nn xs) (nn.take (j+1))):=by
    rw[js2 nn _ j hj2,<-Eg];refine(ja4 (Hq (Sc.Cm env nn xs) (nn.take j)) _ nn[j] _ rfl).trans ?_;congr 1;funext t;by_cases ht:t=nn[j]
    ·simp only[Ad ht];rw[ht]
    ·simp only[Ae ht]
   (repeat' first|refine Ca 55 ?_;(refine jg1 950 ?_;refine jd0 950 rfl fun hsm=>?_;simp only[Ab]at hsm)|refine Ca 61 ?_;(refine jr9 ?_)|refine Ca 64 ?_;(refine kb1 (m:=(Hq (Sc.Cm env nn xs) (nn.take j) nn[j]).length - 1) (em:=by first|omega|(simp only[Hu,Ab];omega)) (hm:=by first|omega|(simp only[Hu,Ab];omega)) fun k1=>?_)|refine jg0 20 ?_;(refine jp1 ?_)|refine yyp ?_;try refine Ce ?_ ?_<;>intro hb|refine yy ?_|refine at_nil ?_;refine Cc Ie ?_|refine Cb fun K hK=>?_|refine Cf 3 ?_;refine j0 [16,17] q06 ?_|refine Cf 9 ?_;refine j0 [20] l8 ?_|apply_assumption -exfalso -symm)
   all_goals
    refine⟨j+1,by omega,by omega,?_⟩;rw[<-key];exact k8
  rw[Am hj2,js1 nn xs env (by omega)]
  (repeat' first|refine yyp ?_;try refine Ce ?_ ?_<;>intro hb|refine yy ?_|refine at_nil ?_;refine Cc Ie ?_|refine Cb fun K hK=>?_|refine Cf 3 ?_;refine j0 [16,17] q06 ?_|refine Cf 9 ?_;refine j0 [20] l8 ?_|apply_assumption -exfalso -symm)
  all_goals first
   |exact g8 ⟨rfl,rfl⟩
   |(dsimp only[Exit.Nf,Exit.Lp];exact g8 ⟨rfl,rfl⟩)
theorem qw2 (gl:List (Nat × List D))(k:Sc.Kind)(σ σ2:Sc.W)(nn:List ByteArray)(xs:List Sc.Ent)(p p2:Sp)(hl:nn.length=xs.length)(hd:σ.deep nn.length)(he:σ2.env=Sc.Cm σ.env nn xs)
 (hdo:FnE prog gl 88 [.ptr 1003 0,.ptr 1002 0] ((1003,.box (sv p))::(1002,.box [.ptr 900 0])::HW k {σ with env:=Sc.Cm σ.env nn xs})
   (fun v H1=>v=.tup []/\H1=(1003,.box (sv p2))::(1002,.box [.ptr 900 0])::HW k σ2)):
 FnE prog gl 54 [.ptr 900 0,.d (.list 1 (nn.map .str)),.d (.list 3 (xs.map Gd)),.clo (.func 88) [] [.ptr 1003 0,.ptr 1002 0]] ((1003,.box (sv p))::(1002,.box [.ptr 900 0])::HW k σ)
  (fun v H1=>v=.tup []/\H1=(1003,.box (sv p2))::(1002,.box [.ptr 900 0])::HW k {σ2 with env:=σ.env}):=by
 unfold Sc.W.deep at hd;have hpl:=fun t=>je8 nn xs σ.env t hl;have hle1:nn.length<=xs.length:=Nat.le_of_eq hl;have hle2:xs.length<=nn.length:=Nat.le_of_eq hl.symm;clear hl;obtain⟨env,tk,c,ev⟩:=σ;obtain⟨env2,tk2,c2,ev2⟩:=σ2;dsimp only at he hd hpl hdo ⊢;subst he;cases k
 all_goals dsimp only[HW,ja0,z6]at hdo ⊢
 case free=>
  (refine j2 func54 ntmps54 results54 fun w M E b0=>?_)
  refine j8 1 rfl fun hn=>?_;simp only[Ab]at hn
  (repeat' first|refine yyp ?_;try refine Ce ?_ ?_<;>intro hb|refine yy ?_|refine at_nil ?_;refine Cc Ie ?_|refine Cb fun K hK=>?_|refine Cf 3 ?_;refine j0 [16,17] q06 ?_|refine Cf 9 ?_;refine j0 [20] l8 ?_|apply_assumption -exfalso -symm)
  refine j6 kq7 [901] (fun j:Nat=>[(14,.d (.int .i64 j))]) (fun j=>[(901,.smap 112 3 (Hu (Sc.Cm env (nn.take j) (xs.take j))) none)]) (fun j=>j<=nn.length) (fun j=>nn.length - j) 0 (Ai _) fun j hj=>?_;dsimp only[Ac,Af];rcases Ah j nn.length with hj2|hj2
  ·have hj3:j<xs.length:=by omega
   have hlen:(Sc.Cm env (nn.take j) (xs.take j) nn[j]).length<=1000000000 - 1:=by
    obtain⟨l,h1,h2⟩:=je8 (nn.take j) (xs.take j) env nn[j] (by simp;omega);have h3:=jk8 nn[j] (nn.take j);have h4:=hd nn[j];rw[h1,Ag,h2];rw[Aj]at h3;omega
   have key:Mt (Hu (Sc.Cm env (nn.take j) (xs.take j))) nn[j] ((Sc.Cm env (nn.take j) (xs.take j) nn[j]).map Gd++[Gd xs[j]])=Hu (Sc.Cm env (nn.take (j+1)) (xs.take (j+1))):=by
    rw[jn0 nn xs env (by omega) j hj2];have:=ja4 (Sc.Cm env (nn.take j) (xs.take j)) _ nn[j] (Sc.Cm env (nn.take j) (xs.take j) nn[j]++[xs[j]]) rfl;rw[As]at this;refine this.trans ?_;congr 1;funext t;by_cases ht:t=nn[j]
    ·simp only[Ad ht];rw[ht]
    ·simp only[Ae ht]
   (repeat' first|refine Ca 29 ?_;(refine jg1 950 ?_)|refine Ca 34 ?_;(refine Dn 34 ?_)|refine jg0 17 ?_;(refine jp1 ?_)|refine yyp ?_;try refine Ce ?_ ?_<;>intro hb|refine yy ?_|(refine Da ?_;first|(refine Df (fun kv=>?_))|(refine z_append_suf (fun sx sp kv hsx hsp hsl=>?_)))|refine at_nil ?_;refine Cc Ie ?_|refine kf2 ?_ ?_|refine Hz ?_ ?_|refine Cb fun K hK=>?_|refine Cf 3 ?_;refine j0 [16,17] q06 ?_|refine Cf 9 ?_;refine j0 [20] l8 ?_|apply_assumption -exfalso -symm)
   all_goals
    refine⟨j+1,by omega,by omega,?_⟩;rw[<-key];exact k8
  rw[Am hj2,Am (show xs.length<=j by omega)]
  (repeat' first|refine Ca 38 ?_;refine Cg (hc:=hdo) ?_|refine yyp ?_;try refine Ce ?_ ?_<;>intro hb|refine yy ?_|refine at_nil ?_;refine Cc Ie ?_|refine Cb fun K hK=>?_|refine Cf 3 ?_;refine j0 [16,17] q06 ?_|refine Cf 9 ?_;refine j0 [20] l8 ?_|apply_assumption -exfalso -symm)
  rw[show Hu (Sc.Cm env nn xs)=Hu (Hq (Sc.Cm env nn xs) (nn.take 0)) by rw[Fq,kb8]];refine j6 kq8 [901] (fun j:Nat=>[(41,.d (.int .i64 j))]) (fun j=>[(901,.smap 112 3 (Hu (Hq (Sc.Cm env nn xs) (nn.take j))) none)]) (fun j=>j<=nn.length) (fun j=>nn.length - j) 0 (Ai _) fun j hj=>?_;dsimp only[Ac,Af];rcases Ah j nn.length with hj2|hj2
  ·have hlen:1<=(Hq (Sc.Cm env nn xs) (nn.take j) nn[j]).length:=by
    obtain⟨l,h1,h2⟩:=hpl nn[j];have h3:=jj3 nn[j] nn j hj2;rw[Ad rfl]at h3;have h4:=kb7 nn[j] nn (j+1);unfold Hq;rw[h1,Aj,Ag,h2];omega
   have key:Mt (Hu (Hq (Sc.Cm env nn xs) (nn.take j))) nn[j] (((Hq (Sc.Cm env nn xs) (nn.take j) nn[j]).map Gd).take ((Hq (Sc.Cm env nn xs) (nn.take j) nn[j]).length - 1))=Hu (Hq (Sc.Cm env nn xs) (nn.take (j+1))):=by
    rw[js2 nn _ j hj2,<-Eg];refine(ja4 (Hq (Sc.Cm env nn xs) (nn.take j)) _ nn[j] _ rfl).trans ?_;congr 1;funext t;by_cases ht:t=nn[j]
    ·simp only[Ad ht];rw[ht]
    ·simp only[Ae ht]
   (repeat' first|refine Ca 55 ?_;(refine jg1 950 ?_;refine jd0 950 rfl fun hsm=>?_;simp only[Ab]at hsm)|refine Ca 61 ?_;(refine jr9 ?_)|refine Ca 64 ?_;(refine kb1 (m:=(Hq (Sc.Cm env nn xs) (nn.take j) nn[j]).length - 1) (em:=by first|omega|(simp only[Hu,Ab];omega)) (hm:=by first|omega|(simp only[Hu,Ab];omega)) fun k1=>?_)|refine jg0 20 ?_;(refine jp1 ?_)|refine yyp ?_;try refine Ce ?_ ?_<;>intro hb|refine yy ?_|refine at_nil ?_;refine Cc Ie ?_|refine Cb fun K hK=>?_|refine Cf 3 ?_;refine j0 [16,17] q06 ?_|refine Cf 9 ?_;refine j0 [20] l8 ?_|apply_assumption -exfalso -symm)
   all_goals
    refine⟨j+1,by omega,by omega,?_⟩;rw[<-key];exact k8
  rw[Am hj2,js1 nn xs env (by omega)]
  (repeat' first|refine yyp ?_;try refine Ce ?_ ?_<;>intro hb|refine yy ?_|refine at_nil ?_;refine Cc Ie ?_|refine Cb fun K hK=>?_|refine Cf 3 ?_;refine j0 [16,17] q06 ?_|refine Cf 9 ?_;refine j0 [20] l8 ?_|apply_assumption -exfalso -symm)
  all_goals first
   |exact g8 ⟨rfl,rfl⟩
   |(dsimp only[Exit.Nf,Exit.Lp];exact g8 ⟨rfl,rfl⟩)
 case check ns=>
  (refine j2 func54 ntmps54 results54 fun w M E b0=>?_)
  refine j8 1 rfl fun hn=>?_;simp only[Ab]at hn
  (repeat' first|refine yyp ?_;try refine Ce ?_ ?_<;>intro hb|refine yy ?_|refine at_nil ?_;refine Cc Ie ?_|refine Cb fun K hK=>?_|refine Cf 3 ?_;refine j0 [16,17] q06 ?_|refine Cf 9 ?_;refine j0 [20] l8 ?_|apply_assumption -exfalso -symm)
  refine j6 kq7 [901] (fun j:Nat=>[(14,.d (.int .i64 j))]) (fun j=>[(901,.smap 112 3 (Hu (Sc.Cm env (nn.take j) (xs.take j))) none)]) (fun j=>j<=nn.length) (fun j=>nn.length - j) 0 (Ai _) fun j hj=>?_;dsimp only[Ac,Af];rcases Ah j nn.length with hj2|hj2
  ·have hj3:j<xs.length:=by omega
   have hlen:(Sc.Cm env (nn.take j) (xs.take j) nn[j]).length<=1000000000 - 1:=by
    obtain⟨l,h1,h2⟩:=je8 (nn.take j) (xs.take j) env nn[j] (by simp;omega);have h3:=jk8 nn[j] (nn.take j);have h4:=hd nn[j];rw[h1,Ag,h2];rw[Aj]at h3;omega
   have key:Mt (Hu (Sc.Cm env (nn.take j) (xs.take j))) nn[j] ((Sc.Cm env (nn.take j) (xs.take j) nn[j]).map Gd++[Gd xs[j]])=Hu (Sc.Cm env (nn.take (j+1)) (xs.take (j+1))):=by
    rw[jn0 nn xs env (by omega) j hj2];have:=ja4 (Sc.Cm env (nn.take j) (xs.take j)) _ nn[j] (Sc.Cm env (nn.take j) (xs.take j) nn[j]++[xs[j]]) rfl;rw[As]at this;refine this.trans ?_;congr 1;funext t;by_cases ht:t=nn[j]
    ·simp only[Ad ht];rw[ht]
    ·simp only[Ae ht]
   (repeat' first|refine Ca 29 ?_;(refine jg1 950 ?_)|refine Ca 34 ?_;(refine Dn 34 ?_)|refine jg0 17 ?_;(refine jp1 ?_)|refine yyp ?_;try refine Ce ?_ ?_<;>intro hb|refine yy ?_|(refine Da ?_;first|(refine Df (fun kv=>?_))|(refine z_append_suf (fun sx sp kv hsx hsp hsl=>?_)))|refine at_nil ?_;refine Cc Ie ?_|refine kf2 ?_ ?_|refine Hz ?_ ?_|refine Cb fun K hK=>?_|refine Cf 3 ?_;refine j0 [16,17] q06 ?_|refine Cf 9 ?_;refine j0 [20] l8 ?_|apply_assumption -exfalso -symm)
   all_goals
    refine⟨j+1,by omega,by omega,?_⟩;rw[<-key];exact k8
  rw[Am hj2,Am (show xs.length<=j by omega)]
  (repeat' first|refine Ca 38 ?_;refine Cg (hc:=hdo) ?_|refine yyp ?_;try refine Ce ?_ ?_<;>intro hb|refine yy ?_|refine at_nil ?_;refine Cc Ie ?_|refine Cb fun K hK=>?_|refine Cf 3 ?_;refine j0 [16,17] q06 ?_|refine Cf 9 ?_;refine j0 [20] l8 ?_|apply_assumption -exfalso -symm)
  rw[show Hu (Sc.Cm env nn xs)=Hu (Hq (Sc.Cm env nn xs) (nn.take 0)) by rw[Fq,kb8]];refine j6 kq8 [901] (fun j:Nat=>[(41,.d (.int .i64 j))]) (fun j=>[(901,.smap 112 3 (Hu (Hq (Sc.Cm env nn xs) (nn.take j))) none)]) (fun j=>j<=nn.length) (fun j=>nn.length - j) 0 (Ai _) fun j hj=>?_;dsimp only[Ac,Af];rcases Ah j nn.length with hj2|hj2
  ·have hlen:1<=(Hq (Sc.Cm env nn xs) (nn.take j) nn[j]).length:=by
    obtain⟨l,h1,h2⟩:=hpl nn[j];have h3:=jj3 nn[j] nn j hj2;rw[Ad rfl]at h3;have h4:=kb7 nn[j] nn (j+1);unfold Hq;rw[h1,Aj,Ag,h2];omega
   have key:Mt (Hu (Hq (Sc.Cm env nn xs) (nn.take j))) nn[j] (((Hq (Sc.Cm env nn xs) (nn.take j) nn[j]).map Gd).take ((Hq (Sc.Cm env nn xs) (nn.take j) nn[j]).length - 1))=Hu (Hq (Sc.Cm env nn xs) (nn.take (j+1))):=by
    rw[js2 nn _ j hj2,<-Eg];refine(ja4 (Hq (Sc.Cm env nn xs) (nn.take j)) _ nn[j] _ rfl).trans ?_;congr 1;funext t;by_cases ht:t=nn[j]
    ·simp only[Ad ht];rw[ht]
    ·simp only[Ae ht]
   (repeat' first|refine Ca 55 ?_;(refine jg1 950 ?_;refine jd0 950 rfl fun hsm=>?_;simp only[Ab]at hsm)|refine Ca 61 ?_;(refine jr9 ?_)|refine Ca 64 ?_;(refine kb1 (m:=(Hq (Sc.Cm env nn xs) (nn.take j) nn[j]).length - 1) (em:=by first|omega|(simp only[Hu,Ab];omega)) (hm:=by first|omega|(simp only[Hu,Ab];omega)) fun k1=>?_)|refine jg0 20 ?_;(refine jp1 ?_)|refine yyp ?_;try refine Ce ?_ ?_<;>intro hb|refine yy ?_|refine at_nil ?_;refine Cc Ie ?_|refine Cb fun K hK=>?_|refine Cf 3 ?_;refine j0 [16,17] q06 ?_|refine Cf 9 ?_;refine j0 [20] l8 ?_|apply_assumption -exfalso -symm)
   all_goals
    refine⟨j+1,by omega,by omega,?_⟩;rw[<-key];exact k8
  rw[Am hj2,js1 nn xs env (by omega)]
  (repeat' first|refine yyp ?_;try refine Ce ?_ ?_<;>intro hb|refine yy ?_|refine at_nil ?_;refine Cc Ie ?_|refine Cb fun K hK=>?_|refine Cf 3 ?_;refine j0 [16,17] q06 ?_|refine Cf 9 ?_;refine j0 [20] l8 ?_|apply_assumption -exfalso -symm)
  all_goals first
   |exact g8 ⟨rfl,rfl⟩
   |(dsimp only[Exit.Nf,Exit.Lp];exact g8 ⟨rfl,rfl⟩)
 case none=>
  (refine j2 func54 ntmps54 results54 fun w M E b0=>?_)
  refine j8 1 rfl fun hn=>?_;simp only[Ab]at hn
  (repeat' first|refine yyp ?_;try refine Ce ?_ ?_<;>intro hb|refine yy ?_|refine at_nil ?_;refine Cc Ie ?_|refine Cb fun K hK=>?_|refine Cf 3 ?_;refine j0 [16,17] q06 ?_|refine Cf 9 ?_;refine j0 [20] l8 ?_|apply_assumption -exfalso -symm)
  refine j6 kq7 [901] (fun j:Nat=>[(14,.d (.int .i64 j))]) (fun j=>[(901,.smap 112 3 (Hu (Sc.Cm env (nn.take j) (xs.take j))) none)]) (fun j=>j<=nn.length) (fun j=>nn.length - j) 0 (Ai _) fun j hj=>?_;dsimp only[Ac,Af];rcases Ah j nn.length with hj2|hj2
  ·have hj3:j<xs.length:=by omega
   have hlen:(Sc.Cm env (nn.take j) (xs.take j) nn[j]).length<=1000000000 - 1:=by
    obtain⟨l,h1,h2⟩:=je8 (nn.take j) (xs.take j) env nn[j] (by simp;omega);have h3:=jk8 nn[j] (nn.take j);have h4:=hd nn[j];rw[h1,Ag,h2];rw[Aj]at h3;omega
   have key:Mt (Hu (Sc.Cm env (nn.take j) (xs.take j))) nn[j] ((Sc.Cm env (nn.take j) (xs.take j) nn[j]).map Gd++[Gd xs[j]])=Hu (Sc.Cm env (nn.take (j+1)) (xs.take (j+1))):=by
    rw[jn0 nn xs env (by omega) j hj2];have:=ja4 (Sc.Cm env (nn.take j) (xs.take j)) _ nn[j] (Sc.Cm env (nn.take j) (xs.take j) nn[j]++[xs[j]]) rfl;rw[As]at this;refine this.trans ?_;congr 1;funext t;by_cases ht:t=nn[j]
    ·simp only[Ad ht];rw[ht]
    ·simp only[Ae ht]
   (repeat' first|refine Ca 29 ?_;(refine jg1 950 ?_)|refine Ca 34 ?_;(refine Dn 34 ?_)|refine jg0 17 ?_;(refine jp1 ?_)|refine yyp ?_;try refine Ce ?_ ?_<;>intro hb|refine yy ?_|(refine Da ?_;first|(refine Df (fun kv=>?_))|(refine z_append_suf (fun sx sp kv hsx hsp hsl=>?_)))|refine at_nil ?_;refine Cc Ie ?_|refine kf2 ?_ ?_|refine Hz ?_ ?_|refine Cb fun K hK=>?_|refine Cf 3 ?_;refine j0 [16,17] q06 ?_|refine Cf 9 ?_;refine j0 [20] l8 ?_|apply_assumption -exfalso -symm)
   all_goals
    refine⟨j+1,by omega,by omega,?_⟩;rw[<-key];exact k8
  rw[Am hj2,Am (show xs.length<=j by omega)]
  (repeat' first|refine Ca 38 ?_;refine Cg (hc:=hdo) ?_|refine yyp ?_;try refine Ce ?_ ?_<;>intro hb|refine yy ?_|refine at_nil ?_;refine Cc Ie ?_|refine Cb fun K hK=>?_|refine Cf 3 ?_;refine j0 [16,17] q06 ?_|refine Cf 9 ?_;refine j0 [20] l8 ?_|apply_assumption -exfalso -symm)
  rw[show Hu (Sc.Cm env nn xs)=Hu (Hq (Sc.Cm env nn xs) (nn.take 0)) by rw[Fq,kb8]];refine j6 kq8 [901] (fun j:Nat=>[(41,.d (.int .i64 j))]) (fun j=>[(901,.smap 112 3 (Hu (Hq (Sc.Cm env nn xs) (nn.take j))) none)]) (fun j=>j<=nn.length) (fun j=>nn.length - j) 0 (Ai _) fun j hj=>?_;dsimp only[Ac,Af];rcases Ah j nn.length with hj2|hj2
  ·have hlen:1<=(Hq (Sc.Cm env nn xs) (nn.take j) nn[j]).length:=by
    obtain⟨l,h1,h2⟩:=hpl nn[j];have h3:=jj3 nn[j] nn j hj2;rw[Ad rfl]at h3;have h4:=kb7 nn[j] nn (j+1);unfold Hq;rw[h1,Aj,Ag,h2];omega
   have key:Mt (Hu (Hq (Sc.Cm env nn xs) (nn.take j))) nn[j] (((Hq (Sc.Cm env nn xs) (nn.take j) nn[j]).map Gd).take ((Hq (Sc.Cm env nn xs) (nn.take j) nn[j]).length - 1))=Hu (Hq (Sc.Cm env nn xs) (nn.take (j+1))):=by
    rw[js2 nn _ j hj2,<-Eg];refine(ja4 (Hq (Sc.Cm env nn xs) (nn.take j)) _ nn[j] _ rfl).trans ?_;congr 1;funext t;by_cases ht:t=nn[j]
    ·simp only[Ad ht];rw[ht]
    ·simp only[Ae ht]
   (repeat' first|refine Ca 55 ?_;(refine jg1 950 ?_;refine jd0 950 rfl fun hsm=>?_;simp only[Ab]at hsm)|refine Ca 61 ?_;(refine jr9 ?_)|refine Ca 64 ?_;(refine kb1 (m:=(Hq (Sc.Cm env nn xs) (nn.take j) nn[j]).length - 1) (em:=by first|omega|(simp only[Hu,Ab];omega)) (hm:=by first|omega|(simp only[Hu,Ab];omega)) fun k1=>?_)|refine jg0 20 ?_;(refine jp1 ?_)|refine yyp ?_;try refine Ce ?_ ?_<;>intro hb|refine yy ?_|refine at_nil ?_;refine Cc Ie ?_|refine Cb fun K hK=>?_|refine Cf 3 ?_;refine j0 [16,17] q06 ?_|refine Cf 9 ?_;refine j0 [20] l8 ?_|apply_assumption -exfalso -symm)
   all_goals
    refine⟨j+1,by omega,by omega,?_⟩;rw[<-key];exact k8
  rw[Am hj2,js1 nn xs env (by omega)]
  (repeat' first|refine yyp ?_;try refine Ce ?_ ?_<;>intro hb|refine yy ?_|refine at_nil ?_;refine Cc Ie ?_|refine Cb fun K hK=>?_|refine Cf 3 ?_;refine j0 [16,17] q06 ?_|refine Cf 9 ?_;refine j0 [20] l8 ?_|apply_assumption -exfalso -symm)
  all_goals first
   |exact g8 ⟨rfl,rfl⟩
   |(dsimp only[Exit.Nf,Exit.Lp];exact g8 ⟨rfl,rfl⟩)
end
end Go.Proofs.YtklklgfpkpglgaaGreatDoor
