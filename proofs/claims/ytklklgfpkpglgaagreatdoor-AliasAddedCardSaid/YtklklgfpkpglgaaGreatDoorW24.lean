/- Parts. -/
import Derived.Test.YtklklgfpkpglgaaGreatDoorW23
set_option linter.all false
set_option maxRecDepth 100000
set_option maxHeartbeats 0
namespace Go.Proofs.YtklklgfpkpglgaaGreatDoor
open Go.RowKit Go.Proofs.Tryz Sc
variable (gl:List (Nat × List D))
section
def Hw:List Nat:=[0,1,2,3,8,9,11,12,13,14,15,39,40,41,42]
def kq2:List Nat:=[8,9,14,15,16,17,18,19,20,21,22,23,24,25,26,27,28,29,30,31,32,33,34,35,36]
def kq3:List Nat:=[11,41,42,43,44,45,46,47,48,49,50,51,52,53,54,55,56,57,58,59,60,61,62,63,64,65]
def ja1:Plan:=lin [0,4,8,16,20,24,28,36,44,48,52,60,13,33,41,57,65,68,72,76,83]
def ma8 (t:ByteArray):List ByteArray->Nat
 |[]=>0
 |s::l=>(if t=s then 1 else 0)+ma8 t l
theorem kv0 (t:ByteArray):∀ l m:List ByteArray,ma8 t (l++m)=ma8 t l+ma8 t m
 |[],m=>by simp[ma8]
 |s::l,m=>by simp only[Ac,ma8,kv0 t l m];omega
theorem jj3 (t:ByteArray)(l:List ByteArray)(j:Nat)(hj:j<l.length):ma8 t (l.take (j+1))=ma8 t (l.take j)+(if t=l[j] then 1 else 0):=by
 rw[Ao hj,kv0];simp[ma8]
theorem kb0 (t:ByteArray)(l:List ByteArray)(j:Nat):ma8 t (l.take j)<=ma8 t l:=by
 have:=kv0 t (l.take j) (l.drop j);rw[List.take_append_drop]at this;omega
theorem jk7 (t:ByteArray):∀ l:List ByteArray,ma8 t l<=l.length
 |[]=>Au _
 |s::l=>by have:=jk7 t l;simp only[ma8,An];split<;>omega
theorem mq3:∀ (ns:List ByteArray) (xs:List Sc.Ent) (f:ByteArray->List Sc.Ent) (s:ByteArray) (x:Sc.Ent),ns.length=xs.length->
 Ck f (ns++[s]) (xs++[x])=λt=>if t=s then Ck f ns xs t++[x] else Ck f ns xs t
 |[],[],f,s,x,_=>rfl
 |[],_::_,_,_,_,h=>by cases h
 |_::_,[],_,_,_,h=>by cases h
 |n::ns,y::xs,f,s,x,h=>by
  simp only[Ac,Ck];exact mq3 ns xs _ s x (by simpa using h)
theorem jm9 (ns:List ByteArray)(xs:List Sc.Ent)(f:ByteArray->List Sc.Ent)(h:ns.length=xs.length)(j:Nat)(hj:j<ns.length):
 Ck f (ns.take (j+1)) (xs.take (j+1))=λt=>if t=ns[j] then Ck f (ns.take j) (xs.take j) t++[xs[j]] else Ck f (ns.take j) (xs.take j) t:=by
 rw[Ao hj,Ao (by omega)];exact mq3 _ _ _ _ _ (by simp;omega)
theorem jf1:∀ (ns:List ByteArray) (xs:List Sc.Ent) (f:ByteArray->List Sc.Ent) (t:ByteArray),ns.length=xs.length->∃ l,Ck f ns xs t=f t++l/\l.length=ma8 t ns
 |[],[],f,t,_=>⟨[],(Ej _).symm,rfl⟩
 |[],_::_,_,_,h=>by cases h
 |_::_,[],_,_,h=>by cases h
 |n::ns,y::xs,f,t,h=>by
  simp only[Ck];obtain⟨l,h1,h2⟩:=jf1 ns xs (λt=>if t=n then f t++[y] else f t) t (by simpa using h);rw[h1];by_cases ht:t=n
  ·refine⟨y::l,by simp only[Ae ht,Ea,List.singleton_append],by simp only[An,ma8,Ae ht,h2];omega⟩
  ·exact⟨l,by simp only[Af ht],by simp only[ma8,Af ht,h2];omega⟩
def He (f:ByteArray->List Sc.Ent)(ns:List ByteArray)(t:ByteArray):List Sc.Ent:=(f t).take ((f t).length - ma8 t ns)
theorem js1 (ns:List ByteArray)(xs:List Sc.Ent)(f:ByteArray->List Sc.Ent)(h:ns.length=xs.length):He (Ck f ns xs) ns=f:=by
 funext t;obtain⟨l,h1,h2⟩:=jf1 ns xs f t h;unfold He;rw[h1,Ag,h2,Nat.add_sub_cancel,List.take_append_of_le_length (Au _),Bk]
theorem kb1 (f:ByteArray->List Sc.Ent):He f []=f:=by
 funext t;simp[He,ma8]
theorem js2 (ns:List ByteArray)(f:ByteArray->List Sc.Ent)(j:Nat)(hj:j<ns.length):
 He f (ns.take (j+1))=λt=>if t=ns[j] then (He f (ns.take j) t).take ((He f (ns.take j) t).length - 1) else He f (ns.take j) t:=by
 funext t;unfold He;rw[jj3 t ns j hj];split
 ·rw[List.take_take,Ak];congr 1;omega
 ·rw[Nat.add_zero]
theorem jb2 (f g:ByteArray->List Sc.Ent)(s:ByteArray)(l:List Sc.Ent)(h:g=λt=>if t=s then l else f t):Nc (Hq f) s (l.map Fv)=Hq g:=by
 subst h;funext t;unfold Nc Hq;by_cases ht:t=s
 ·simp only[Ae ht]
 ·simp only[Af ht]
def Sc.W.deep (σ:W)(m:Nat):Prop:=∀ s,(σ.env s).length+m<=1000000000
def pv (p:Pr):List V:=[.d (.int .u8 p.kind),.d (.str p.name),
    .d (.int .u8 p.av.kind),.d (.int .u8 p.av.op),.d (.int .u8 p.av.ty),.d (.int .i32 p.av.n),.d (.str p.av.s),.d (.list 6 (p.av.l.map dEx)),
    .d (.list 6 (p.aj.map dEx)),.d (.list 6 (p.au.map dEx)),
    .d (.str p.rep.name),.d (.int .u8 p.rep.base.kind),.d (.int .u8 p.rep.base.op),.d (.int .u8 p.rep.base.ty),.d (.int .i32 p.rep.base.n),.d (.str p.rep.base.s),.d (.list 6 (p.rep.base.l.map dEx)),
    .d (.int .u8 p.rep.count.kind),.d (.int .u8 p.rep.count.op),.d (.int .u8 p.rep.count.ty),.d (.int .i32 p.rep.count.n),.d (.str p.rep.count.s),.d (.list 6 (p.rep.count.l.map dEx)),
    .d (.list 23 (p.ak.map dGu)),.d (.list 42 (p.l.map dPr)),.d (.list 1 (p.ay.map (.int .i64))),
    .d (.int .u8 p.spec.kind),.d (.int .u8 p.spec.type.kind),.d (.int .i64 p.spec.type.dim),.d (.int .u8 p.spec.type.item),.d (.str p.spec.type.aN),.d (.list 1 (p.spec.names.map .str)),
    .d (.int .u8 p.spec.e.kind),.d (.int .u8 p.spec.e.op),.d (.int .u8 p.spec.e.ty),.d (.int .i32 p.spec.e.n),.d (.str p.spec.e.s),.d (.list 6 (p.spec.e.l.map dEx)),
    .d (.bool p.spec.aN.cases),.d (.list 2 (p.spec.aN.l.map dVa)),.d (.list 6 (p.spec.ax.map dFo)),.d (.list 42 (p.spec.body.map dPr))]
def sv (s:Sp):List V:=[.d (.int .u8 s.kind),.d (.int .u8 s.type.kind),.d (.int .i64 s.type.dim),.d (.int .u8 s.type.item),.d (.str s.type.aN),.d (.list 1 (s.names.map .str)),
    .d (.int .u8 s.e.kind),.d (.int .u8 s.e.op),.d (.int .u8 s.e.ty),.d (.int .i32 s.e.n),.d (.str s.e.s),.d (.list 6 (s.e.l.map dEx)),
    .d (.bool s.aN.cases),.d (.list 2 (s.aN.l.map dVa)),.d (.list 6 (s.ax.map dFo)),.d (.list 42 (s.body.map dPr))]
attribute [local irreducible] TR TC
theorem jk8 (k:Sc.Kind)(σ σ2:W)(nn:List ByteArray)(xs:List Sc.Ent)(p p2:Pr)(hl:nn.length=xs.length)(hd:σ.deep nn.length)(he:σ2.env=Ck σ.env nn xs)
 (hdo:FnE prog gl 55 [.ptr 1003 0,.ptr 1002 0] ((1003,.box (pv p))::(1002,.box [.ptr 900 0])::HW k {σ with env:=Ck σ.env nn xs})
   (λv H1=>v=.tup []/\H1=(1003,.box (pv p2))::(1002,.box [.ptr 900 0])::HW k σ2)):
 FnE prog gl 54 [.ptr 900 0,.d (.list 1 (nn.map .str)),.d (.list 3 (xs.map Fv)),.clo (.func 55) [] [.ptr 1003 0,.ptr 1002 0]] ((1003,.box (pv p))::(1002,.box [.ptr 900 0])::HW k σ)
  (λv H1=>v=.tup []/\H1=(1003,.box (pv p2))::(1002,.box [.ptr 900 0])::HW k {σ2 with env:=σ.env}):=by
 unfold W.deep at hd;have hpl:=λt=>jf1 nn xs σ.env t hl;have hle1:nn.length<=xs.length:=Fq hl;have hle2:xs.length<=nn.length:=Fq hl.symm;clear hl;obtain⟨env,tk,c,ev⟩:=σ;obtain⟨env2,tk2,c2,ev2⟩:=σ2;dsimp only at he hd hpl hdo ⊢;subst he;cases k
 all_goals dsimp only[HW,ja9,n7]at hdo ⊢
 case free=>
  (refine j2 func54 ntmps54 results54 λw M E b0=>?_)
  refine k7 1 rfl λhn=>?_;simp only[Aa]at hn
  (repeat' first|refine yyp ?_;try refine Ce ?_ ?_<;>intro hb|refine yy ?_|apply ah;refine Cc Hw ?_|refine Cb λK hK=>?_|apply Cf 3;refine j0 [16,17] q07 ?_|apply Cf 9;refine j0 [20] ja1 ?_|apply_assumption -exfalso -symm)
  refine j9 kq2 [901] (λj:Nat=>[(14,.d (.int .i64 j))]) (λj=>[(901,.smap 112 3 (Hq (Ck env (nn.take j) (xs.take j))) none)]) (λj=>j<=nn.length) (λj=>nn.length - j) 0 (Ai _) λj hj=>?_;dsimp only[Ac,Ad];rcases Ah j nn.length with hj2|hj2
  ·have hj3:j<xs.length:=by omega
   have hlen:(Ck env (nn.take j) (xs.take j) nn[j]).length<=1000000000 - 1:=by
    obtain⟨l,h1,h2⟩:=jf1 (nn.take j) (xs.take j) env nn[j] (by simp;omega);have h3:=jk7 nn[j] (nn.take j);have h4:=hd nn[j];rw[h1,Ag,h2];rw[Ak]at h3;omega
   have key:Nc (Hq (Ck env (nn.take j) (xs.take j))) nn[j] ((Ck env (nn.take j) (xs.take j) nn[j]).map Fv++[Fv xs[j]])=Hq (Ck env (nn.take (j+1)) (xs.take (j+1))):=by
    rw[jm9 nn xs env (by omega) j hj2];have:=jb2 (Ck env (nn.take j) (xs.take j)) _ nn[j] (Ck env (nn.take j) (xs.take j) nn[j]++[xs[j]]) rfl;rw[Ar]at this;refine this.trans ?_;congr 1;funext t;by_cases ht:t=nn[j]
    ·simp only[Ae ht];rw[ht]
    ·simp only[Af ht]
   (repeat' first|apply Ca 29;(refine jg1 950 ?_)|apply Ca 34;(refine Df 34 ?_)|refine jg0 17 ?_;(refine jo9 ?_)|refine yyp ?_;try refine Ce ?_ ?_<;>intro hb|refine yy ?_|(apply Cw;first|(refine Da (λkv=>?_))|(refine ai (λsx sp kv hsx hsp hsl=>?_)))|apply ah;refine Cc Hw ?_|refine ju0 ?_ ?_|refine Ht ?_ ?_|refine Cb λK hK=>?_|apply Cf 3;refine j0 [16,17] q07 ?_|apply Cf 9;refine j0 [20] ja1 ?_|apply_assumption -exfalso -symm)
   all_goals
    refine⟨j+1,by omega,by omega,?_⟩;rw[<-key];exact r9
  rw[Am hj2,Am (show xs.length<=j by omega)]
  (repeat' first|apply Ca 38;refine Ch (hc:=hdo) ?_|refine yyp ?_;try refine Ce ?_ ?_<;>intro hb|refine yy ?_|apply ah;refine Cc Hw ?_|refine Cb λK hK=>?_|apply Cf 3;refine j0 [16,17] q07 ?_|apply Cf 9;refine j0 [20] ja1 ?_|apply_assumption -exfalso -symm)
  rw[show Hq (Ck env nn xs)=Hq (He (Ck env nn xs) (nn.take 0)) by rw[Fh,kb1]];refine j9 kq3 [901] (λj:Nat=>[(41,.d (.int .i64 j))]) (λj=>[(901,.smap 112 3 (Hq (He (Ck env nn xs) (nn.take j))) none)]) (λj=>j<=nn.length) (λj=>nn.length - j) 0 (Ai _) λj hj=>?_;dsimp only[Ac,Ad];rcases Ah j nn.length with hj2|hj2
  ·have hlen:1<=(He (Ck env nn xs) (nn.take j) nn[j]).length:=by
    obtain⟨l,h1,h2⟩:=hpl nn[j];have h3:=jj3 nn[j] nn j hj2;rw[Ae rfl]at h3;have h4:=kb0 nn[j] nn (j+1);unfold He;rw[h1,Ak,Ag,h2];omega
   have key:Nc (Hq (He (Ck env nn xs) (nn.take j))) nn[j] (((He (Ck env nn xs) (nn.take j) nn[j]).map Fv).take ((He (Ck env nn xs) (nn.take j) nn[j]).length - 1))=Hq (He (Ck env nn xs) (nn.take (j+1))):=by
    rw[js2 nn _ j hj2,<-Ek];refine(jb2 (He (Ck env nn xs) (nn.take j)) _ nn[j] _ rfl).trans ?_;congr 1;funext t;by_cases ht:t=nn[j]
    ·simp only[Ae ht];rw[ht]
    ·simp only[Af ht]
   (repeat' first|apply Ca 55;(refine jg1 950 ?_;refine jd8 950 rfl λhsm=>?_;simp only[Aa]at hsm)|apply Ca 61;(refine js0 ?_)|apply Ca 64;(refine ka3 (m:=(He (Ck env nn xs) (nn.take j) nn[j]).length - 1) (em:=by first|omega|(simp only[Hq,Aa];omega)) (hm:=by first|omega|(simp only[Hq,Aa];omega)) λk1=>?_)|refine jg0 20 ?_;(refine jo9 ?_)|refine yyp ?_;try refine Ce ?_ ?_<;>intro hb|refine yy ?_|apply ah;refine Cc Hw ?_|refine Cb λK hK=>?_|apply Cf 3;refine j0 [16,17] q07 ?_|apply Cf 9;refine j0 [20] ja1 ?_|apply_assumption -exfalso -symm)
   all_goals
    refine⟨j+1,by omega,by omega,?_⟩;rw[<-key];exact r9
  rw[Am hj2,js1 nn xs env (by omega)]
  (repeat' first|refine yyp ?_;try refine Ce ?_ ?_<;>intro hb|refine yy ?_|apply ah;refine Cc Hw ?_|refine Cb λK hK=>?_|apply Cf 3;refine j0 [16,17] q07 ?_|apply Cf 9;refine j0 [20] ja1 ?_|apply_assumption -exfalso -symm)
  all_goals first
   |exact n9 ⟨rfl,rfl⟩
   |(dsimp only[Exit.Mk,Exit.Mf];exact n9 ⟨rfl,rfl⟩)
 case check ns=>
  (refine j2 func54 ntmps54 results54 λw M E b0=>?_)
  refine k7 1 rfl λhn=>?_;simp only[Aa]at hn
  (repeat' first|refine yyp ?_;try refine Ce ?_ ?_<;>intro hb|refine yy ?_|apply ah;refine Cc Hw ?_|refine Cb λK hK=>?_|apply Cf 3;refine j0 [16,17] q07 ?_|apply Cf 9;refine j0 [20] ja1 ?_|apply_assumption -exfalso -symm)
  refine j9 kq2 [901] (λj:Nat=>[(14,.d (.int .i64 j))]) (λj=>[(901,.smap 112 3 (Hq (Ck env (nn.take j) (xs.take j))) none)]) (λj=>j<=nn.length) (λj=>nn.length - j) 0 (Ai _) λj hj=>?_;dsimp only[Ac,Ad];rcases Ah j nn.length with hj2|hj2
  ·have hj3:j<xs.length:=by omega
   have hlen:(Ck env (nn.take j) (xs.take j) nn[j]).length<=1000000000 - 1:=by
    obtain⟨l,h1,h2⟩:=jf1 (nn.take j) (xs.take j) env nn[j] (by simp;omega);have h3:=jk7 nn[j] (nn.take j);have h4:=hd nn[j];rw[h1,Ag,h2];rw[Ak]at h3;omega
   have key:Nc (Hq (Ck env (nn.take j) (xs.take j))) nn[j] ((Ck env (nn.take j) (xs.take j) nn[j]).map Fv++[Fv xs[j]])=Hq (Ck env (nn.take (j+1)) (xs.take (j+1))):=by
    rw[jm9 nn xs env (by omega) j hj2];have:=jb2 (Ck env (nn.take j) (xs.take j)) _ nn[j] (Ck env (nn.take j) (xs.take j) nn[j]++[xs[j]]) rfl;rw[Ar]at this;refine this.trans ?_;congr 1;funext t;by_cases ht:t=nn[j]
    ·simp only[Ae ht];rw[ht]
    ·simp only[Af ht]
   (repeat' first|apply Ca 29;(refine jg1 950 ?_)|apply Ca 34;(refine Df 34 ?_)|refine jg0 17 ?_;(refine jo9 ?_)|refine yyp ?_;try refine Ce ?_ ?_<;>intro hb|refine yy ?_|(apply Cw;first|(refine Da (λkv=>?_))|(refine ai (λsx sp kv hsx hsp hsl=>?_)))|apply ah;refine Cc Hw ?_|refine ju0 ?_ ?_|refine Ht ?_ ?_|refine Cb λK hK=>?_|apply Cf 3;refine j0 [16,17] q07 ?_|apply Cf 9;refine j0 [20] ja1 ?_|apply_assumption -exfalso -symm)
   all_goals
    refine⟨j+1,by omega,by omega,?_⟩;rw[<-key];exact r9
  rw[Am hj2,Am (show xs.length<=j by omega)]
  (repeat' first|apply Ca 38;refine Ch (hc:=hdo) ?_|refine yyp ?_;try refine Ce ?_ ?_<;>intro hb|refine yy ?_|apply ah;refine Cc Hw ?_|refine Cb λK hK=>?_|apply Cf 3;refine j0 [16,17] q07 ?_|apply Cf 9;refine j0 [20] ja1 ?_|apply_assumption -exfalso -symm)
  rw[show Hq (Ck env nn xs)=Hq (He (Ck env nn xs) (nn.take 0)) by rw[Fh,kb1]];refine j9 kq3 [901] (λj:Nat=>[(41,.d (.int .i64 j))]) (λj=>[(901,.smap 112 3 (Hq (He (Ck env nn xs) (nn.take j))) none)]) (λj=>j<=nn.length) (λj=>nn.length - j) 0 (Ai _) λj hj=>?_;dsimp only[Ac,Ad];rcases Ah j nn.length with hj2|hj2
  ·have hlen:1<=(He (Ck env nn xs) (nn.take j) nn[j]).length:=by
    obtain⟨l,h1,h2⟩:=hpl nn[j];have h3:=jj3 nn[j] nn j hj2;rw[Ae rfl]at h3;have h4:=kb0 nn[j] nn (j+1);unfold He;rw[h1,Ak,Ag,h2];omega
   have key:Nc (Hq (He (Ck env nn xs) (nn.take j))) nn[j] (((He (Ck env nn xs) (nn.take j) nn[j]).map Fv).take ((He (Ck env nn xs) (nn.take j) nn[j]).length - 1))=Hq (He (Ck env nn xs) (nn.take (j+1))):=by
    rw[js2 nn _ j hj2,<-Ek];refine(jb2 (He (Ck env nn xs) (nn.take j)) _ nn[j] _ rfl).trans ?_;congr 1;funext t;by_cases ht:t=nn[j]
    ·simp only[Ae ht];rw[ht]
    ·simp only[Af ht]
   (repeat' first|apply Ca 55;(refine jg1 950 ?_;refine jd8 950 rfl λhsm=>?_;simp only[Aa]at hsm)|apply Ca 61;(refine js0 ?_)|apply Ca 64;(refine ka3 (m:=(He (Ck env nn xs) (nn.take j) nn[j]).length - 1) (em:=by first|omega|(simp only[Hq,Aa];omega)) (hm:=by first|omega|(simp only[Hq,Aa];omega)) λk1=>?_)|refine jg0 20 ?_;(refine jo9 ?_)|refine yyp ?_;try refine Ce ?_ ?_<;>intro hb|refine yy ?_|apply ah;refine Cc Hw ?_|refine Cb λK hK=>?_|apply Cf 3;refine j0 [16,17] q07 ?_|apply Cf 9;refine j0 [20] ja1 ?_|apply_assumption -exfalso -symm)
   all_goals
    refine⟨j+1,by omega,by omega,?_⟩;rw[<-key];exact r9
  rw[Am hj2,js1 nn xs env (by omega)]
  (repeat' first|refine yyp ?_;try refine Ce ?_ ?_<;>intro hb|refine yy ?_|apply ah;refine Cc Hw ?_|refine Cb λK hK=>?_|apply Cf 3;refine j0 [16,17] q07 ?_|apply Cf 9;refine j0 [20] ja1 ?_|apply_assumption -exfalso -symm)
  all_goals first
   |exact n9 ⟨rfl,rfl⟩
   |(dsimp only[Exit.Mk,Exit.Mf];exact n9 ⟨rfl,rfl⟩)
 case none=>
  (refine j2 func54 ntmps54 results54 λw M E b0=>?_)
  refine k7 1 rfl λhn=>?_;simp only[Aa]at hn
  (repeat' first|refine yyp ?_;try refine Ce ?_ ?_<;>intro hb|refine yy ?_|apply ah;refine Cc Hw ?_|refine Cb λK hK=>?_|apply Cf 3;refine j0 [16,17] q07 ?_|apply Cf 9;refine j0 [20] ja1 ?_|apply_assumption -exfalso -symm)
  refine j9 kq2 [901] (λj:Nat=>[(14,.d (.int .i64 j))]) (λj=>[(901,.smap 112 3 (Hq (Ck env (nn.take j) (xs.take j))) none)]) (λj=>j<=nn.length) (λj=>nn.length - j) 0 (Ai _) λj hj=>?_;dsimp only[Ac,Ad];rcases Ah j nn.length with hj2|hj2
  ·have hj3:j<xs.length:=by omega
   have hlen:(Ck env (nn.take j) (xs.take j) nn[j]).length<=1000000000 - 1:=by
    obtain⟨l,h1,h2⟩:=jf1 (nn.take j) (xs.take j) env nn[j] (by simp;omega);have h3:=jk7 nn[j] (nn.take j);have h4:=hd nn[j];rw[h1,Ag,h2];rw[Ak]at h3;omega
   have key:Nc (Hq (Ck env (nn.take j) (xs.take j))) nn[j] ((Ck env (nn.take j) (xs.take j) nn[j]).map Fv++[Fv xs[j]])=Hq (Ck env (nn.take (j+1)) (xs.take (j+1))):=by
    rw[jm9 nn xs env (by omega) j hj2];have:=jb2 (Ck env (nn.take j) (xs.take j)) _ nn[j] (Ck env (nn.take j) (xs.take j) nn[j]++[xs[j]]) rfl;rw[Ar]at this;refine this.trans ?_;congr 1;funext t;by_cases ht:t=nn[j]
    ·simp only[Ae ht];rw[ht]
    ·simp only[Af ht]
   (repeat' first|apply Ca 29;(refine jg1 950 ?_)|apply Ca 34;(refine Df 34 ?_)|refine jg0 17 ?_;(refine jo9 ?_)|refine yyp ?_;try refine Ce ?_ ?_<;>intro hb|refine yy ?_|(apply Cw;first|(refine Da (λkv=>?_))|(refine ai (λsx sp kv hsx hsp hsl=>?_)))|apply ah;refine Cc Hw ?_|refine ju0 ?_ ?_|refine Ht ?_ ?_|refine Cb λK hK=>?_|apply Cf 3;refine j0 [16,17] q07 ?_|apply Cf 9;refine j0 [20] ja1 ?_|apply_assumption -exfalso -symm)
   all_goals
    refine⟨j+1,by omega,by omega,?_⟩;rw[<-key];exact r9
  rw[Am hj2,Am (show xs.length<=j by omega)]
  (repeat' first|apply Ca 38;refine Ch (hc:=hdo) ?_|refine yyp ?_;try refine Ce ?_ ?_<;>intro hb|refine yy ?_|apply ah;refine Cc Hw ?_|refine Cb λK hK=>?_|apply Cf 3;refine j0 [16,17] q07 ?_|apply Cf 9;refine j0 [20] ja1 ?_|apply_assumption -exfalso -symm)
  rw[show Hq (Ck env nn xs)=Hq (He (Ck env nn xs) (nn.take 0)) by rw[Fh,kb1]];refine j9 kq3 [901] (λj:Nat=>[(41,.d (.int .i64 j))]) (λj=>[(901,.smap 112 3 (Hq (He (Ck env nn xs) (nn.take j))) none)]) (λj=>j<=nn.length) (λj=>nn.length - j) 0 (Ai _) λj hj=>?_;dsimp only[Ac,Ad];rcases Ah j nn.length with hj2|hj2
  ·have hlen:1<=(He (Ck env nn xs) (nn.take j) nn[j]).length:=by
    obtain⟨l,h1,h2⟩:=hpl nn[j];have h3:=jj3 nn[j] nn j hj2;rw[Ae rfl]at h3;have h4:=kb0 nn[j] nn (j+1);unfold He;rw[h1,Ak,Ag,h2];omega
   have key:Nc (Hq (He (Ck env nn xs) (nn.take j))) nn[j] (((He (Ck env nn xs) (nn.take j) nn[j]).map Fv).take ((He (Ck env nn xs) (nn.take j) nn[j]).length - 1))=Hq (He (Ck env nn xs) (nn.take (j+1))):=by
    rw[js2 nn _ j hj2,<-Ek];refine(jb2 (He (Ck env nn xs) (nn.take j)) _ nn[j] _ rfl).trans ?_;congr 1;funext t;by_cases ht:t=nn[j]
    ·simp only[Ae ht];rw[ht]
    ·simp only[Af ht]
   (repeat' first|apply Ca 55;(refine jg1 950 ?_;refine jd8 950 rfl λhsm=>?_;simp only[Aa]at hsm)|apply Ca 61;(refine js0 ?_)|apply Ca 64;(refine ka3 (m:=(He (Ck env nn xs) (nn.take j) nn[j]).length - 1) (em:=by first|omega|(simp only[Hq,Aa];omega)) (hm:=by first|omega|(simp only[Hq,Aa];omega)) λk1=>?_)|refine jg0 20 ?_;(refine jo9 ?_)|refine yyp ?_;try refine Ce ?_ ?_<;>intro hb|refine yy ?_|apply ah;refine Cc Hw ?_|refine Cb λK hK=>?_|apply Cf 3;refine j0 [16,17] q07 ?_|apply Cf 9;refine j0 [20] ja1 ?_|apply_assumption -exfalso -symm)
   all_goals
    refine⟨j+1,by omega,by omega,?_⟩;rw[<-key];exact r9
  rw[Am hj2,js1 nn xs env (by omega)]
  (repeat' first|refine yyp ?_;try refine Ce ?_ ?_<;>intro hb|refine yy ?_|apply ah;refine Cc Hw ?_|refine Cb λK hK=>?_|apply Cf 3;refine j0 [16,17] q07 ?_|apply Cf 9;refine j0 [20] ja1 ?_|apply_assumption -exfalso -symm)
  all_goals first
   |exact n9 ⟨rfl,rfl⟩
   |(dsimp only[Exit.Mk,Exit.Mf];exact n9 ⟨rfl,rfl⟩)
theorem qw6 (k:Sc.Kind)(σ σ2:W)(nn:List ByteArray)(xs:List Sc.Ent)(p p2:Sp)(hl:nn.length=xs.length)(hd:σ.deep nn.length)(he:σ2.env=Ck σ.env nn xs)
 (hdo:FnE prog gl 88 [.ptr 1003 0,.ptr 1002 0] ((1003,.box (sv p))::(1002,.box [.ptr 900 0])::HW k {σ with env:=Ck σ.env nn xs})
   (λv H1=>v=.tup []/\H1=(1003,.box (sv p2))::(1002,.box [.ptr 900 0])::HW k σ2)):
 FnE prog gl 54 [.ptr 900 0,.d (.list 1 (nn.map .str)),.d (.list 3 (xs.map Fv)),.clo (.func 88) [] [.ptr 1003 0,.ptr 1002 0]] ((1003,.box (sv p))::(1002,.box [.ptr 900 0])::HW k σ)
  (λv H1=>v=.tup []/\H1=(1003,.box (sv p2))::(1002,.box [.ptr 900 0])::HW k {σ2 with env:=σ.env}):=by
 unfold W.deep at hd;have hpl:=λt=>jf1 nn xs σ.env t hl;have hle1:nn.length<=xs.length:=Fq hl;have hle2:xs.length<=nn.length:=Fq hl.symm;clear hl;obtain⟨env,tk,c,ev⟩:=σ;obtain⟨env2,tk2,c2,ev2⟩:=σ2;dsimp only at he hd hpl hdo ⊢;subst he;cases k
 all_goals dsimp only[HW,ja9,n7]at hdo ⊢
 case free=>
  (refine j2 func54 ntmps54 results54 λw M E b0=>?_)
  refine k7 1 rfl λhn=>?_;simp only[Aa]at hn
  (repeat' first|refine yyp ?_;try refine Ce ?_ ?_<;>intro hb|refine yy ?_|apply ah;refine Cc Hw ?_|refine Cb λK hK=>?_|apply Cf 3;refine j0 [16,17] q07 ?_|apply Cf 9;refine j0 [20] ja1 ?_|apply_assumption -exfalso -symm)
  refine j9 kq2 [901] (λj:Nat=>[(14,.d (.int .i64 j))]) (λj=>[(901,.smap 112 3 (Hq (Ck env (nn.take j) (xs.take j))) none)]) (λj=>j<=nn.length) (λj=>nn.length - j) 0 (Ai _) λj hj=>?_;dsimp only[Ac,Ad];rcases Ah j nn.length with hj2|hj2
  ·have hj3:j<xs.length:=by omega
   have hlen:(Ck env (nn.take j) (xs.take j) nn[j]).length<=1000000000 - 1:=by
    obtain⟨l,h1,h2⟩:=jf1 (nn.take j) (xs.take j) env nn[j] (by simp;omega);have h3:=jk7 nn[j] (nn.take j);have h4:=hd nn[j];rw[h1,Ag,h2];rw[Ak]at h3;omega
   have key:Nc (Hq (Ck env (nn.take j) (xs.take j))) nn[j] ((Ck env (nn.take j) (xs.take j) nn[j]).map Fv++[Fv xs[j]])=Hq (Ck env (nn.take (j+1)) (xs.take (j+1))):=by
    rw[jm9 nn xs env (by omega) j hj2];have:=jb2 (Ck env (nn.take j) (xs.take j)) _ nn[j] (Ck env (nn.take j) (xs.take j) nn[j]++[xs[j]]) rfl;rw[Ar]at this;refine this.trans ?_;congr 1;funext t;by_cases ht:t=nn[j]
    ·simp only[Ae ht];rw[ht]
    ·simp only[Af ht]
   (repeat' first|apply Ca 29;(refine jg1 950 ?_)|apply Ca 34;(refine Df 34 ?_)|refine jg0 17 ?_;(refine jo9 ?_)|refine yyp ?_;try refine Ce ?_ ?_<;>intro hb|refine yy ?_|(apply Cw;first|(refine Da (λkv=>?_))|(refine ai (λsx sp kv hsx hsp hsl=>?_)))|apply ah;refine Cc Hw ?_|refine ju0 ?_ ?_|refine Ht ?_ ?_|refine Cb λK hK=>?_|apply Cf 3;refine j0 [16,17] q07 ?_|apply Cf 9;refine j0 [20] ja1 ?_|apply_assumption -exfalso -symm)
   all_goals
    refine⟨j+1,by omega,by omega,?_⟩;rw[<-key];exact r9
  rw[Am hj2,Am (show xs.length<=j by omega)]
  (repeat' first|apply Ca 38;refine Ch (hc:=hdo) ?_|refine yyp ?_;try refine Ce ?_ ?_<;>intro hb|refine yy ?_|apply ah;refine Cc Hw ?_|refine Cb λK hK=>?_|apply Cf 3;refine j0 [16,17] q07 ?_|apply Cf 9;refine j0 [20] ja1 ?_|apply_assumption -exfalso -symm)
  rw[show Hq (Ck env nn xs)=Hq (He (Ck env nn xs) (nn.take 0)) by rw[Fh,kb1]];refine j9 kq3 [901] (λj:Nat=>[(41,.d (.int .i64 j))]) (λj=>[(901,.smap 112 3 (Hq (He (Ck env nn xs) (nn.take j))) none)]) (λj=>j<=nn.length) (λj=>nn.length - j) 0 (Ai _) λj hj=>?_;dsimp only[Ac,Ad];rcases Ah j nn.length with hj2|hj2
  ·have hlen:1<=(He (Ck env nn xs) (nn.take j) nn[j]).length:=by
    obtain⟨l,h1,h2⟩:=hpl nn[j];have h3:=jj3 nn[j] nn j hj2;rw[Ae rfl]at h3;have h4:=kb0 nn[j] nn (j+1);unfold He;rw[h1,Ak,Ag,h2];omega
   have key:Nc (Hq (He (Ck env nn xs) (nn.take j))) nn[j] (((He (Ck env nn xs) (nn.take j) nn[j]).map Fv).take ((He (Ck env nn xs) (nn.take j) nn[j]).length - 1))=Hq (He (Ck env nn xs) (nn.take (j+1))):=by
    rw[js2 nn _ j hj2,<-Ek];refine(jb2 (He (Ck env nn xs) (nn.take j)) _ nn[j] _ rfl).trans ?_;congr 1;funext t;by_cases ht:t=nn[j]
    ·simp only[Ae ht];rw[ht]
    ·simp only[Af ht]
   (repeat' first|apply Ca 55;(refine jg1 950 ?_;refine jd8 950 rfl λhsm=>?_;simp only[Aa]at hsm)|apply Ca 61;(refine js0 ?_)|apply Ca 64;(refine ka3 (m:=(He (Ck env nn xs) (nn.take j) nn[j]).length - 1) (em:=by first|omega|(simp only[Hq,Aa];omega)) (hm:=by first|omega|(simp only[Hq,Aa];omega)) λk1=>?_)|refine jg0 20 ?_;(refine jo9 ?_)|refine yyp ?_;try refine Ce ?_ ?_<;>intro hb|refine yy ?_|apply ah;refine Cc Hw ?_|refine Cb λK hK=>?_|apply Cf 3;refine j0 [16,17] q07 ?_|apply Cf 9;refine j0 [20] ja1 ?_|apply_assumption -exfalso -symm)
   all_goals
    refine⟨j+1,by omega,by omega,?_⟩;rw[<-key];exact r9
  rw[Am hj2,js1 nn xs env (by omega)]
  (repeat' first|refine yyp ?_;try refine Ce ?_ ?_<;>intro hb|refine yy ?_|apply ah;refine Cc Hw ?_|refine Cb λK hK=>?_|apply Cf 3;refine j0 [16,17] q07 ?_|apply Cf 9;refine j0 [20] ja1 ?_|apply_assumption -exfalso -symm)
  all_goals first
   |exact n9 ⟨rfl,rfl⟩
   |(dsimp only[Exit.Mk,Exit.Mf];exact n9 ⟨rfl,rfl⟩)
 case check ns=>
  (refine j2 func54 ntmps54 results54 λw M E b0=>?_)
  refine k7 1 rfl λhn=>?_;simp only[Aa]at hn
  (repeat' first|refine yyp ?_;try refine Ce ?_ ?_<;>intro hb|refine yy ?_|apply ah;refine Cc Hw ?_|refine Cb λK hK=>?_|apply Cf 3;refine j0 [16,17] q07 ?_|apply Cf 9;refine j0 [20] ja1 ?_|apply_assumption -exfalso -symm)
  refine j9 kq2 [901] (λj:Nat=>[(14,.d (.int .i64 j))]) (λj=>[(901,.smap 112 3 (Hq (Ck env (nn.take j) (xs.take j))) none)]) (λj=>j<=nn.length) (λj=>nn.length - j) 0 (Ai _) λj hj=>?_;dsimp only[Ac,Ad];rcases Ah j nn.length with hj2|hj2
  ·have hj3:j<xs.length:=by omega
   have hlen:(Ck env (nn.take j) (xs.take j) nn[j]).length<=1000000000 - 1:=by
    obtain⟨l,h1,h2⟩:=jf1 (nn.take j) (xs.take j) env nn[j] (by simp;omega);have h3:=jk7 nn[j] (nn.take j);have h4:=hd nn[j];rw[h1,Ag,h2];rw[Ak]at h3;omega
   have key:Nc (Hq (Ck env (nn.take j) (xs.take j))) nn[j] ((Ck env (nn.take j) (xs.take j) nn[j]).map Fv++[Fv xs[j]])=Hq (Ck env (nn.take (j+1)) (xs.take (j+1))):=by
    rw[jm9 nn xs env (by omega) j hj2];have:=jb2 (Ck env (nn.take j) (xs.take j)) _ nn[j] (Ck env (nn.take j) (xs.take j) nn[j]++[xs[j]]) rfl;rw[Ar]at this;refine this.trans ?_;congr 1;funext t;by_cases ht:t=nn[j]
    ·simp only[Ae ht];rw[ht]
    ·simp only[Af ht]
   (repeat' first|apply Ca 29;(refine jg1 950 ?_)|apply Ca 34;(refine Df 34 ?_)|refine jg0 17 ?_;(refine jo9 ?_)|refine yyp ?_;try refine Ce ?_ ?_<;>intro hb|refine yy ?_|(apply Cw;first|(refine Da (λkv=>?_))|(refine ai (λsx sp kv hsx hsp hsl=>?_)))|apply ah;refine Cc Hw ?_|refine ju0 ?_ ?_|refine Ht ?_ ?_|refine Cb λK hK=>?_|apply Cf 3;refine j0 [16,17] q07 ?_|apply Cf 9;refine j0 [20] ja1 ?_|apply_assumption -exfalso -symm)
   all_goals
    refine⟨j+1,by omega,by omega,?_⟩;rw[<-key];exact r9
  rw[Am hj2,Am (show xs.length<=j by omega)]
  (repeat' first|apply Ca 38;refine Ch (hc:=hdo) ?_|refine yyp ?_;try refine Ce ?_ ?_<;>intro hb|refine yy ?_|apply ah;refine Cc Hw ?_|refine Cb λK hK=>?_|apply Cf 3;refine j0 [16,17] q07 ?_|apply Cf 9;refine j0 [20] ja1 ?_|apply_assumption -exfalso -symm)
  rw[show Hq (Ck env nn xs)=Hq (He (Ck env nn xs) (nn.take 0)) by rw[Fh,kb1]];refine j9 kq3 [901] (λj:Nat=>[(41,.d (.int .i64 j))]) (λj=>[(901,.smap 112 3 (Hq (He (Ck env nn xs) (nn.take j))) none)]) (λj=>j<=nn.length) (λj=>nn.length - j) 0 (Ai _) λj hj=>?_;dsimp only[Ac,Ad];rcases Ah j nn.length with hj2|hj2
  ·have hlen:1<=(He (Ck env nn xs) (nn.take j) nn[j]).length:=by
    obtain⟨l,h1,h2⟩:=hpl nn[j];have h3:=jj3 nn[j] nn j hj2;rw[Ae rfl]at h3;have h4:=kb0 nn[j] nn (j+1);unfold He;rw[h1,Ak,Ag,h2];omega
   have key:Nc (Hq (He (Ck env nn xs) (nn.take j))) nn[j] (((He (Ck env nn xs) (nn.take j) nn[j]).map Fv).take ((He (Ck env nn xs) (nn.take j) nn[j]).length - 1))=Hq (He (Ck env nn xs) (nn.take (j+1))):=by
    rw[js2 nn _ j hj2,<-Ek];refine(jb2 (He (Ck env nn xs) (nn.take j)) _ nn[j] _ rfl).trans ?_;congr 1;funext t;by_cases ht:t=nn[j]
    ·simp only[Ae ht];rw[ht]
    ·simp only[Af ht]
   (repeat' first|apply Ca 55;(refine jg1 950 ?_;refine jd8 950 rfl λhsm=>?_;simp only[Aa]at hsm)|apply Ca 61;(refine js0 ?_)|apply Ca 64;(refine ka3 (m:=(He (Ck env nn xs) (nn.take j) nn[j]).length - 1) (em:=by first|omega|(simp only[Hq,Aa];omega)) (hm:=by first|omega|(simp only[Hq,Aa];omega)) λk1=>?_)|refine jg0 20 ?_;(refine jo9 ?_)|refine yyp ?_;try refine Ce ?_ ?_<;>intro hb|refine yy ?_|apply ah;refine Cc Hw ?_|refine Cb λK hK=>?_|apply Cf 3;refine j0 [16,17] q07 ?_|apply Cf 9;refine j0 [20] ja1 ?_|apply_assumption -exfalso -symm)
   all_goals
    refine⟨j+1,by omega,by omega,?_⟩;rw[<-key];exact r9
  rw[Am hj2,js1 nn xs env (by omega)]
  (repeat' first|refine yyp ?_;try refine Ce ?_ ?_<;>intro hb|refine yy ?_|apply ah;refine Cc Hw ?_|refine Cb λK hK=>?_|apply Cf 3;refine j0 [16,17] q07 ?_|apply Cf 9;refine j0 [20] ja1 ?_|apply_assumption -exfalso -symm)
  all_goals first
   |exact n9 ⟨rfl,rfl⟩
   |(dsimp only[Exit.Mk,Exit.Mf];exact n9 ⟨rfl,rfl⟩)
 case none=>
  (refine j2 func54 ntmps54 results54 λw M E b0=>?_)
  refine k7 1 rfl λhn=>?_;simp only[Aa]at hn
  (repeat' first|refine yyp ?_;try refine Ce ?_ ?_<;>intro hb|refine yy ?_|apply ah;refine Cc Hw ?_|refine Cb λK hK=>?_|apply Cf 3;refine j0 [16,17] q07 ?_|apply Cf 9;refine j0 [20] ja1 ?_|apply_assumption -exfalso -symm)
  refine j9 kq2 [901] (λj:Nat=>[(14,.d (.int .i64 j))]) (λj=>[(901,.smap 112 3 (Hq (Ck env (nn.take j) (xs.take j))) none)]) (λj=>j<=nn.length) (λj=>nn.length - j) 0 (Ai _) λj hj=>?_;dsimp only[Ac,Ad];rcases Ah j nn.length with hj2|hj2
  ·have hj3:j<xs.length:=by omega
   have hlen:(Ck env (nn.take j) (xs.take j) nn[j]).length<=1000000000 - 1:=by
    obtain⟨l,h1,h2⟩:=jf1 (nn.take j) (xs.take j) env nn[j] (by simp;omega);have h3:=jk7 nn[j] (nn.take j);have h4:=hd nn[j];rw[h1,Ag,h2];rw[Ak]at h3;omega
   have key:Nc (Hq (Ck env (nn.take j) (xs.take j))) nn[j] ((Ck env (nn.take j) (xs.take j) nn[j]).map Fv++[Fv xs[j]])=Hq (Ck env (nn.take (j+1)) (xs.take (j+1))):=by
    rw[jm9 nn xs env (by omega) j hj2];have:=jb2 (Ck env (nn.take j) (xs.take j)) _ nn[j] (Ck env (nn.take j) (xs.take j) nn[j]++[xs[j]]) rfl;rw[Ar]at this;refine this.trans ?_;congr 1;funext t;by_cases ht:t=nn[j]
    ·simp only[Ae ht];rw[ht]
    ·simp only[Af ht]
   (repeat' first|apply Ca 29;(refine jg1 950 ?_)|apply Ca 34;(refine Df 34 ?_)|refine jg0 17 ?_;(refine jo9 ?_)|refine yyp ?_;try refine Ce ?_ ?_<;>intro hb|refine yy ?_|(apply Cw;first|(refine Da (λkv=>?_))|(refine ai (λsx sp kv hsx hsp hsl=>?_)))|apply ah;refine Cc Hw ?_|refine ju0 ?_ ?_|refine Ht ?_ ?_|refine Cb λK hK=>?_|apply Cf 3;refine j0 [16,17] q07 ?_|apply Cf 9;refine j0 [20] ja1 ?_|apply_assumption -exfalso -symm)
   all_goals
    refine⟨j+1,by omega,by omega,?_⟩;rw[<-key];exact r9
  rw[Am hj2,Am (show xs.length<=j by omega)]
  (repeat' first|apply Ca 38;refine Ch (hc:=hdo) ?_|refine yyp ?_;try refine Ce ?_ ?_<;>intro hb|refine yy ?_|apply ah;refine Cc Hw ?_|refine Cb λK hK=>?_|apply Cf 3;refine j0 [16,17] q07 ?_|apply Cf 9;refine j0 [20] ja1 ?_|apply_assumption -exfalso -symm)
  rw[show Hq (Ck env nn xs)=Hq (He (Ck env nn xs) (nn.take 0)) by rw[Fh,kb1]];refine j9 kq3 [901] (λj:Nat=>[(41,.d (.int .i64 j))]) (λj=>[(901,.smap 112 3 (Hq (He (Ck env nn xs) (nn.take j))) none)]) (λj=>j<=nn.length) (λj=>nn.length - j) 0 (Ai _) λj hj=>?_;dsimp only[Ac,Ad];rcases Ah j nn.length with hj2|hj2
  ·have hlen:1<=(He (Ck env nn xs) (nn.take j) nn[j]).length:=by
    obtain⟨l,h1,h2⟩:=hpl nn[j];have h3:=jj3 nn[j] nn j hj2;rw[Ae rfl]at h3;have h4:=kb0 nn[j] nn (j+1);unfold He;rw[h1,Ak,Ag,h2];omega
   have key:Nc (Hq (He (Ck env nn xs) (nn.take j))) nn[j] (((He (Ck env nn xs) (nn.take j) nn[j]).map Fv).take ((He (Ck env nn xs) (nn.take j) nn[j]).length - 1))=Hq (He (Ck env nn xs) (nn.take (j+1))):=by
    rw[js2 nn _ j hj2,<-Ek];refine(jb2 (He (Ck env nn xs) (nn.take j)) _ nn[j] _ rfl).trans ?_;congr 1;funext t;by_cases ht:t=nn[j]
    ·simp only[Ae ht];rw[ht]
    ·simp only[Af ht]
   (repeat' first|apply Ca 55;(refine jg1 950 ?_;refine jd8 950 rfl λhsm=>?_;simp only[Aa]at hsm)|apply Ca 61;(refine js0 ?_)|apply Ca 64;(refine ka3 (m:=(He (Ck env nn xs) (nn.take j) nn[j]).length - 1) (em:=by first|omega|(simp only[Hq,Aa];omega)) (hm:=by first|omega|(simp only[Hq,Aa];omega)) λk1=>?_)|refine jg0 20 ?_;(refine jo9 ?_)|refine yyp ?_;try refine Ce ?_ ?_<;>intro hb|refine yy ?_|apply ah;refine Cc Hw ?_|refine Cb λK hK=>?_|apply Cf 3;refine j0 [16,17] q07 ?_|apply Cf 9;refine j0 [20] ja1 ?_|apply_assumption -exfalso -symm)
   all_goals
    refine⟨j+1,by omega,by omega,?_⟩;rw[<-key];exact r9
  rw[Am hj2,js1 nn xs env (by omega)]
  (repeat' first|refine yyp ?_;try refine Ce ?_ ?_<;>intro hb|refine yy ?_|apply ah;refine Cc Hw ?_|refine Cb λK hK=>?_|apply Cf 3;refine j0 [16,17] q07 ?_|apply Cf 9;refine j0 [20] ja1 ?_|apply_assumption -exfalso -symm)
  all_goals first
   |exact n9 ⟨rfl,rfl⟩
   |(dsimp only[Exit.Mk,Exit.Mf];exact n9 ⟨rfl,rfl⟩)
end
end Go.Proofs.YtklklgfpkpglgaaGreatDoor
