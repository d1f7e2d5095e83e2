/- Parts. -/
import Derived.Test.YtklklgfpkpglgaaGreatDoorQ24
set_option linter.all false
set_option maxRecDepth 100000
set_option maxHeartbeats 0
namespace Go.Proofs.YtklklgfpkpglgaaGreatDoor
open Go.RowKit Go.Proofs.Tryz Sc
section
def Tv:List Nat:=[0,1,2,3,8,9,11,12,13,14,15,39,40,41,42]
def mf5:Plan:=lin [0,4,8,16,20,24,28,36,44,48,52,60,13,33,41,57,65,68,72,76,83]
def md0 (t:ByteArray):List ByteArray->Nat
 |[]=>0
 |s::l=>(if t=s then 1 else 0)+md0 t l
theorem kx0 (t:ByteArray):∀ l m:List ByteArray,md0 t (l++m)=md0 t l+md0 t m
 |[],m=>by simp[md0]
 |s::l,m=>by simp only[Ac,md0,kx0 t l m];omega
theorem mf6 (t:ByteArray)(l:List ByteArray)(j:Nat)(hj:j<l.length):md0 t (l.take (j+1))=md0 t (l.take j)+(if t=l[j] then 1 else 0):=by
 rw[An hj,kx0];simp[md0]
theorem rv4 (t:ByteArray)(l:List ByteArray)(j:Nat):md0 t (l.take j)<=md0 t l:=by
 have:=kx0 t (l.take j) (l.drop j);rw[List.take_append_drop]at this;omega
theorem kx1 (t:ByteArray):∀ l:List ByteArray,md0 t l<=l.length
 |[]=>Ap _
 |s::l=>by have:=kx1 t l;simp only[md0,Aj];split<;>omega
theorem mt4:∀ (ns:List ByteArray) (xs:List Sc.Ent) (f:ByteArray->List Sc.Ent) (s:ByteArray) (x:Sc.Ent),ns.length=xs.length->
 Cn f (ns++[s]) (xs++[x])=λt=>if t=s then Cn f ns xs t++[x] else Cn f ns xs t
 |[],[],f,s,x,_=>rfl
 |[],_::_,_,_,_,h=>by cases h
 |_::_,[],_,_,_,h=>by cases h
 |n::ns,y::xs,f,s,x,h=>by
  simp only[Ac,Cn];exact mt4 ns xs _ s x (by simpa using h)
theorem qk3 (ns:List ByteArray)(xs:List Sc.Ent)(f:ByteArray->List Sc.Ent)(h:ns.length=xs.length)(j:Nat)(hj:j<ns.length):
 Cn f (ns.take (j+1)) (xs.take (j+1))=λt=>if t=ns[j] then Cn f (ns.take j) (xs.take j) t++[xs[j]] else Cn f (ns.take j) (xs.take j) t:=by
 rw[An hj,An (by omega)];exact mt4 _ _ _ _ _ (by simp;omega)
theorem jw4:∀ (ns:List ByteArray) (xs:List Sc.Ent) (f:ByteArray->List Sc.Ent) (t:ByteArray),ns.length=xs.length->∃ l,Cn f ns xs t=f t++l/\l.length=md0 t ns
 |[],[],f,t,_=>⟨[],(Ey _).symm,rfl⟩
 |[],_::_,_,_,h=>by cases h
 |_::_,[],_,_,h=>by cases h
 |n::ns,y::xs,f,t,h=>by
  simp only[Cn];obtain⟨l,h1,h2⟩:=jw4 ns xs (λt=>if t=n then f t++[y] else f t) t (by simpa using h);rw[h1];by_cases ht:t=n
  ·refine⟨y::l,by simp only[Ad ht,Eg,List.singleton_append],by simp only[Aj,md0,Ad ht,h2];omega⟩
  ·exact⟨l,by simp only[Af ht],by simp only[md0,Af ht,h2];omega⟩
def Pb (f:ByteArray->List Sc.Ent)(ns:List ByteArray)(t:ByteArray):List Sc.Ent:=(f t).take ((f t).length - md0 t ns)
theorem rd7 (ns:List ByteArray)(xs:List Sc.Ent)(f:ByteArray->List Sc.Ent)(h:ns.length=xs.length):Pb (Cn f ns xs) ns=f:=by
 funext t;obtain⟨l,h1,h2⟩:=jw4 ns xs f t h;unfold Pb;rw[h1,Ag,h2,Nat.add_sub_cancel,List.take_append_of_le_length (Ap _),Bv]
theorem rv5 (f:ByteArray->List Sc.Ent):Pb f []=f:=by
 funext t;simp[Pb,md0]
theorem rd8 (ns:List ByteArray)(f:ByteArray->List Sc.Ent)(j:Nat)(hj:j<ns.length):
 Pb f (ns.take (j+1))=λt=>if t=ns[j] then (Pb f (ns.take j) t).take ((Pb f (ns.take j) t).length - 1) else Pb f (ns.take j) t:=by
 funext t;unfold Pb;rw[mf6 t ns j hj];split
 ·rw[List.take_take,Aq];congr 1;omega
 ·rw[Nat.add_zero]
theorem mf7 (f g:ByteArray->List Sc.Ent)(s:ByteArray)(l:List Sc.Ent)(h:g=λt=>if t=s then l else f t):Qp (Rf f) s (l.map Lj)=Rf g:=by
 subst h;funext t;unfold Qp Rf;by_cases ht:t=s
 ·simp only[Ad ht]
 ·simp only[Af ht]
def Sc.W.deep (σ:W)(m:Nat):Prop:=∀ s,(σ.env s).length+m<=1000000000
def pv (p:Pr):List V:=[.d (.int .u8 p.kind),.d (.str p.name),
    .d (.int .u8 p.av.kind),.d (.int .u8 p.av.op),.d (.int .u8 p.av.ty),.d (.int .i32 p.av.n),.d (.str p.av.s),.d (.list 6 (p.av.l.map dEx)),
    .d (.list 6 (p.aj.map dEx)),.d (.list 6 (p.au.map dEx)),
    .d (.str p.rep.name),.d (.int .u8 p.rep.base.kind),.d (.int .u8 p.rep.base.op),.d (.int .u8 p.rep.base.ty),.d (.int .i32 p.rep.base.n),.d (.str p.rep.base.s),.d (.list 6 (p.rep.base.l.map dEx)),
    .d (.int .u8 p.rep.count.kind),.d (.int .u8 p.rep.count.op),.d (.int .u8 p.rep.count.ty),.d (.int .i32 p.rep.count.n),.d (.str p.rep.count.s),.d (.list 6 (p.rep.count.l.map dEx)),
    .d (.list 23 (p.ak.map dGu)),.d (.list 42 (p.l.map dPr)),.d (.list 1 (p.ay.map (.int .i64))),
    .d (.int .u8 p.spec.kind),.d (.int .u8 p.spec.type.kind),.d (.int .i64 p.spec.type.dim),.d (.int .u8 p.spec.type.item),.d (.str p.spec.type.aN),.d (.list 1 (p.spec.names.map .str)),
    .d (.int .u8 p.spec.e.kind),.d (.int .u8 p.spec.e.op),.d (.int .u8 p.spec.e.ty),.d (.int .i32 p.spec.e.n),.d (.str p.spec.e.s),.d (.list 6 (p.spec.e.l.map dEx)),
    .d (.bool p.spec.aN.cases),.d (.list 2 (p.spec.aN.l.map dVa)),.d (.list 6 (p.spec.ax.map dFo)),.d (.list 42 (p.spec.body.map dPr))]
def sv (s:Sp):List V:=[.d (.int .u8 s.kind),.d (.int .u8 s.type.kind),.d (.int .i64 s.type.dim),.d (.int .u8 s.type.item),.d (.str s.type.aN),.d (.list 1 (s.names.map .str)),
    .d (.int .u8 s.e.kind),.d (.int .u8 s.e.op),.d (.int .u8 s.e.ty),.d (.int .i32 s.e.n),.d (.str s.e.s),.d (.list 6 (s.e.l.map dEx)),
    .d (.bool s.aN.cases),.d (.list 2 (s.aN.l.map dVa)),.d (.list 6 (s.ax.map dFo)),.d (.list 42 (s.body.map dPr))]
def wfc:Pr × Pr ⊕ Sp × Sp->Nat
 |.inl _=>55
 |.inr _=>88
def wc1:Pr × Pr ⊕ Sp × Sp->List V
 |.inl x=>pv x.1
 |.inr x=>sv x.1
def wc2:Pr × Pr ⊕ Sp × Sp->List V
 |.inl x=>pv x.2
 |.inr x=>sv x.2
attribute [local irreducible] TR TC
theorem jw5 (gl:List (Nat × List D))(x:Pr × Pr ⊕ Sp × Sp)(k:Sc.Kind)(σ σ2:W)(nn:List ByteArray)(xs:List Sc.Ent)(hl:nn.length=xs.length)(hd:σ.deep nn.length)(he:σ2.env=Cn σ.env nn xs)
 (hdo:FnE prog gl (wfc x) [.ptr 1003 0,.ptr 1002 0] ((1003,.box (wc1 x))::(1002,.box [.ptr 900 0])::HW k {σ with env:=Cn σ.env nn xs})
   (λv H1=>v=.tup []/\H1=(1003,.box (wc2 x))::(1002,.box [.ptr 900 0])::HW k σ2)):
 FnE prog gl 54 [.ptr 900 0,.d (.list 1 (nn.map .str)),.d (.list 3 (xs.map Lj)),.clo (.func (wfc x)) [] [.ptr 1003 0,.ptr 1002 0]] ((1003,.box (wc1 x))::(1002,.box [.ptr 900 0])::HW k σ)
  (λv H1=>v=.tup []/\H1=(1003,.box (wc2 x))::(1002,.box [.ptr 900 0])::HW k {σ2 with env:=σ.env}):=by
 unfold W.deep at hd;have hpl:=λt=>jw4 nn xs σ.env t hl;have hle1:nn.length<=xs.length:=Nat.le_of_eq hl;have hle2:xs.length<=nn.length:=Nat.le_of_eq hl.symm;clear hl;obtain⟨env,tk,c,ev⟩:=σ;obtain⟨env2,tk2,c2,ev2⟩:=σ2;dsimp only at he hd hpl hdo ⊢;subst he;have tg:k=k:=rfl;rcases x with ⟨p,p2⟩|⟨p,p2⟩<;>cases k
 all_goals dsimp only[wfc,wc1,wc2,HW,je0,jb3]at hdo ⊢
 all_goals
  (refine j3 func54 ntmps54 results54 λw M E b0=>?_)
  refine k7 1 rfl λhn=>?_;simp only[Ab]at hn
  (repeat' first|refine yyp ?_;try refine Ce ?_ ?_<;>intro hb|refine yy ?_|apply ah;refine Cc Tv ?_|refine Cb λK hK=>?_|apply Cg 3;refine j0 [16,17] q06 ?_|apply Cg 9;refine j0 [20] mf5 ?_|apply_assumption -exfalso -symm)
  refine k9 [8,9,14,15,16,17,18,19,20,21,22,23,24,25,26,27,28,29,30,31,32,33,34,35,36] [901] (λj:Nat=>[(14,.d (.int .i64 j))]) (λj=>[(901,.smap 112 3 (Rf (Cn env (nn.take j) (xs.take j))) none)]) (λj=>j<=nn.length) (λj=>nn.length - j) 0 (Ak _) λj hj=>?_;dsimp only[Ac,Ae];rcases Ai j nn.length with hj2|hj2
  ·have hj3:j<xs.length:=by omega
   have hlen:(Cn env (nn.take j) (xs.take j) nn[j]).length<=1000000000 - 1:=by
    obtain⟨l,h1,h2⟩:=jw4 (nn.take j) (xs.take j) env nn[j] (by simp;omega);have h3:=kx1 nn[j] (nn.take j);have h4:=hd nn[j];rw[h1,Ag,h2];rw[Aq]at h3;omega
   have key:Qp (Rf (Cn env (nn.take j) (xs.take j))) nn[j] ((Cn env (nn.take j) (xs.take j) nn[j]).map Lj++[Lj xs[j]])=Rf (Cn env (nn.take (j+1)) (xs.take (j+1))):=by
    rw[qk3 nn xs env (by omega) j hj2];have:=mf7 (Cn env (nn.take j) (xs.take j)) _ nn[j] (Cn env (nn.take j) (xs.take j) nn[j]++[xs[j]]) rfl;rw[Av]at this;refine this.trans ?_;congr 1;funext t;by_cases ht:t=nn[j]
    ·simp only[Ad ht];rw[ht]
    ·simp only[Af ht]
   (repeat' first|apply Ca 29;(refine mm3 950 ?_)|apply Ca 34;(refine Fu 34 ?_)|refine ke4 17 ?_;(refine rn7 ?_)|refine yyp ?_;try refine Ce ?_ ?_<;>intro hb|refine yy ?_|(apply Dw;first|(refine Gj (λkv=>?_))|(refine ai (λsx sp kv hsx hsp hsl=>?_)))|apply ah;refine Cc Tv ?_|refine qo9 ?_ ?_|refine Jd ?_ ?_|refine Cb λK hK=>?_|apply Cg 3;refine j0 [16,17] q06 ?_|apply Cg 9;refine j0 [20] mf5 ?_|apply_assumption -exfalso -symm)
   all_goals
    refine⟨j+1,by omega,by omega,?_⟩;rw[<-key];exact v6
  rw[Ba hj2,Ba (show xs.length<=j by omega)]
  (repeat' first|apply Ca 38;refine Ch (hc:=hdo) ?_|refine yyp ?_;try refine Ce ?_ ?_<;>intro hb|refine yy ?_|apply ah;refine Cc Tv ?_|refine Cb λK hK=>?_|apply Cg 3;refine j0 [16,17] q06 ?_|apply Cg 9;refine j0 [20] mf5 ?_|apply_assumption -exfalso -symm)
  rw[show Rf (Cn env nn xs)=Rf (Pb (Cn env nn xs) (nn.take 0)) by rw[List.take_zero,rv5]];refine k9 [11,41,42,43,44,45,46,47,48,49,50,51,52,53,54,55,56,57,58,59,60,61,62,63,64,65] [901] (λj:Nat=>[(41,.d (.int .i64 j))]) (λj=>[(901,.smap 112 3 (Rf (Pb (Cn env nn xs) (nn.take j))) none)]) (λj=>j<=nn.length) (λj=>nn.length - j) 0 (Ak _) λj hj=>?_;dsimp only[Ac,Ae];rcases Ai j nn.length with hj2|hj2
  ·have hlen:1<=(Pb (Cn env nn xs) (nn.take j) nn[j]).length:=by
    obtain⟨l,h1,h2⟩:=hpl nn[j];have h3:=mf6 nn[j] nn j hj2;rw[Ad rfl]at h3;have h4:=rv4 nn[j] nn (j+1);unfold Pb;rw[h1,Aq,Ag,h2];omega
   have key:Qp (Rf (Pb (Cn env nn xs) (nn.take j))) nn[j] (((Pb (Cn env nn xs) (nn.take j) nn[j]).map Lj).take ((Pb (Cn env nn xs) (nn.take j) nn[j]).length - 1))=Rf (Pb (Cn env nn xs) (nn.take (j+1))):=by
    rw[rd8 nn _ j hj2,<-Fc];refine(mf7 (Pb (Cn env nn xs) (nn.take j)) _ nn[j] _ rfl).trans ?_;congr 1;funext t;by_cases ht:t=nn[j]
    ·simp only[Ad ht];rw[ht]
    ·simp only[Af ht]
   (repeat' first|apply Ca 55;(refine mm3 950 ?_;refine kh5 950 rfl λhsm=>?_;simp only[Ab]at hsm)|apply Ca 61;(refine rb1 ?_)|apply Ca 64;(refine rt1 (m:=(Pb (Cn env nn xs) (nn.take j) nn[j]).length - 1) (em:=by first|omega|(simp only[Rf,Ab];omega)) (hm:=by first|omega|(simp only[Rf,Ab];omega)) λk1=>?_)|refine ke4 20 ?_;(refine rn7 ?_)|refine yyp ?_;try refine Ce ?_ ?_<;>intro hb|refine yy ?_|apply ah;refine Cc Tv ?_|refine Cb λK hK=>?_|apply Cg 3;refine j0 [16,17] q06 ?_|apply Cg 9;refine j0 [20] mf5 ?_|apply_assumption -exfalso -symm)
   all_goals
    refine⟨j+1,by omega,by omega,?_⟩;rw[<-key];exact v6
  rw[Ba hj2,rd7 nn xs env (by omega)]
  (repeat' first|refine yyp ?_;try refine Ce ?_ ?_<;>intro hb|refine yy ?_|apply ah;refine Cc Tv ?_|refine Cb λK hK=>?_|apply Cg 3;refine j0 [16,17] q06 ?_|apply Cg 9;refine j0 [20] mf5 ?_|apply_assumption -exfalso -symm)
  all_goals first
   |exact ji3 ⟨rfl,rfl⟩
   |(dsimp only[Exit.Oc,Exit.Ri];exact ji3 ⟨rfl,rfl⟩)
end
end Go.Proofs.YtklklgfpkpglgaaGreatDoor
