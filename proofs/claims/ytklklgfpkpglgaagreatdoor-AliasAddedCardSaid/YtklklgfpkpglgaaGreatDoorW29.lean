/- Parts. -/
import Derived.Test.YtklklgfpkpglgaaGreatDoorW28
import Derived.Test.YtklklgfpkpglgaaGreatDoorW27
set_option linter.all false
set_option maxRecDepth 100000
set_option maxHeartbeats 0
namespace Go.Proofs.YtklklgfpkpglgaaGreatDoor
open Go.RowKit Go.Proofs.Tryz Sc
variable (gl:List (Nat × List D))
section
def Py:List Nat:=[0,1,4,5,7,10,14,15,16,17]
variable {mm:Int}
theorem js4:∀ (l:List Fo) (ns:List ByteArray) (f:Fo) (s:ByteArray),ns.length=l.length->Sc.named (l++[f]) (ns++[s])=Sc.named l ns++[{f with name:=s}]
 |[],[],f,s,_=>rfl
 |[],_::_,_,_,h=>by cases h
 |_::_,[],_,_,h=>by cases h
 |g::l,n::ns,f,s,h=>by simp only[Ac,Sc.named,js4 l ns f s (by simpa using h)]
theorem kd4 (l:List Fo)(σ:W)(j:Nat):(y9 Dk σ (l.take j)).2.ev.length<=σ.ev.length+j:=by
 have h:=(Qn (λ_=>1) (λf σ=>Mw σ f) (l.take j) σ).ev;have h8:∀ l:List Fo,(l.map λ_=>1).sum=l.length:=λl=>by
  induction l with
  |nil=>rfl
  |cons x l ih=>simp only[Ap,List.sum_cons,ih,An];omega
 rw[h8,Ak]at h;omega
attribute [local irreducible] TR TC
theorem ko4 (k:Sc.Kind)(l:List Fo)(σ:W)(nn:List ByteArray)(hl1:nn.length<=l.length)(hl2:l.length<=nn.length)(hl:l.length<=1000000000)(hr:σ.room l.length):
 FnE prog gl 86 [.d (.list 6 (l.map dFo)),.clo (.func 87) [] [.ptr 1012 0,.ptr 1011 0,.ptr 1002 0]] ((1012,.box [.d (.int .i64 (-1))])::(1011,.box [.d (.list 1 (nn.map .str))])::(1002,.box [.ptr 900 0])::HW k σ)
  (λv H1=>v=.d (.list 6 ((Sc.named (y9 Dk σ l).1 nn).map dFo))/\H1=(1012,.box [.d (.int .i64 ((l.length:Int) - 1))])::(1011,.box [.d (.list 1 (nn.map .str))])::(1002,.box [.ptr 900 0])::HW k (y9 Dk σ l).2):=by
 unfold W.room at hr;have h2:=λ(j:Nat) (hj:j<l.length)=>qx1 gl k (y9 Dk σ (l.take j)).2 l[j] nn j (by omega) (by omega) (by have:=kd4 l σ j;unfold W.room;omega);cases k
 all_goals dsimp only[HW,ja9,n7]at h2 ⊢
 case free=>
  (refine j2 func86 ntmps86 results86 λw M E b0=>?_)
  (repeat' first|apply Ca 13;(refine jc9 13 ?_)|refine yyp ?_;try refine Ce ?_ ?_<;>intro hb|refine yy ?_|refine yy2 ?_ ?_<;>intro hcmp|apply ah;refine Cc Py ?_|refine Cb λK hK=>?_|apply_assumption -exfalso -symm)
  ·have h0:l=[]:=As (by omega);subst h0;obtain rfl:nn=[]:=As (by simp only[Av]at hl1;omega)
   (refine j1 (j6 ⟨?_,rfl⟩))
   rfl
  refine ji0 (λx:Nat × Nat=>⟨[(16,.d (.int .i64 x.1)),(15,.d (.int .i64 l.length)),(14,.d (.list 6 (l.map dFo))),(5,.own 13 x.2),(1,.clo (.func 87) [] [.ptr 1012 0,.ptr 1011 0,.ptr 1002 0])],(13,.row 128 6 true ((Sc.named (y9 Dk σ (l.take x.1)).1 (nn.take x.1)).map dFo) x.2)::(1012,.box [.d (.int .i64 ((x.1:Int) - 1))])::(1011,.box [.d (.list 1 (nn.map .str))])::(1002,.box [.ptr 900 0])::HW .free (y9 Dk σ (l.take x.1)).2,gl⟩)
   (λx=>x.1<=l.length) (λx=>l.length - x.1) (0,0) (Ai _) r9 λ⟨j,kv⟩ hj=>?_
  dsimp only[HW,ja9,n7]at hj ⊢;have hlm:=ja8 Dk (l.take j) σ;have hlen:=Oz (y9 Dk σ (l.take j)).1 (nn.take j) (by rw[hlm,Ak,Ak];omega);rw[hlm]at hlen;simp only[Ak]at hlen;rcases Ah j l.length with hj2|hj2
  ·have hone:=h2 j hj2
   (repeat' first|apply Ca 7;(refine j3 7 ?_)|apply Ca 23;refine Ch (hc:=hone) ?_|apply Ca 24;(refine Df 24 ?_)|refine yyp ?_;try refine Ce ?_ ?_<;>intro hb|refine yy ?_|(apply Cw;first|(refine Da (λkv=>?_))|(refine ai (λsx sp kv hsx hsp hsl=>?_)))|apply ah;refine Cc Py ?_|refine Cb λK hK=>?_|apply_assumption -exfalso -symm)
   refine⟨(j+1,kv),by dsimp only;omega,by dsimp only;omega,?_⟩;dsimp only;rw[p8 Dk l σ j hj2,Ao (show j<nn.length by omega),js4 _ _ _ _ (by rw[hlm,Ak,Ak];omega),show((j+1:Nat):Int) - 1=j by omega];simp only[Ar,Ap,Ba];exact r9
  (repeat' first|refine yyp ?_;try refine Ce ?_ ?_<;>intro hb|refine yy ?_|apply ah;refine Cc Py ?_|refine Cb λK hK=>?_|apply_assumption -exfalso -symm)
  have hjl:j=l.length:=by omega
  subst hjl;rw[Bk,Am hl1]
  (refine j1 (j6 ⟨?_,rfl⟩))
  rfl
 case check ns=>
  (refine j2 func86 ntmps86 results86 λw M E b0=>?_)
  (repeat' first|apply Ca 13;(refine jc9 13 ?_)|refine yyp ?_;try refine Ce ?_ ?_<;>intro hb|refine yy ?_|refine yy2 ?_ ?_<;>intro hcmp|apply ah;refine Cc Py ?_|refine Cb λK hK=>?_|apply_assumption -exfalso -symm)
  ·have h0:l=[]:=As (by omega);subst h0;obtain rfl:nn=[]:=As (by simp only[Av]at hl1;omega)
   (refine j1 (j6 ⟨?_,rfl⟩))
   rfl
  refine ji0 (λx:Nat × Nat=>⟨[(16,.d (.int .i64 x.1)),(15,.d (.int .i64 l.length)),(14,.d (.list 6 (l.map dFo))),(5,.own 13 x.2),(1,.clo (.func 87) [] [.ptr 1012 0,.ptr 1011 0,.ptr 1002 0])],(13,.row 128 6 true ((Sc.named (y9 Dk σ (l.take x.1)).1 (nn.take x.1)).map dFo) x.2)::(1012,.box [.d (.int .i64 ((x.1:Int) - 1))])::(1011,.box [.d (.list 1 (nn.map .str))])::(1002,.box [.ptr 900 0])::HW (.check ns) (y9 Dk σ (l.take x.1)).2,gl⟩)
   (λx=>x.1<=l.length) (λx=>l.length - x.1) (0,0) (Ai _) r9 λ⟨j,kv⟩ hj=>?_
  dsimp only[HW,ja9,n7]at hj ⊢;have hlm:=ja8 Dk (l.take j) σ;have hlen:=Oz (y9 Dk σ (l.take j)).1 (nn.take j) (by rw[hlm,Ak,Ak];omega);rw[hlm]at hlen;simp only[Ak]at hlen;rcases Ah j l.length with hj2|hj2
  ·have hone:=h2 j hj2
   (repeat' first|apply Ca 7;(refine j3 7 ?_)|apply Ca 23;refine Ch (hc:=hone) ?_|apply Ca 24;(refine Df 24 ?_)|refine yyp ?_;try refine Ce ?_ ?_<;>intro hb|refine yy ?_|(apply Cw;first|(refine Da (λkv=>?_))|(refine ai (λsx sp kv hsx hsp hsl=>?_)))|apply ah;refine Cc Py ?_|refine Cb λK hK=>?_|apply_assumption -exfalso -symm)
   refine⟨(j+1,kv),by dsimp only;omega,by dsimp only;omega,?_⟩;dsimp only;rw[p8 Dk l σ j hj2,Ao (show j<nn.length by omega),js4 _ _ _ _ (by rw[hlm,Ak,Ak];omega),show((j+1:Nat):Int) - 1=j by omega];simp only[Ar,Ap,Ba];exact r9
  (repeat' first|refine yyp ?_;try refine Ce ?_ ?_<;>intro hb|refine yy ?_|apply ah;refine Cc Py ?_|refine Cb λK hK=>?_|apply_assumption -exfalso -symm)
  have hjl:j=l.length:=by omega
  subst hjl;rw[Bk,Am hl1]
  (refine j1 (j6 ⟨?_,rfl⟩))
  rfl
 case none=>
  (refine j2 func86 ntmps86 results86 λw M E b0=>?_)
  (repeat' first|apply Ca 13;(refine jc9 13 ?_)|refine yyp ?_;try refine Ce ?_ ?_<;>intro hb|refine yy ?_|refine yy2 ?_ ?_<;>intro hcmp|apply ah;refine Cc Py ?_|refine Cb λK hK=>?_|apply_assumption -exfalso -symm)
  ·have h0:l=[]:=As (by omega);subst h0;obtain rfl:nn=[]:=As (by simp only[Av]at hl1;omega)
   (refine j1 (j6 ⟨?_,rfl⟩))
   rfl
  refine ji0 (λx:Nat × Nat=>⟨[(16,.d (.int .i64 x.1)),(15,.d (.int .i64 l.length)),(14,.d (.list 6 (l.map dFo))),(5,.own 13 x.2),(1,.clo (.func 87) [] [.ptr 1012 0,.ptr 1011 0,.ptr 1002 0])],(13,.row 128 6 true ((Sc.named (y9 Dk σ (l.take x.1)).1 (nn.take x.1)).map dFo) x.2)::(1012,.box [.d (.int .i64 ((x.1:Int) - 1))])::(1011,.box [.d (.list 1 (nn.map .str))])::(1002,.box [.ptr 900 0])::HW .none (y9 Dk σ (l.take x.1)).2,gl⟩)
   (λx=>x.1<=l.length) (λx=>l.length - x.1) (0,0) (Ai _) r9 λ⟨j,kv⟩ hj=>?_
  dsimp only[HW,ja9,n7]at hj ⊢;have hlm:=ja8 Dk (l.take j) σ;have hlen:=Oz (y9 Dk σ (l.take j)).1 (nn.take j) (by rw[hlm,Ak,Ak];omega);rw[hlm]at hlen;simp only[Ak]at hlen;rcases Ah j l.length with hj2|hj2
  ·have hone:=h2 j hj2
   (repeat' first|apply Ca 7;(refine j3 7 ?_)|apply Ca 23;refine Ch (hc:=hone) ?_|apply Ca 24;(refine Df 24 ?_)|refine yyp ?_;try refine Ce ?_ ?_<;>intro hb|refine yy ?_|(apply Cw;first|(refine Da (λkv=>?_))|(refine ai (λsx sp kv hsx hsp hsl=>?_)))|apply ah;refine Cc Py ?_|refine Cb λK hK=>?_|apply_assumption -exfalso -symm)
   refine⟨(j+1,kv),by dsimp only;omega,by dsimp only;omega,?_⟩;dsimp only;rw[p8 Dk l σ j hj2,Ao (show j<nn.length by omega),js4 _ _ _ _ (by rw[hlm,Ak,Ak];omega),show((j+1:Nat):Int) - 1=j by omega];simp only[Ar,Ap,Ba];exact r9
  (repeat' first|refine yyp ?_;try refine Ce ?_ ?_<;>intro hb|refine yy ?_|apply ah;refine Cc Py ?_|refine Cb λK hK=>?_|apply_assumption -exfalso -symm)
  have hjl:j=l.length:=by omega
  subst hjl;rw[Bk,Am hl1]
  (refine j1 (j6 ⟨?_,rfl⟩))
  rfl
end
section
variable {mm:Int}
theorem Qk (l:List Ex)(σ:W)(j:Nat)(hj:j<l.length):(y9 j4 σ (l.take j)).2.ev.length+exN l[j]<=σ.ev.length+Gb l:=by
 have h1:=(Fs (l.take j) σ).ev;have h2:=l8 l j hj;omega
theorem jm5 (k:Sc.Kind)(l:List Ex)(σ:W)(hr:σ.room (Gb l)):
 FnE prog gl 49 [.d (.list 6 (l.map dEx)),.clo (.func 48) [.ptr 900 0] []] (HW k σ)
  (λv H1=>v=.d (.list 6 ((y9 j4 σ l).1.map dEx))/\H1=HW k (y9 j4 σ l).2):=by
 unfold W.room at hr;have:=ja0 l;refine kd2 gl k l σ (by omega) λj hj=>qf1 gl k _ l[j] _ (Au _) ?_;have:=Qk l σ j hj;unfold W.room;omega
theorem jd1 (k:Sc.Kind)(e:Ex)(σ:W)(hr:σ.room (exN e)):FnE prog gl 48 [.ptr 900 0,.d (dEx e)] (HW k σ)
 (λv H1=>v=.d (dEx (j4 σ e).1)/\H1=HW k (j4 σ e).2):=qf1 gl k _ e σ (Au _) hr
def Gu.body' (g:Gu)(h:Sc.GHead)(b:List Pr):Gu:=.mk g.kind g.name h.cond h.av h.aj h.values h.time b
attribute [local irreducible] TR TC
theorem mv7 (k:Sc.Kind)(g:Gu)(σ σ2:W)(b:List Pr)(hr:σ.room (Qm g.cond g.av g.aj g.values g.time))
 (hE:FnE prog gl 58 [.d (.list 42 (g.body.map dPr)),.clo (.func 31) [.ptr 900 0] []] (HW k (Jg σ g.cond g.av g.aj g.values g.time).2) (λv H1=>v=.d (.list 42 (b.map dPr))/\H1=HW k σ2)):
 FnE prog gl 57 [.ptr 900 0,.d (dGu g)] (HW k σ)
  (λv H1=>v=.d (dGu (g.body' (Jg σ g.cond g.av g.aj g.values g.time).1 b))/\H1=HW k σ2):=by
 unfold W.room Qm at hr;unfold Jg at hE ⊢;dsimp only at hE ⊢;have g1:=(Cz g.cond σ).ev;have h1:=jd1 gl k g.cond σ (by unfold W.room;omega);generalize j4 σ g.cond=r1 at g1 h1 hE ⊢;have g2:=(Cz g.av r1.2).ev;have h2:=jd1 gl k g.av r1.2 (by unfold W.room;omega);generalize j4 r1.2 g.av=r2 at g2 h2 hE ⊢;have g3:=(Fs g.aj r2.2).ev;have h3:=jm5 gl k g.aj r2.2 (by unfold W.room;omega);generalize y9 j4 r2.2 g.aj=r3 at g3 h3 hE ⊢;have g4:=(Fs g.values r3.2).ev;have h4:=jm5 gl k g.values r3.2 (by unfold W.room;omega);generalize y9 j4 r3.2 g.values=r4 at g4 h4 hE ⊢;have h5:=jd1 gl k g.time r4.2 (by unfold W.room;omega);generalize j4 r4.2 g.time=r5 at h5 hE ⊢;unfold Gu.body';clear g1 g2 g3 g4 hr;rw[jb9];simp only[k9]at h1 h2 h5;cases k
 all_goals dsimp only[HW,ja9,n7]at h1 h2 h3 h4 h5 hE ⊢
 all_goals (refine j2 func57 ntmps57 results57 λw M E b0=>?_)
 all_goals (repeat' first|apply Ca 3;(refine Cm 3 ?_)|apply Ca 4;(refine j3 4 ?_)|apply Ca 8;refine Ch (hc:=h1) ?_|apply Ca 13;refine Ch (hc:=h2) ?_|apply Ca 19;refine Ch (hc:=h3) ?_|apply Ca 25;refine Ch (hc:=h4) ?_|apply Ca 30;refine Ch (hc:=h5) ?_|apply Ca 36;refine Ch (hc:=hE) ?_|refine yyp ?_;try refine Ce ?_ ?_<;>intro hb|refine yy ?_|apply ah;refine Cc [0,1,3,4,5,6,7,93] ?_|refine Cb λK hK=>?_|apply_assumption -exfalso -symm)
 all_goals (refine j1 (j6 ⟨?_,rfl⟩))
 all_goals rfl
end
section
def Pz:List Nat:=[0,1,2,3,4,5,6,8,9,10,11,12,14,15,16,17,43]
def qg4:List Nat:=[6,8,16,17,18,19,20,21,22,23,24,25]
variable {mm:Int}
structure Sc.W.fit (σ:W)(m:Nat):Prop where
 tk:σ.Yf
 num:σ.Xe m
 room:σ.room m
 deep:σ.deep m
theorem x6 {σ τ:W}{n m:Nat}(g:Sc.Grow σ τ n)(h:σ.fit (n+m)):τ.fit m:=by
 obtain⟨h1,h2,h3,h4⟩:=h;have hlo:=g.lo h2.1;have hhi:=g.hi h2.1;refine⟨?_,⟨?_,?_⟩,?_,?_⟩
 ·unfold W.Yf at *;rw[g.tk];exact h1
 ·have:=h2.1;omega
 ·have h5:=h2.2;rw[g.tk];have:((n+m:Nat):Int) * (σ.tk.length+1)=n * (σ.tk.length+1)+m * (σ.tk.length+1):=by rw[Int.natCast_add,Int.add_mul]
  omega
 ·unfold W.room at *;have:=g.ev;omega
 ·intro s;have:=h4 s;rw[g.env];omega
theorem Sc.W.fit.mono {σ:W}{n m:Nat}(h:σ.fit n)(hm:m<=n):σ.fit m:=by
 have:=x6 (Sc.Grow.refl σ (n - m)) (m:=m) (by rwa [show n - m+m=n by omega]);exact this
theorem kf2 {σ τ:W}{ns:List ByteArray}{xs:List Sc.Ent}{m:Nat}(hσ:σ.fit (ns.length+m))(h:τ.fit m)(hl:ns.length=xs.length):W.fit {τ with env:=Ck σ.env ns xs} m:=by
 refine⟨h.tk,h.num,h.room,λs=>?_⟩;obtain⟨l,h1,h2⟩:=jf1 ns xs σ.env s hl;have h3:=jk7 s ns;have h4:=hσ.deep s;dsimp only;rw[h1,Ag,h2];omega
theorem md7 (l:List (Bool × List ByteArray))(σ:W)(nn:List ByteArray)(j:Nat)(hj:j<=l.length)(hl:nn.length=l.length):Sc.Grow σ (Cr (Cv σ nn) (l.take j)).2 (2 * nn.length):=by
 have h:=(Lp σ nn).trans (Ki (l.take j) (Cv σ nn));refine h.mono ?_;rw[Ak];omega
theorem ve5 (k:Sc.Kind)(σ:W)(s:Sp)(hf:σ.fit (2 * s.names.length+1))(hl:s.aN.l.length<=1000000000):
 FnE prog (glS mm) 80 [.ptr 900 0,.d (.list 1 (s.names.map .str)),.clo (.func 81) [] [.ptr 1002 0,.ptr 1003 0]] ((1002,.box [.ptr 900 0])::(1003,.box (sv s))::HW k σ)
  (λv H1=>v=.d (.list 3 ((Cr (Cv σ s.names) (s.names.map λ_=>Gq σ.env s)).1.map Fv))/\H1=(1002,.box [.ptr 900 0])::(1003,.box (sv s))::HW k (Cr (Cv σ s.names) (s.names.map λ_=>Gq σ.env s)).2):=by
 have hr:=hf.room;unfold W.room at hr;refine mk9 (glS mm) k σ s.names (s.names.map λ_=>Gq σ.env s) s (by simp) (by simp) (by omega) (by unfold W.room;omega) λj hj=>?_;have g:=md7 (s.names.map λ_=>Gq σ.env s) σ s.names j (by omega) (by simp);have hfj:=x6 g (m:=1) hf;have h:=qw9 (mm:=mm) k (Cr (Cv σ s.names) ((s.names.map λ_=>Gq σ.env s).take j)).2 s j hfj.tk hfj.num hl;rw[g.env]at h;simp only[List.getElem_map];exact h
theorem ve6 (k:Sc.Kind)(σ σ0:W)(s:Sp)(he:σ.env=σ0.env)(hf:σ.fit (2 * s.ax.length+1)):
 FnE prog (glS mm) 80 [.ptr 900 0,.d (.list 1 ((s.ax.map (·.name)).map .str)),.clo (.func 83) [] [.ptr 1002 0,.ptr 1003 0]] ((1002,.box [.ptr 900 0])::(1003,.box (sv s))::HW k σ)
  (λv H1=>v=.d (.list 3 ((Cr (Cv σ (s.ax.map (·.name))) (s.ax.map λf=>(false,Dg σ0.env f.type))).1.map Fv))/\H1=(1002,.box [.ptr 900 0])::(1003,.box (sv s))::HW k (Cr (Cv σ (s.ax.map (·.name))) (s.ax.map λf=>(false,Dg σ0.env f.type))).2):=by
 have hr:=hf.room;unfold W.room at hr;refine ml0 (glS mm) k σ (s.ax.map (·.name)) (s.ax.map λf=>(false,Dg σ0.env f.type)) s (by simp) (by simp) (by rw[Aa];omega) (by unfold W.room;rw[Aa];omega) λj hj=>?_;have hj':j<s.ax.length:=by simpa using hj
 have g:=md7 (s.ax.map λf=>(false,Dg σ0.env f.type)) σ (s.ax.map (·.name)) j (by omega) (by simp);rw[Aa]at g;have hfj:=x6 g (m:=1) hf;have h:=qx0 (mm:=mm) k (Cr (Cv σ (s.ax.map (·.name))) ((s.ax.map λf=>(false,Dg σ0.env f.type)).take j)).2 s j hj' hfj.tk hfj.num;rw[g.env,he]at h;simp only[List.getElem_map];exact h
def Sp.with' (s:Sp)(h:Sc.Head)(b:List Pr):Sp:=.mk s.kind h.type h.names h.e s.aN h.ax b
attribute [local irreducible] TR TC
theorem qg5 (k:Sc.Kind)(s:Sp)(σ σb:W)(b:List Pr)(hf:σ.fit (Qd s+1))(hl:s.aN.l.length<=1000000000)(hv:∀ v∈s.aN.l,v.items.length<=10000000)
 (hbe:σb.env=Ck σ.env (s.ax.map (·.name)) (Hf σ s).1.inner)
 (hE:FnE prog (glS mm) 58 [.d (.list 42 (s.body.map dPr)),.clo (.func 31) [.ptr 900 0] []] (HW k {(Hf σ s).2 with env:=Ck σ.env (s.ax.map (·.name)) (Hf σ s).1.inner}) (λv H1=>v=.d (.list 42 (b.map dPr))/\H1=HW k σb)):
 FnE prog (glS mm) 53 [.ptr 900 0,.d (dSp s)] (HW k σ)
  (λv H1=>v=.tup [.d (dSp (s.with' (Hf σ s).1 b)),.d (.list 3 ((Hf σ s).1.own.map Fv))]/\H1=HW k {σb with env:=σ.env}):=by
 have g0:=Ox σ s;have henv:=g0.env;have hfr:=hf.room;unfold W.room Qd at hfr;have hd:=x6 g0 (m:=1) hf;have hdeep:=hf.deep;have hN:Qd s=2 * s.names.length+3 * s.ax.length+exN s.e+1:=rfl;have h1:=ve5 (mm:=mm) k σ s (hf.mono (by omega)) hl;have g1:=(Lp σ s.names).trans (Ki (s.names.map λ_=>Gq σ.env s) (Cv σ s.names));have n1:=Ns (s.names.map λ_=>Gq σ.env s) (Cv σ s.names);unfold Hf at hbe hE hd henv ⊢;dsimp only at hbe hE hd henv ⊢;generalize Cr (Cv σ s.names) (s.names.map λ_=>Gq σ.env s)=o at h1 g1 n1 hbe hE hd henv ⊢;rw[Aa]at g1 n1;have f1:=x6 g1 (m:=3 * s.ax.length+exN s.e+2) (hf.mono (by omega));have h2:=ve6 (mm:=mm) k o.2 σ s g1.env (f1.mono (by omega));have g2:=(Lp o.2 (s.ax.map (·.name))).trans (Ki (s.ax.map λf=>(false,Dg σ.env f.type)) (Cv o.2 (s.ax.map (·.name))));have n2:=Ns (s.ax.map λf=>(false,Dg σ.env f.type)) (Cv o.2 (s.ax.map (·.name)));generalize Cr (Cv o.2 (s.ax.map (·.name))) (s.ax.map λf=>(false,Dg σ.env f.type))=i at h2 g2 n2 hbe hE hd henv ⊢;rw[Aa]at n2;rw[Aa,Aa]at g2;have f2:=x6 g2 (m:=s.ax.length+exN s.e+2) (f1.mono (by omega));have h3:=mq4 (glS mm) k i.2 s.type (f2.mono (m:=1) (by omega)).room;have g3:=Nv i.2 s.type;generalize Ie i.2 s.type=t at h3 g3 hbe hE hd henv ⊢;have f3:=x6 g3 (m:=s.ax.length+exN s.e+1) (f2.mono (by omega));have h4:=ko4 (glS mm) k s.ax t.2 (i.1.map (·.aD)) (by rw[Aa];omega) (by rw[Aa];omega) (by omega) (f3.mono (m:=s.ax.length) (by omega)).room;have g4:=kd4 s.ax t.2 s.ax.length;rw[Bk]at g4;generalize y9 Dk t.2 s.ax=f at h4 g4 hbe hE hd henv ⊢;have h5:=jd1 (glS mm) k s.e f.2 (by have:=f3.room;unfold W.room at this ⊢;omega);generalize j4 f.2 s.e=e at h5 hbe hE hd henv ⊢;have hn1:=qf9 (glS mm) o.1 (by omega);have hn2:=qf9 (glS mm) i.1 (by omega);have h6:=mv6 (glS mm) s.aN.l hl hv;have h7:=qw7 (glS mm) k {e.2 with env:=Ck σ.env (s.ax.map (·.name)) i.1} σb (.mk s.kind t.1 (o.1.map (·.aD)) e.1 s.aN (Sc.named f.1 (i.1.map (·.aD))) s.body) b hE;have h8:=qw6 (glS mm) k e.2 σb (s.ax.map (·.name)) i.1 (.mk s.kind t.1 (o.1.map (·.aD)) e.1 s.aN (Sc.named f.1 (i.1.map (·.aD))) s.body) (Sp.Xi (.mk s.kind t.1 (o.1.map (·.aD)) e.1 s.aN (Sc.named f.1 (i.1.map (·.aD))) s.body) b) (by rw[Aa,n2]) (λu=>by
  have:=hdeep u;rw[henv,Aa];unfold Qd at this;omega) (by rw[henv];exact hbe) (by rw[henv];exact h7)
 rw[henv]at h8;have hfl:s.ax.length<=1000000000:=by omega
 clear h7 hE f1 f2 f3 g1 g2 g3 g4 n1 n2 hd hbe hdeep g0 hN hfr hf hv henv;unfold Sp.with' at *;simp only[k9]at h5;cases k
 all_goals dsimp only[HW,ja9,n7]at h1 h2 h3 h4 h5 h8 ⊢
 case free=>
  (refine j2 func53 ntmps53 results53 λw M E b0=>?_)
  (repeat' first|apply Ca 2;(refine Cm 1002 ?_)|apply Ca 3;(refine Cm 1003 ?_)|apply Ca 4;(refine j3 1004 ?_)|refine yyp ?_;try refine Ce ?_ ?_<;>intro hb|refine yy ?_|apply ah;refine Cc Pz ?_|refine Cb λK hK=>?_|apply_assumption -exfalso -symm)
  refine mu4 (t:=6) (e:=9) (sz:=1) rfl rfl ?_;refine j9 qg4 [6] (λx:Nat × Nat=>[(16,.d (.int .i64 x.1)),(6,.own 6 x.2)]) (λx=>[(6,.row 9 1 true (((s.ax.take x.1).map (·.name)).map .str) x.2)]) (λx=>x.1<=s.ax.length) (λx=>s.ax.length - x.1) (0,0) (Ai _) λ⟨j,kv⟩ hj=>?_;dsimp only[Ac,Ad]at hj ⊢;have hlen:((s.ax.take j).map (·.name)).length=j:=by rw[Aa,Ak];omega
  rcases Ah j s.ax.length with hj2|hj2
  ·(repeat' first|apply Ca 8;(refine j3 1008 ?_)|apply Ca 23;(refine Df 1023 ?_)|refine yyp ?_;try refine Ce ?_ ?_<;>intro hb|refine yy ?_|(apply Cw;first|(refine Da (λkv=>?_))|(refine ai (λsx sp kv hsx hsp hsl=>?_)))|apply ah;refine Cc Pz ?_|refine Cb λK hK=>?_|apply_assumption -exfalso -symm)
   refine⟨(j+1,kv),by dsimp only;omega,by dsimp only;omega,?_⟩;dsimp only;rw[Ao hj2];simp only[Ar,Ap,Ba];exact r9
  rw[Am hj2]
  (repeat' first|apply Ca 30;refine Ch (hc:=h1) ?_|apply Ca 34;refine Ch (hc:=h2) ?_|apply Ca 11;(refine j3 1011 ?_)|apply Ca 43;refine Ch (hc:=h3) ?_|apply Ca 12;(refine j3 1012 ?_)|apply Ca 48;refine Ch (hc:=h4) ?_|apply Ca 53;refine Ch (hc:=h5) ?_|apply Ca 59;refine Ch (hc:=h8) ?_|refine yyp ?_;try refine Ce ?_ ?_<;>intro hb|refine yy ?_|apply Cg 84;refine Ci (hc:=hn1) ?_|apply Cg 84;refine Ci (hc:=hn2) ?_|apply Cg 89;refine Ci (hc:=h6) ?_|apply ah;refine Cc Pz ?_|refine Cb λK hK=>?_|apply_assumption -exfalso -symm)
  (refine j1 (j6 ⟨?_,rfl⟩))
  rfl
 case check ns=>
  (refine j2 func53 ntmps53 results53 λw M E b0=>?_)
  (repeat' first|apply Ca 2;(refine Cm 1002 ?_)|apply Ca 3;(refine Cm 1003 ?_)|apply Ca 4;(refine j3 1004 ?_)|refine yyp ?_;try refine Ce ?_ ?_<;>intro hb|refine yy ?_|apply ah;refine Cc Pz ?_|refine Cb λK hK=>?_|apply_assumption -exfalso -symm)
  refine mu4 (t:=6) (e:=9) (sz:=1) rfl rfl ?_;refine j9 qg4 [6] (λx:Nat × Nat=>[(16,.d (.int .i64 x.1)),(6,.own 6 x.2)]) (λx=>[(6,.row 9 1 true (((s.ax.take x.1).map (·.name)).map .str) x.2)]) (λx=>x.1<=s.ax.length) (λx=>s.ax.length - x.1) (0,0) (Ai _) λ⟨j,kv⟩ hj=>?_;dsimp only[Ac,Ad]at hj ⊢;have hlen:((s.ax.take j).map (·.name)).length=j:=by rw[Aa,Ak];omega
  rcases Ah j s.ax.length with hj2|hj2
  ·(repeat' first|apply Ca 8;(refine j3 1008 ?_)|apply Ca 23;(refine Df 1023 ?_)|refine yyp ?_;try refine Ce ?_ ?_<;>intro hb|refine yy ?_|(apply Cw;first|(refine Da (λkv=>?_))|(refine ai (λsx sp kv hsx hsp hsl=>?_)))|apply ah;refine Cc Pz ?_|refine Cb λK hK=>?_|apply_assumption -exfalso -symm)
   refine⟨(j+1,kv),by dsimp only;omega,by dsimp only;omega,?_⟩;dsimp only;rw[Ao hj2];simp only[Ar,Ap,Ba];exact r9
  rw[Am hj2]
  (repeat' first|apply Ca 30;refine Ch (hc:=h1) ?_|apply Ca 34;refine Ch (hc:=h2) ?_|apply Ca 11;(refine j3 1011 ?_)|apply Ca 43;refine Ch (hc:=h3) ?_|apply Ca 12;(refine j3 1012 ?_)|apply Ca 48;refine Ch (hc:=h4) ?_|apply Ca 53;refine Ch (hc:=h5) ?_|apply Ca 59;refine Ch (hc:=h8) ?_|refine yyp ?_;try refine Ce ?_ ?_<;>intro hb|refine yy ?_|apply Cg 84;refine Ci (hc:=hn1) ?_|apply Cg 84;refine Ci (hc:=hn2) ?_|apply Cg 89;refine Ci (hc:=h6) ?_|apply ah;refine Cc Pz ?_|refine Cb λK hK=>?_|apply_assumption -exfalso -symm)
  (refine j1 (j6 ⟨?_,rfl⟩))
  rfl
 case none=>
  (refine j2 func53 ntmps53 results53 λw M E b0=>?_)
  (repeat' first|apply Ca 2;(refine Cm 1002 ?_)|apply Ca 3;(refine Cm 1003 ?_)|apply Ca 4;(refine j3 1004 ?_)|refine yyp ?_;try refine Ce ?_ ?_<;>intro hb|refine yy ?_|apply ah;refine Cc Pz ?_|refine Cb λK hK=>?_|apply_assumption -exfalso -symm)
  refine mu4 (t:=6) (e:=9) (sz:=1) rfl rfl ?_;refine j9 qg4 [6] (λx:Nat × Nat=>[(16,.d (.int .i64 x.1)),(6,.own 6 x.2)]) (λx=>[(6,.row 9 1 true (((s.ax.take x.1).map (·.name)).map .str) x.2)]) (λx=>x.1<=s.ax.length) (λx=>s.ax.length - x.1) (0,0) (Ai _) λ⟨j,kv⟩ hj=>?_;dsimp only[Ac,Ad]at hj ⊢;have hlen:((s.ax.take j).map (·.name)).length=j:=by rw[Aa,Ak];omega
  rcases Ah j s.ax.length with hj2|hj2
  ·(repeat' first|apply Ca 8;(refine j3 1008 ?_)|apply Ca 23;(refine Df 1023 ?_)|refine yyp ?_;try refine Ce ?_ ?_<;>intro hb|refine yy ?_|(apply Cw;first|(refine Da (λkv=>?_))|(refine ai (λsx sp kv hsx hsp hsl=>?_)))|apply ah;refine Cc Pz ?_|refine Cb λK hK=>?_|apply_assumption -exfalso -symm)
   refine⟨(j+1,kv),by dsimp only;omega,by dsimp only;omega,?_⟩;dsimp only;rw[Ao hj2];simp only[Ar,Ap,Ba];exact r9
  rw[Am hj2]
  (repeat' first|apply Ca 30;refine Ch (hc:=h1) ?_|apply Ca 34;refine Ch (hc:=h2) ?_|apply Ca 11;(refine j3 1011 ?_)|apply Ca 43;refine Ch (hc:=h3) ?_|apply Ca 12;(refine j3 1012 ?_)|apply Ca 48;refine Ch (hc:=h4) ?_|apply Ca 53;refine Ch (hc:=h5) ?_|apply Ca 59;refine Ch (hc:=h8) ?_|refine yyp ?_;try refine Ce ?_ ?_<;>intro hb|refine yy ?_|apply Cg 84;refine Ci (hc:=hn1) ?_|apply Cg 84;refine Ci (hc:=hn2) ?_|apply Cg 89;refine Ci (hc:=h6) ?_|apply ah;refine Cc Pz ?_|refine Cb λK hK=>?_|apply_assumption -exfalso -symm)
  (refine j1 (j6 ⟨?_,rfl⟩))
  rfl
end
end Go.Proofs.YtklklgfpkpglgaaGreatDoor
