/- Parts. -/
import Derived.Test.YtklklgfpkpglgaaGreatDoorQ29
import Derived.Test.YtklklgfpkpglgaaGreatDoorQ28
set_option linter.all false
set_option maxRecDepth 100000
set_option maxHeartbeats 0
namespace Go.Proofs.YtklklgfpkpglgaaGreatDoor
open Go.RowKit Go.Proofs.Tryz Sc
variable (gl:List (Nat × List D))
section
def Wz:List Nat:=[0,1,4,5,7,10,14,15,16,17]
variable {mm:Int}
theorem kr6:∀ (l:List Fo) (ns:List ByteArray) (f:Fo) (s:ByteArray),ns.length=l.length->Sc.named (l++[f]) (ns++[s])=Sc.named l ns++[{f with name:=s}]
 |[],[],f,s,_=>rfl
 |[],_::_,_,_,h=>by cases h
 |_::_,[],_,_,h=>by cases h
 |g::l,n::ns,f,s,h=>by simp only[Ac,Sc.named,kr6 l ns f s (by simpa using h)]
theorem kd5 (l:List Fo)(σ:W)(j:Nat):(z6 Fq σ (l.take j)).2.ev.length<=σ.ev.length+j:=by
 have h:=(Nn (λ_=>1) (λf σ=>Ko σ f) (l.take j) σ).ev;have h8:∀ l:List Fo,(l.map λ_=>1).sum=l.length:=λl=>by
  induction l with
  |nil=>rfl
  |cons x l ih=>simp only[List.map_cons,List.sum_cons,ih,Aj];omega
 rw[h8,Aq]at h;omega
attribute [local irreducible] TR TC
theorem kp7 (k:Sc.Kind)(l:List Fo)(σ:W)(nn:List ByteArray)(hl1:nn.length<=l.length)(hl2:l.length<=nn.length)(hl:l.length<=1000000000)(hr:σ.room l.length):
 FnE prog gl 86 [.d (.list 6 (l.map dFo)),.clo (.func 87) [] [.ptr 1012 0,.ptr 1011 0,.ptr 1002 0]] ((1012,.box [.d (.int .i64 (-1))])::(1011,.box [.d (.list 1 (nn.map .str))])::(1002,.box [.ptr 900 0])::HW k σ)
  (λv H1=>v=.d (.list 6 ((Sc.named (z6 Fq σ l).1 nn).map dFo))/\H1=(1012,.box [.d (.int .i64 ((l.length:Int) - 1))])::(1011,.box [.d (.list 1 (nn.map .str))])::(1002,.box [.ptr 900 0])::HW k (z6 Fq σ l).2):=by
 unfold W.room at hr;have h2:=λ(j:Nat) (hj:j<l.length)=>re3 gl k (z6 Fq σ (l.take j)).2 l[j] nn j (by omega) (by omega) (by have:=kd5 l σ j;unfold W.room;omega);have tg:k=k:=rfl;cases k
 all_goals dsimp only[HW,je0,jb3]at h2 ⊢
 all_goals
  (refine j3 func86 ntmps86 results86 λw M E b0=>?_)
  (repeat' first|apply Ca 13;(refine ka3 13 ?_)|refine yyp ?_;try refine Ce ?_ ?_<;>intro hb|refine yy ?_|refine yy2 ?_ ?_<;>intro hcmp|apply ah;refine Cc Wz ?_|refine Cb λK hK=>?_|apply_assumption -exfalso -symm)
  ·have h0:l=[]:=Bg (by omega);subst h0;obtain rfl:nn=[]:=Bg (by simp only[Az]at hl1;omega)
   (refine j1 (j8 ⟨?_,rfl⟩))
   rfl
  refine kp0 (λx:Nat × Nat=>⟨[(16,.d (.int .i64 x.1)),(15,.d (.int .i64 l.length)),(14,.d (.list 6 (l.map dFo))),(5,.own 13 x.2),(1,.clo (.func 87) [] [.ptr 1012 0,.ptr 1011 0,.ptr 1002 0])],(13,.row 128 6 true ((Sc.named (z6 Fq σ (l.take x.1)).1 (nn.take x.1)).map dFo) x.2)::(1012,.box [.d (.int .i64 ((x.1:Int) - 1))])::(1011,.box [.d (.list 1 (nn.map .str))])::(1002,.box [.ptr 900 0])::HW (kof tg) (z6 Fq σ (l.take x.1)).2,gl⟩)
   (λx=>x.1<=l.length) (λx=>l.length - x.1) (0,0) (Ak _) v6 λ⟨j,kv⟩ hj=>?_
  dsimp only[HW,je0,jb3,kof]at hj ⊢;have hlm:=jj9 Fq (l.take j) σ;have hlen:=Rv (z6 Fq σ (l.take j)).1 (nn.take j) (by rw[hlm,Aq,Aq];omega);rw[hlm]at hlen;simp only[Aq]at hlen;rcases Ai j l.length with hj2|hj2
  ·have hone:=h2 j hj2
   (repeat' first|apply Ca 7;(refine j2 7 ?_)|apply Ca 23;refine Ch (hc:=hone) ?_|apply Ca 24;(refine Fu 24 ?_)|refine yyp ?_;try refine Ce ?_ ?_<;>intro hb|refine yy ?_|(apply Dw;first|(refine Gj (λkv=>?_))|(refine ai (λsx sp kv hsx hsp hsl=>?_)))|apply ah;refine Cc Wz ?_|refine Cb λK hK=>?_|apply_assumption -exfalso -symm)
   refine⟨(j+1,kv),by dsimp only;omega,by dsimp only;omega,?_⟩;dsimp only;rw[ji5 Fq l σ j hj2,An (show j<nn.length by omega),kr6 _ _ _ _ (by rw[hlm,Aq,Aq];omega),show((j+1:Nat):Int) - 1=j by omega];simp only[Av,List.map_cons,Bj];exact v6
  (repeat' first|refine yyp ?_;try refine Ce ?_ ?_<;>intro hb|refine yy ?_|apply ah;refine Cc Wz ?_|refine Cb λK hK=>?_|apply_assumption -exfalso -symm)
  have hjl:j=l.length:=by omega
  subst hjl;rw[Bv,Ba hl1]
  (refine j1 (j8 ⟨?_,rfl⟩))
  rfl
end
section
variable {mm:Int}
theorem Pz (l:List Ex)(σ:W)(j:Nat)(hj:j<l.length):(z6 j5 σ (l.take j)).2.ev.length+exN l[j]<=σ.ev.length+Gw l:=by
 have h1:=(Gf (l.take j) σ).ev;have h2:=jb6 l j hj;omega
theorem kj7 (k:Sc.Kind)(l:List Ex)(σ:W)(hr:σ.room (Gw l)):
 FnE prog gl 49 [.d (.list 6 (l.map dEx)),.clo (.func 48) [.ptr 900 0] []] (HW k σ)
  (λv H1=>v=.d (.list 6 ((z6 j5 σ l).1.map dEx))/\H1=HW k (z6 j5 σ l).2):=by
 unfold W.room at hr;have:=jd0 l;refine kd2 gl k l σ (by omega) λj hj=>qj8 gl k _ l[j] _ (Ap _) ?_;have:=Pz l σ j hj;unfold W.room;omega
theorem ke5 (k:Sc.Kind)(e:Ex)(σ:W)(hr:σ.room (exN e)):FnE prog gl 48 [.ptr 900 0,.d (dEx e)] (HW k σ)
 (λv H1=>v=.d (dEx (j5 σ e).1)/\H1=HW k (j5 σ e).2):=qj8 gl k _ e σ (Ap _) hr
def Gu.body' (g:Gu)(h:Sc.GHead)(b:List Pr):Gu:=.mk g.kind g.name h.cond h.av h.aj h.values h.time b
attribute [local irreducible] TR TC
theorem qa0 (k:Sc.Kind)(g:Gu)(σ σ2:W)(b:List Pr)(hr:σ.room (Qb g.cond g.av g.aj g.values g.time))
 (hE:FnE prog gl 58 [.d (.list 42 (g.body.map dPr)),.clo (.func 31) [.ptr 900 0] []] (HW k (Hy σ g.cond g.av g.aj g.values g.time).2) (λv H1=>v=.d (.list 42 (b.map dPr))/\H1=HW k σ2)):
 FnE prog gl 57 [.ptr 900 0,.d (dGu g)] (HW k σ)
  (λv H1=>v=.d (dGu (g.body' (Hy σ g.cond g.av g.aj g.values g.time).1 b))/\H1=HW k σ2):=by
 unfold W.room Qb at hr;unfold Hy at hE ⊢;dsimp only at hE ⊢;have g1:=(Dk g.cond σ).ev;have h1:=ke5 gl k g.cond σ (by unfold W.room;omega);generalize j5 σ g.cond=r1 at g1 h1 hE ⊢;have g2:=(Dk g.av r1.2).ev;have h2:=ke5 gl k g.av r1.2 (by unfold W.room;omega);generalize j5 r1.2 g.av=r2 at g2 h2 hE ⊢;have g3:=(Gf g.aj r2.2).ev;have h3:=kj7 gl k g.aj r2.2 (by unfold W.room;omega);generalize z6 j5 r2.2 g.aj=r3 at g3 h3 hE ⊢;have g4:=(Gf g.values r3.2).ev;have h4:=kj7 gl k g.values r3.2 (by unfold W.room;omega);generalize z6 j5 r3.2 g.values=r4 at g4 h4 hE ⊢;have h5:=ke5 gl k g.time r4.2 (by unfold W.room;omega);generalize j5 r4.2 g.time=r5 at h5 hE ⊢;unfold Gu.body';clear g1 g2 g3 g4 hr;rw[jb7];simp only[r8]at h1 h2 h5;cases k
 all_goals dsimp only[HW,je0,jb3]at h1 h2 h3 h4 h5 hE ⊢
 all_goals (refine j3 func57 ntmps57 results57 λw M E b0=>?_)
 all_goals (repeat' first|apply Ca 3;(refine Ck 3 ?_)|apply Ca 4;(refine j2 4 ?_)|apply Ca 8;refine Ch (hc:=h1) ?_|apply Ca 13;refine Ch (hc:=h2) ?_|apply Ca 19;refine Ch (hc:=h3) ?_|apply Ca 25;refine Ch (hc:=h4) ?_|apply Ca 30;refine Ch (hc:=h5) ?_|apply Ca 36;refine Ch (hc:=hE) ?_|refine yyp ?_;try refine Ce ?_ ?_<;>intro hb|refine yy ?_|apply ah;refine Cc [0,1,3,4,5,6,7,93] ?_|refine Cb λK hK=>?_|apply_assumption -exfalso -symm)
 all_goals (refine j1 (j8 ⟨?_,rfl⟩))
 all_goals rfl
end
section
def Xa:List Nat:=[0,1,2,3,4,5,6,8,9,10,11,12,14,15,16,17,43]
variable {mm:Int}
structure Sc.W.fit (σ:W)(m:Nat):Prop where
 tk:σ.Yl
 num:σ.Xh m
 room:σ.room m
 deep:σ.deep m
theorem l6 {σ τ:W}{n m:Nat}(g:Sc.Grow σ τ n)(h:σ.fit (n+m)):τ.fit m:=by
 obtain⟨h1,h2,h3,h4⟩:=h;have hlo:=g.lo h2.1;have hhi:=g.hi h2.1;refine⟨?_,⟨?_,?_⟩,?_,?_⟩
 ·unfold W.Yl at *;rw[g.tk];exact h1
 ·have:=h2.1;omega
 ·have h5:=h2.2;rw[g.tk];have:((n+m:Nat):Int) * (σ.tk.length+1)=n * (σ.tk.length+1)+m * (σ.tk.length+1):=by rw[Int.natCast_add,Int.add_mul]
  omega
 ·unfold W.room at *;have:=g.ev;omega
 ·intro s;have:=h4 s;rw[g.env];omega
theorem Sc.W.fit.mono {σ:W}{n m:Nat}(h:σ.fit n)(hm:m<=n):σ.fit m:=by
 have:=l6 (Sc.Grow.refl σ (n - m)) (m:=m) (by rwa [show n - m+m=n by omega]);exact this
theorem kf2 {σ τ:W}{ns:List ByteArray}{xs:List Sc.Ent}{m:Nat}(hσ:σ.fit (ns.length+m))(h:τ.fit m)(hl:ns.length=xs.length):W.fit {τ with env:=Cn σ.env ns xs} m:=by
 refine⟨h.tk,h.num,h.room,λs=>?_⟩;obtain⟨l,h1,h2⟩:=jw4 ns xs σ.env s hl;have h3:=kx1 s ns;have h4:=hσ.deep s;dsimp only;rw[h1,Ag,h2];omega
theorem mg3 (l:List (Bool × List ByteArray))(σ:W)(nn:List ByteArray)(j:Nat)(hj:j<=l.length)(hl:nn.length=l.length):Sc.Grow σ (Da (Cr σ nn) (l.take j)).2 (2 * nn.length):=by
 have h:=(Lf σ nn).trans (Ke (l.take j) (Cr σ nn));refine h.mono ?_;rw[Aq];omega
theorem vq6 (k:Sc.Kind)(σ:W)(s:Sp)(hf:σ.fit (2 * s.names.length+1))(hl:s.aN.l.length<=1000000000):
 FnE prog (glS mm) 80 [.ptr 900 0,.d (.list 1 (s.names.map .str)),.clo (.func 81) [] [.ptr 1002 0,.ptr 1003 0]] ((1002,.box [.ptr 900 0])::(1003,.box (sv s))::HW k σ)
  (λv H1=>v=.d (.list 3 ((Da (Cr σ s.names) (s.names.map λ_=>Dx σ.env s)).1.map Lj))/\H1=(1002,.box [.ptr 900 0])::(1003,.box (sv s))::HW k (Da (Cr σ s.names) (s.names.map λ_=>Dx σ.env s)).2):=by
 have hr:=hf.room;unfold W.room at hr;refine kr5 (fc:=81) (glS mm) k σ s.names (s.names.map λ_=>Dx σ.env s) s (by simp) (by simp) (by omega) (by unfold W.room;omega) λj hj=>?_;have g:=mg3 (s.names.map λ_=>Dx σ.env s) σ s.names j (by omega) (by simp);have hfj:=l6 g (m:=1) hf;have h:=re1 (mm:=mm) k (Da (Cr σ s.names) ((s.names.map λ_=>Dx σ.env s).take j)).2 s j hfj.tk hfj.num hl;rw[g.env]at h;simp only[List.getElem_map];exact h
theorem vq7 (k:Sc.Kind)(σ σ0:W)(s:Sp)(he:σ.env=σ0.env)(hf:σ.fit (2 * s.ax.length+1)):
 FnE prog (glS mm) 80 [.ptr 900 0,.d (.list 1 ((s.ax.map (·.name)).map .str)),.clo (.func 83) [] [.ptr 1002 0,.ptr 1003 0]] ((1002,.box [.ptr 900 0])::(1003,.box (sv s))::HW k σ)
  (λv H1=>v=.d (.list 3 ((Da (Cr σ (s.ax.map (·.name))) (s.ax.map λf=>(false,Cx σ0.env f.type))).1.map Lj))/\H1=(1002,.box [.ptr 900 0])::(1003,.box (sv s))::HW k (Da (Cr σ (s.ax.map (·.name))) (s.ax.map λf=>(false,Cx σ0.env f.type))).2):=by
 have hr:=hf.room;unfold W.room at hr;refine kr5 (fc:=83) (glS mm) k σ (s.ax.map (·.name)) (s.ax.map λf=>(false,Cx σ0.env f.type)) s (by simp) (by simp) (by rw[Ab];omega) (by unfold W.room;rw[Ab];omega) λj hj=>?_;have hj':j<s.ax.length:=by simpa using hj
 have g:=mg3 (s.ax.map λf=>(false,Cx σ0.env f.type)) σ (s.ax.map (·.name)) j (by omega) (by simp);rw[Ab]at g;have hfj:=l6 g (m:=1) hf;have h:=re2 (mm:=mm) k (Da (Cr σ (s.ax.map (·.name))) ((s.ax.map λf=>(false,Cx σ0.env f.type)).take j)).2 s j hj' hfj.tk hfj.num;rw[g.env,he]at h;simp only[List.getElem_map];exact h
def Sp.with' (s:Sp)(h:Sc.Head)(b:List Pr):Sp:=.mk s.kind h.type h.names h.e s.aN h.ax b
attribute [local irreducible] TR TC
theorem ql5 (k:Sc.Kind)(s:Sp)(σ σb:W)(b:List Pr)(hf:σ.fit (Po s+1))(hl:s.aN.l.length<=1000000000)(hv:∀ v∈s.aN.l,v.items.length<=10000000)
 (hbe:σb.env=Cn σ.env (s.ax.map (·.name)) (Fw σ s).1.inner)
 (hE:FnE prog (glS mm) 58 [.d (.list 42 (s.body.map dPr)),.clo (.func 31) [.ptr 900 0] []] (HW k {(Fw σ s).2 with env:=Cn σ.env (s.ax.map (·.name)) (Fw σ s).1.inner}) (λv H1=>v=.d (.list 42 (b.map dPr))/\H1=HW k σb)):
 FnE prog (glS mm) 53 [.ptr 900 0,.d (dSp s)] (HW k σ)
  (λv H1=>v=.tup [.d (dSp (s.with' (Fw σ s).1 b)),.d (.list 3 ((Fw σ s).1.own.map Lj))]/\H1=HW k {σb with env:=σ.env}):=by
 have g0:=Nc σ s;have henv:=g0.env;have hfr:=hf.room;unfold W.room Po at hfr;have hd:=l6 g0 (m:=1) hf;have hdeep:=hf.deep;have hN:Po s=2 * s.names.length+3 * s.ax.length+exN s.e+1:=rfl;have h1:=vq6 (mm:=mm) k σ s (hf.mono (by omega)) hl;have g1:=(Lf σ s.names).trans (Ke (s.names.map λ_=>Dx σ.env s) (Cr σ s.names));have n1:=Nj (s.names.map λ_=>Dx σ.env s) (Cr σ s.names);unfold Fw at hbe hE hd henv ⊢;dsimp only at hbe hE hd henv ⊢;generalize Da (Cr σ s.names) (s.names.map λ_=>Dx σ.env s)=o at h1 g1 n1 hbe hE hd henv ⊢;rw[Ab]at g1 n1;have f1:=l6 g1 (m:=3 * s.ax.length+exN s.e+2) (hf.mono (by omega));have h2:=vq7 (mm:=mm) k o.2 σ s g1.env (f1.mono (by omega));have g2:=(Lf o.2 (s.ax.map (·.name))).trans (Ke (s.ax.map λf=>(false,Cx σ.env f.type)) (Cr o.2 (s.ax.map (·.name))));have n2:=Nj (s.ax.map λf=>(false,Cx σ.env f.type)) (Cr o.2 (s.ax.map (·.name)));generalize Da (Cr o.2 (s.ax.map (·.name))) (s.ax.map λf=>(false,Cx σ.env f.type))=i at h2 g2 n2 hbe hE hd henv ⊢;rw[Ab]at n2;rw[Ab,Ab]at g2;have f2:=l6 g2 (m:=s.ax.length+exN s.e+2) (f1.mono (by omega));have h3:=mt5 (glS mm) k i.2 s.type (f2.mono (m:=1) (by omega)).room;have g3:=Np i.2 s.type;generalize Gr i.2 s.type=t at h3 g3 hbe hE hd henv ⊢;have f3:=l6 g3 (m:=s.ax.length+exN s.e+1) (f2.mono (by omega));have h4:=kp7 (glS mm) k s.ax t.2 (i.1.map (·.aD)) (by rw[Ab];omega) (by rw[Ab];omega) (by omega) (f3.mono (m:=s.ax.length) (by omega)).room;have g4:=kd5 s.ax t.2 s.ax.length;rw[Bv]at g4;generalize z6 Fq t.2 s.ax=f at h4 g4 hbe hE hd henv ⊢;have h5:=ke5 (glS mm) k s.e f.2 (by have:=f3.room;unfold W.room at this ⊢;omega);generalize j5 f.2 s.e=e at h5 hbe hE hd henv ⊢;have hn1:=qk6 (glS mm) o.1 (by omega);have hn2:=qk6 (glS mm) i.1 (by omega);have h6:=mz8 (glS mm) s.aN.l hl hv;have h7:=rd9 (glS mm) k {e.2 with env:=Cn σ.env (s.ax.map (·.name)) i.1} σb (.mk s.kind t.1 (o.1.map (·.aD)) e.1 s.aN (Sc.named f.1 (i.1.map (·.aD))) s.body) b hE;have h8:=jw5 (glS mm) (.inr (.mk s.kind t.1 (o.1.map (·.aD)) e.1 s.aN (Sc.named f.1 (i.1.map (·.aD))) s.body,Sp.Xl (.mk s.kind t.1 (o.1.map (·.aD)) e.1 s.aN (Sc.named f.1 (i.1.map (·.aD))) s.body) b)) k e.2 σb (s.ax.map (·.name)) i.1 (by rw[Ab,n2]) (λu=>by
  have:=hdeep u;rw[henv,Ab];unfold Po at this;omega) (by rw[henv];exact hbe) (by rw[henv];exact h7)
 rw[henv]at h8;have hfl:s.ax.length<=1000000000:=by omega
 clear h7 hE f1 f2 f3 g1 g2 g3 g4 n1 n2 hd hbe hdeep g0 hN hfr hf hv henv;unfold Sp.with' at *;simp only[r8]at h5;have tg:k=k:=rfl;cases k
 all_goals dsimp only[HW,je0,jb3,wfc,wc1,wc2]at h1 h2 h3 h4 h5 h8 ⊢
 all_goals
  (refine j3 func53 ntmps53 results53 λw M E b0=>?_)
  (repeat' first|apply Ca 2;(refine Ck 1002 ?_)|apply Ca 3;(refine Ck 1003 ?_)|apply Ca 4;(refine j2 1004 ?_)|refine yyp ?_;try refine Ce ?_ ?_<;>intro hb|refine yy ?_|apply ah;refine Cc Xa ?_|refine Cb λK hK=>?_|apply_assumption -exfalso -symm)
  refine rr5 (t:=6) (e:=9) (sz:=1) rfl rfl ?_;refine k9 [6,8,16,17,18,19,20,21,22,23,24,25] [6] (λx:Nat × Nat=>[(16,.d (.int .i64 x.1)),(6,.own 6 x.2)]) (λx=>[(6,.row 9 1 true (((s.ax.take x.1).map (·.name)).map .str) x.2)]) (λx=>x.1<=s.ax.length) (λx=>s.ax.length - x.1) (0,0) (Ak _) λ⟨j,kv⟩ hj=>?_;dsimp only[Ac,Ae]at hj ⊢;have hlen:((s.ax.take j).map (·.name)).length=j:=by rw[Ab,Aq];omega
  rcases Ai j s.ax.length with hj2|hj2
  ·(repeat' first|apply Ca 8;(refine j2 1008 ?_)|apply Ca 23;(refine Fu 1023 ?_)|refine yyp ?_;try refine Ce ?_ ?_<;>intro hb|refine yy ?_|(apply Dw;first|(refine Gj (λkv=>?_))|(refine ai (λsx sp kv hsx hsp hsl=>?_)))|apply ah;refine Cc Xa ?_|refine Cb λK hK=>?_|apply_assumption -exfalso -symm)
   refine⟨(j+1,kv),by dsimp only;omega,by dsimp only;omega,?_⟩;dsimp only;rw[An hj2];simp only[Av,List.map_cons,Bj];exact v6
  rw[Ba hj2]
  (repeat' first|apply Ca 30;refine Ch (hc:=h1) ?_|apply Ca 34;refine Ch (hc:=h2) ?_|apply Ca 11;(refine j2 1011 ?_)|apply Ca 43;refine Ch (hc:=h3) ?_|apply Ca 12;(refine j2 1012 ?_)|apply Ca 48;refine Ch (hc:=h4) ?_|apply Ca 53;refine Ch (hc:=h5) ?_|apply Ca 59;refine Ch (hc:=h8) ?_|refine yyp ?_;try refine Ce ?_ ?_<;>intro hb|refine yy ?_|apply Cf 84;refine Ci (hc:=hn1) ?_|apply Cf 84;refine Ci (hc:=hn2) ?_|apply Cf 89;refine Ci (hc:=h6) ?_|apply ah;refine Cc Xa ?_|refine Cb λK hK=>?_|apply_assumption -exfalso -symm)
  (refine j1 (j8 ⟨?_,rfl⟩))
  rfl
end
end Go.Proofs.YtklklgfpkpglgaaGreatDoor
