/- Parts: S29, S30, S31. -/
import Derived.Test.YtklklgfpkpglgaaGreatDoorP25
import Derived.Test.YtklklgfpkpglgaaGreatDoorP24
set_option linter.all false
set_option maxRecDepth 100000
set_option maxHeartbeats 16000000
namespace Go.Proofs.YtklklgfpkpglgaaGreatDoor
open Go.RowKit Go.Proofs.Tryz
section
def Pb:List Nat:=[0,1,4,5,7,10,14,15,16,17]
variable {mm:Int}
theorem js4:∀ (l:List Fo) (ns:List ByteArray) (f:Fo) (s:ByteArray),ns.length=l.length->Sc.named (l++[f]) (ns++[s])=Sc.named l ns++[{f with name:=s}]
 |[],[],f,s,_=>rfl
 |[],_::_,_,_,h=>by cases h
 |_::_,[],_,_,h=>by cases h
 |g::l,n::ns,f,s,h=>by simp only[Ac,Sc.named,js4 l ns f s (by simpa using h)]
theorem ke8 (l:List Fo)(σ:Sc.W)(j:Nat):(v7 Sc.Cw σ (l.take j)).2.ev.length<=σ.ev.length+j:=by
 have h:=(Sc.Ns (fun _=>1) (fun f σ=>Sc.Jr σ f) (l.take j) σ).ev;have h8:∀ l:List Fo,(l.map fun _=>1).sum=l.length:=fun l=>by
  induction l with
  |nil=>rfl
  |cons x l ih=>simp only[Aq,List.sum_cons,ih,An];omega
 rw[h8,Aj]at h;omega
attribute [local irreducible] TR TC
theorem kp8 (gl:List (Nat × List D))(k:Sc.Kind)(l:List Fo)(σ:Sc.W)(nn:List ByteArray)(hl1:nn.length<=l.length)(hl2:l.length<=nn.length)(hl:l.length<=1000000000)(hr:σ.room l.length):
 FnE prog gl 86 [.d (.list 6 (l.map dFo)),.clo (.func 87) [] [.ptr 1012 0,.ptr 1011 0,.ptr 1002 0]] ((1012,.box [.d (.int .i64 (-1))])::(1011,.box [.d (.list 1 (nn.map .str))])::(1002,.box [.ptr 900 0])::HW k σ)
  (fun v H1=>v=.d (.list 6 ((Sc.named (v7 Sc.Cw σ l).1 nn).map dFo))/\H1=(1012,.box [.d (.int .i64 ((l.length:Int) - 1))])::(1011,.box [.d (.list 1 (nn.map .str))])::(1002,.box [.ptr 900 0])::HW k (v7 Sc.Cw σ l).2):=by
 unfold Sc.W.room at hr;have h2:=fun(j:Nat) (hj:j<l.length)=>qw7 gl k (v7 Sc.Cw σ (l.take j)).2 l[j] nn j (by omega) (by omega) (by have:=ke8 l σ j;unfold Sc.W.room;omega);cases k
 all_goals dsimp only[HW,ja0,z6]at h2 ⊢
 case free=>
  (refine j2 func86 ntmps86 results86 fun w M E b0=>?_)
  (repeat' first|refine Ca 13 ?_;(refine jc1 13 ?_)|refine yyp ?_;try refine Ce ?_ ?_<;>intro hb|refine yy ?_|refine yy2 ?_ ?_<;>intro hcmp|refine at_nil ?_;refine Cc Pb ?_|refine Cb fun K hK=>?_|apply_assumption -exfalso -symm)
  ·have h0:l=[]:=Ar (by omega);subst h0;obtain rfl:nn=[]:=Ar (by simp only[Av]at hl1;omega)
   (refine j1 (j4 ⟨?_,rfl⟩))
   rfl
  refine ji2 (fun x:Nat × Nat=>⟨[(16,.d (.int .i64 x.1)),(15,.d (.int .i64 l.length)),(14,.d (.list 6 (l.map dFo))),(5,.own 13 x.2),(1,.clo (.func 87) [] [.ptr 1012 0,.ptr 1011 0,.ptr 1002 0])],(13,.row 128 6 true ((Sc.named (v7 Sc.Cw σ (l.take x.1)).1 (nn.take x.1)).map dFo) x.2)::(1012,.box [.d (.int .i64 ((x.1:Int) - 1))])::(1011,.box [.d (.list 1 (nn.map .str))])::(1002,.box [.ptr 900 0])::HW .free (v7 Sc.Cw σ (l.take x.1)).2,gl⟩)
   (fun x=>x.1<=l.length) (fun x=>l.length - x.1) (0,0) (Ai _) k8 fun⟨j,kv⟩ hj=>?_
  dsimp only[HW,ja0,z6]at hj ⊢;have hlm:=n8 Sc.Cw (l.take j) σ;have hlen:=Sc.Oj (v7 Sc.Cw σ (l.take j)).1 (nn.take j) (by rw[hlm,Aj,Aj];omega);rw[hlm]at hlen;simp only[Aj]at hlen;rcases Ah j l.length with hj2|hj2
  ·have hone:=h2 j hj2
   (repeat' first|refine Ca 7 ?_;(refine j3 7 ?_)|refine Ca 23 ?_;refine Cg (hc:=hone) ?_|refine Ca 24 ?_;(refine Dn 24 ?_)|refine yyp ?_;try refine Ce ?_ ?_<;>intro hb|refine yy ?_|(refine Da ?_;first|(refine Df (fun kv=>?_))|(refine z_append_suf (fun sx sp kv hsx hsp hsl=>?_)))|refine at_nil ?_;refine Cc Pb ?_|refine Cb fun K hK=>?_|apply_assumption -exfalso -symm)
   refine⟨(j+1,kv),by dsimp only;omega,by dsimp only;omega,?_⟩;dsimp only;rw[g9 Sc.Cw l σ j hj2,Ao (show j<nn.length by omega),js4 _ _ _ _ (by rw[hlm,Aj,Aj];omega),show((j+1:Nat):Int) - 1=j by omega];simp only[As,Aq,Ax];exact k8
  (repeat' first|refine yyp ?_;try refine Ce ?_ ?_<;>intro hb|refine yy ?_|refine at_nil ?_;refine Cc Pb ?_|refine Cb fun K hK=>?_|apply_assumption -exfalso -symm)
  have hjl:j=l.length:=by omega
  subst hjl;rw[Bg,Am hl1]
  (refine j1 (j4 ⟨?_,rfl⟩))
  rfl
 case check ns=>
  (refine j2 func86 ntmps86 results86 fun w M E b0=>?_)
  (repeat' first|refine Ca 13 ?_;(refine jc1 13 ?_)|refine yyp ?_;try refine Ce ?_ ?_<;>intro hb|refine yy ?_|refine yy2 ?_ ?_<;>intro hcmp|refine at_nil ?_;refine Cc Pb ?_|refine Cb fun K hK=>?_|apply_assumption -exfalso -symm)
  ·have h0:l=[]:=Ar (by omega);subst h0;obtain rfl:nn=[]:=Ar (by simp only[Av]at hl1;omega)
   (refine j1 (j4 ⟨?_,rfl⟩))
   rfl
  refine ji2 (fun x:Nat × Nat=>⟨[(16,.d (.int .i64 x.1)),(15,.d (.int .i64 l.length)),(14,.d (.list 6 (l.map dFo))),(5,.own 13 x.2),(1,.clo (.func 87) [] [.ptr 1012 0,.ptr 1011 0,.ptr 1002 0])],(13,.row 128 6 true ((Sc.named (v7 Sc.Cw σ (l.take x.1)).1 (nn.take x.1)).map dFo) x.2)::(1012,.box [.d (.int .i64 ((x.1:Int) - 1))])::(1011,.box [.d (.list 1 (nn.map .str))])::(1002,.box [.ptr 900 0])::HW (.check ns) (v7 Sc.Cw σ (l.take x.1)).2,gl⟩)
   (fun x=>x.1<=l.length) (fun x=>l.length - x.1) (0,0) (Ai _) k8 fun⟨j,kv⟩ hj=>?_
  dsimp only[HW,ja0,z6]at hj ⊢;have hlm:=n8 Sc.Cw (l.take j) σ;have hlen:=Sc.Oj (v7 Sc.Cw σ (l.take j)).1 (nn.take j) (by rw[hlm,Aj,Aj];omega);rw[hlm]at hlen;simp only[Aj]at hlen;rcases Ah j l.length with hj2|hj2
  ·have hone:=h2 j hj2
   (repeat' first|refine Ca 7 ?_;(refine j3 7 ?_)|refine Ca 23 ?_;refine Cg (hc:=hone) ?_|refine Ca 24 ?_;(refine Dn 24 ?_)|refine yyp ?_;try refine Ce ?_ ?_<;>intro hb|refine yy ?_|(refine Da ?_;first|(refine Df (fun kv=>?_))|(refine z_append_suf (fun sx sp kv hsx hsp hsl=>?_)))|refine at_nil ?_;refine Cc Pb ?_|refine Cb fun K hK=>?_|apply_assumption -exfalso -symm)
   refine⟨(j+1,kv),by dsimp only;omega,by dsimp only;omega,?_⟩;dsimp only;rw[g9 Sc.Cw l σ j hj2,Ao (show j<nn.length by omega),js4 _ _ _ _ (by rw[hlm,Aj,Aj];omega),show((j+1:Nat):Int) - 1=j by omega];simp only[As,Aq,Ax];exact k8
  (repeat' first|refine yyp ?_;try refine Ce ?_ ?_<;>intro hb|refine yy ?_|refine at_nil ?_;refine Cc Pb ?_|refine Cb fun K hK=>?_|apply_assumption -exfalso -symm)
  have hjl:j=l.length:=by omega
  subst hjl;rw[Bg,Am hl1]
  (refine j1 (j4 ⟨?_,rfl⟩))
  rfl
 case none=>
  (refine j2 func86 ntmps86 results86 fun w M E b0=>?_)
  (repeat' first|refine Ca 13 ?_;(refine jc1 13 ?_)|refine yyp ?_;try refine Ce ?_ ?_<;>intro hb|refine yy ?_|refine yy2 ?_ ?_<;>intro hcmp|refine at_nil ?_;refine Cc Pb ?_|refine Cb fun K hK=>?_|apply_assumption -exfalso -symm)
  ·have h0:l=[]:=Ar (by omega);subst h0;obtain rfl:nn=[]:=Ar (by simp only[Av]at hl1;omega)
   (refine j1 (j4 ⟨?_,rfl⟩))
   rfl
  refine ji2 (fun x:Nat × Nat=>⟨[(16,.d (.int .i64 x.1)),(15,.d (.int .i64 l.length)),(14,.d (.list 6 (l.map dFo))),(5,.own 13 x.2),(1,.clo (.func 87) [] [.ptr 1012 0,.ptr 1011 0,.ptr 1002 0])],(13,.row 128 6 true ((Sc.named (v7 Sc.Cw σ (l.take x.1)).1 (nn.take x.1)).map dFo) x.2)::(1012,.box [.d (.int .i64 ((x.1:Int) - 1))])::(1011,.box [.d (.list 1 (nn.map .str))])::(1002,.box [.ptr 900 0])::HW .none (v7 Sc.Cw σ (l.take x.1)).2,gl⟩)
   (fun x=>x.1<=l.length) (fun x=>l.length - x.1) (0,0) (Ai _) k8 fun⟨j,kv⟩ hj=>?_
  dsimp only[HW,ja0,z6]at hj ⊢;have hlm:=n8 Sc.Cw (l.take j) σ;have hlen:=Sc.Oj (v7 Sc.Cw σ (l.take j)).1 (nn.take j) (by rw[hlm,Aj,Aj];omega);rw[hlm]at hlen;simp only[Aj]at hlen;rcases Ah j l.length with hj2|hj2
  ·have hone:=h2 j hj2
   (repeat' first|refine Ca 7 ?_;(refine j3 7 ?_)|refine Ca 23 ?_;refine Cg (hc:=hone) ?_|refine Ca 24 ?_;(refine Dn 24 ?_)|refine yyp ?_;try refine Ce ?_ ?_<;>intro hb|refine yy ?_|(refine Da ?_;first|(refine Df (fun kv=>?_))|(refine z_append_suf (fun sx sp kv hsx hsp hsl=>?_)))|refine at_nil ?_;refine Cc Pb ?_|refine Cb fun K hK=>?_|apply_assumption -exfalso -symm)
   refine⟨(j+1,kv),by dsimp only;omega,by dsimp only;omega,?_⟩;dsimp only;rw[g9 Sc.Cw l σ j hj2,Ao (show j<nn.length by omega),js4 _ _ _ _ (by rw[hlm,Aj,Aj];omega),show((j+1:Nat):Int) - 1=j by omega];simp only[As,Aq,Ax];exact k8
  (repeat' first|refine yyp ?_;try refine Ce ?_ ?_<;>intro hb|refine yy ?_|refine at_nil ?_;refine Cc Pb ?_|refine Cb fun K hK=>?_|apply_assumption -exfalso -symm)
  have hjl:j=l.length:=by omega
  subst hjl;rw[Bg,Am hl1]
  (refine j1 (j4 ⟨?_,rfl⟩))
  rfl
end
section
variable {mm:Int}
theorem qx1 (l:List Ex)(σ:Sc.W)(j:Nat)(hj:j<l.length):(v7 Cj σ (l.take j)).2.ev.length+exN l[j]<=σ.ev.length+Gj l:=by
 have h1:=(Sc.Dz (l.take j) σ).ev;have h2:=z1 l j hj;omega
theorem jm5 (gl:List (Nat × List D))(k:Sc.Kind)(l:List Ex)(σ:Sc.W)(hr:σ.room (Gj l)):
 FnE prog gl 49 [.d (.list 6 (l.map dEx)),.clo (.func 48) [.ptr 900 0] []] (HW k σ)
  (fun v H1=>v=.d (.list 6 ((v7 Cj σ l).1.map dEx))/\H1=HW k (v7 Cj σ l).2):=by
 unfold Sc.W.room at hr;have:=n5 l;refine kf0 gl k l σ (by omega) fun j hj=>ql1 gl k _ l[j] _ (Au _) ?_;have:=qx1 l σ j hj;unfold Sc.W.room;omega
theorem jc4 (gl:List (Nat × List D))(k:Sc.Kind)(e:Ex)(σ:Sc.W)(hr:σ.room (exN e)):FnE prog gl 48 [.ptr 900 0,.d (dEx e)] (HW k σ)
 (fun v H1=>v=.d (dEx (Cj σ e).1)/\H1=HW k (Cj σ e).2):=ql1 gl k _ e σ (Au _) hr
def Gu.body' (g:Gu)(h:Sc.GHead)(b:List Pr):Gu:=.mk g.kind g.name h.cond h.chan h.targets h.values h.time b
attribute [local irreducible] TR TC
theorem my1 (gl:List (Nat × List D))(k:Sc.Kind)(g:Gu)(σ σ2:Sc.W)(b:List Pr)(hr:σ.room (Sc.Py g.cond g.chan g.targets g.values g.time))
 (hE:FnE prog gl 58 [.d (.list 42 (g.body.map dPr)),.clo (.func 31) [.ptr 900 0] []] (HW k (Sc.Hl σ g.cond g.chan g.targets g.values g.time).2) (fun v H1=>v=.d (.list 42 (b.map dPr))/\H1=HW k σ2)):
 FnE prog gl 57 [.ptr 900 0,.d (dGu g)] (HW k σ)
  (fun v H1=>v=.d (dGu (g.body' (Sc.Hl σ g.cond g.chan g.targets g.values g.time).1 b))/\H1=HW k σ2):=by
 unfold Sc.W.room Sc.Py at hr;unfold Sc.Hl at hE ⊢;dsimp only at hE ⊢;have g1:=(Sc.Cy g.cond σ).ev;have h1:=jc4 gl k g.cond σ (by unfold Sc.W.room;omega);generalize Cj σ g.cond=r1 at g1 h1 hE ⊢;have g2:=(Sc.Cy g.chan r1.2).ev;have h2:=jc4 gl k g.chan r1.2 (by unfold Sc.W.room;omega);generalize Cj r1.2 g.chan=r2 at g2 h2 hE ⊢;have g3:=(Sc.Dz g.targets r2.2).ev;have h3:=jm5 gl k g.targets r2.2 (by unfold Sc.W.room;omega);generalize v7 Cj r2.2 g.targets=r3 at g3 h3 hE ⊢;have g4:=(Sc.Dz g.values r3.2).ev;have h4:=jm5 gl k g.values r3.2 (by unfold Sc.W.room;omega);generalize v7 Cj r3.2 g.values=r4 at g4 h4 hE ⊢;have h5:=jc4 gl k g.time r4.2 (by unfold Sc.W.room;omega);generalize Cj r4.2 g.time=r5 at h5 hE ⊢;unfold Gu.body';clear g1 g2 g3 g4 hr;rw[jd7];simp only[k9]at h1 h2 h5;cases k
 all_goals dsimp only[HW,ja0,z6]at h1 h2 h3 h4 h5 hE ⊢
 all_goals (refine j2 func57 ntmps57 results57 fun w M E b0=>?_)
 all_goals (repeat' first|refine Ca 3 ?_;(refine Cq 3 ?_)|refine Ca 4 ?_;(refine j3 4 ?_)|refine Ca 8 ?_;refine Cg (hc:=h1) ?_|refine Ca 13 ?_;refine Cg (hc:=h2) ?_|refine Ca 19 ?_;refine Cg (hc:=h3) ?_|refine Ca 25 ?_;refine Cg (hc:=h4) ?_|refine Ca 30 ?_;refine Cg (hc:=h5) ?_|refine Ca 36 ?_;refine Cg (hc:=hE) ?_|refine yyp ?_;try refine Ce ?_ ?_<;>intro hb|refine yy ?_|refine at_nil ?_;refine Cc [0,1,3,4,5,6,7,93] ?_|refine Cb fun K hK=>?_|apply_assumption -exfalso -symm)
 all_goals (refine j1 (j4 ⟨?_,rfl⟩))
 all_goals rfl
end
section
def Pf:List Nat:=[0,1,2,3,4,5,6,8,9,10,11,12,14,15,16,17,43]
def qg8:List Nat:=[6,8,16,17,18,19,20,21,22,23,24,25]
variable {mm:Int}
structure Sc.W.fit (σ:Sc.W)(m:Nat):Prop where
 tk:σ.Wx
 num:σ.Vn m
 room:σ.room m
 deep:σ.deep m
theorem v6 {σ τ:Sc.W}{n m:Nat}(g:Sc.Grow σ τ n)(h:σ.fit (n+m)):τ.fit m:=by
 obtain⟨h1,h2,h3,h4⟩:=h;have hlo:=g.lo h2.1;have hhi:=g.hi h2.1;refine⟨?_,⟨?_,?_⟩,?_,?_⟩
 ·unfold Sc.W.Wx at *;rw[g.tk];exact h1
 ·have:=h2.1;omega
 ·have h5:=h2.2;rw[g.tk];have:((n+m:Nat):Int) * (σ.tk.length+1)=n * (σ.tk.length+1)+m * (σ.tk.length+1):=by rw[Int.natCast_add,Int.add_mul]
  omega
 ·unfold Sc.W.room at *;have:=g.ev;omega
 ·intro s;have:=h4 s;rw[g.env];omega
theorem Sc.W.fit.mono {σ:Sc.W}{n m:Nat}(h:σ.fit n)(hm:m<=n):σ.fit m:=by
 have:=v6 (Sc.Grow.refl σ (n - m)) (m:=m) (by rwa [show n - m+m=n by omega]);exact this
theorem kg3 {σ τ:Sc.W}{ns:List ByteArray}{xs:List Sc.Ent}{m:Nat}(hσ:σ.fit (ns.length+m))(h:τ.fit m)(hl:ns.length=xs.length):Sc.W.fit {τ with env:=Sc.Cm σ.env ns xs} m:=by
 refine⟨h.tk,h.num,h.room,fun s=>?_⟩;obtain⟨l,h1,h2⟩:=je8 ns xs σ.env s hl;have h3:=jk8 s ns;have h4:=hσ.deep s;dsimp only;rw[h1,Ag,h2];omega
theorem me2 (l:List (Bool × List ByteArray))(σ:Sc.W)(nn:List ByteArray)(j:Nat)(hj:j<=l.length)(hl:nn.length=l.length):Sc.Grow σ (Sc.Cs (Sc.Cr σ nn) (l.take j)).2 (2 * nn.length):=by
 have h:=(Sc.Jw σ nn).trans (Sc.Ip (l.take j) (Sc.Cr σ nn));refine h.mono ?_;rw[Aj];omega
theorem vd1 (k:Sc.Kind)(σ:Sc.W)(s:Sp)(hf:σ.fit (2 * s.names.length+1))(hl:s.proto.l.length<=1000000000):
 FnE prog (glS mm) 80 [.ptr 900 0,.d (.list 1 (s.names.map .str)),.clo (.func 81) [] [.ptr 1002 0,.ptr 1003 0]] ((1002,.box [.ptr 900 0])::(1003,.box (sv s))::HW k σ)
  (fun v H1=>v=.d (.list 3 ((Sc.Cs (Sc.Cr σ s.names) (s.names.map fun _=>Sc.Dv σ.env s)).1.map Gd))/\H1=(1002,.box [.ptr 900 0])::(1003,.box (sv s))::HW k (Sc.Cs (Sc.Cr σ s.names) (s.names.map fun _=>Sc.Dv σ.env s)).2):=by
 have hr:=hf.room;unfold Sc.W.room at hr;refine mm2 (glS mm) k σ s.names (s.names.map fun _=>Sc.Dv σ.env s) s (by simp) (by simp) (by omega) (by unfold Sc.W.room;omega) fun j hj=>?_;have g:=me2 (s.names.map fun _=>Sc.Dv σ.env s) σ s.names j (by omega) (by simp);have hfj:=v6 g (m:=1) hf;have h:=qw5 (mm:=mm) k (Sc.Cs (Sc.Cr σ s.names) ((s.names.map fun _=>Sc.Dv σ.env s).take j)).2 s j hfj.tk hfj.num hl;rw[g.env]at h;simp only[List.getElem_map];exact h
theorem vd2 (k:Sc.Kind)(σ σ0:Sc.W)(s:Sp)(he:σ.env=σ0.env)(hf:σ.fit (2 * s.formals.length+1)):
 FnE prog (glS mm) 80 [.ptr 900 0,.d (.list 1 ((s.formals.map (·.name)).map .str)),.clo (.func 83) [] [.ptr 1002 0,.ptr 1003 0]] ((1002,.box [.ptr 900 0])::(1003,.box (sv s))::HW k σ)
  (fun v H1=>v=.d (.list 3 ((Sc.Cs (Sc.Cr σ (s.formals.map (·.name))) (s.formals.map fun f=>(false,Sc.Ct σ0.env f.type))).1.map Gd))/\H1=(1002,.box [.ptr 900 0])::(1003,.box (sv s))::HW k (Sc.Cs (Sc.Cr σ (s.formals.map (·.name))) (s.formals.map fun f=>(false,Sc.Ct σ0.env f.type))).2):=by
 have hr:=hf.room;unfold Sc.W.room at hr;refine mm3 (glS mm) k σ (s.formals.map (·.name)) (s.formals.map fun f=>(false,Sc.Ct σ0.env f.type)) s (by simp) (by simp) (by rw[Ab];omega) (by unfold Sc.W.room;rw[Ab];omega) fun j hj=>?_;have hj':j<s.formals.length:=by simpa using hj
 have g:=me2 (s.formals.map fun f=>(false,Sc.Ct σ0.env f.type)) σ (s.formals.map (·.name)) j (by omega) (by simp);rw[Ab]at g;have hfj:=v6 g (m:=1) hf;have h:=qw6 (mm:=mm) k (Sc.Cs (Sc.Cr σ (s.formals.map (·.name))) ((s.formals.map fun f=>(false,Sc.Ct σ0.env f.type)).take j)).2 s j hj' hfj.tk hfj.num;rw[g.env,he]at h;simp only[List.getElem_map];exact h
def Sp.with' (s:Sp)(h:Sc.Head)(b:List Pr):Sp:=.mk s.kind h.type h.names h.e s.proto h.formals b
attribute [local irreducible] TR TC
theorem qg9 (k:Sc.Kind)(s:Sp)(σ σb:Sc.W)(b:List Pr)(hf:σ.fit (Sc.Pk s+1))(hl:s.proto.l.length<=1000000000)(hv:∀ v∈s.proto.l,v.items.length<=10000000)
 (hbe:σb.env=Sc.Cm σ.env (s.formals.map (·.name)) (Sc.Gl σ s).1.inner)
 (hE:FnE prog (glS mm) 58 [.d (.list 42 (s.body.map dPr)),.clo (.func 31) [.ptr 900 0] []] (HW k {(Sc.Gl σ s).2 with env:=Sc.Cm σ.env (s.formals.map (·.name)) (Sc.Gl σ s).1.inner}) (fun v H1=>v=.d (.list 42 (b.map dPr))/\H1=HW k σb)):
 FnE prog (glS mm) 53 [.ptr 900 0,.d (dSp s)] (HW k σ)
  (fun v H1=>v=.tup [.d (dSp (s.with' (Sc.Gl σ s).1 b)),.d (.list 3 ((Sc.Gl σ s).1.own.map Gd))]/\H1=HW k {σb with env:=σ.env}):=by
 have g0:=Sc.Nh σ s;have henv:=g0.env;have hfr:=hf.room;unfold Sc.W.room Sc.Pk at hfr;have hd:=v6 g0 (m:=1) hf;have hdeep:=hf.deep;have hN:Sc.Pk s=2 * s.names.length+3 * s.formals.length+exN s.e+1:=rfl;have h1:=vd1 (mm:=mm) k σ s (hf.mono (by omega)) hl;have g1:=(Sc.Jw σ s.names).trans (Sc.Ip (s.names.map fun _=>Sc.Dv σ.env s) (Sc.Cr σ s.names));have n1:=Sc.Lj (s.names.map fun _=>Sc.Dv σ.env s) (Sc.Cr σ s.names);unfold Sc.Gl at hbe hE hd henv ⊢;dsimp only at hbe hE hd henv ⊢;generalize Sc.Cs (Sc.Cr σ s.names) (s.names.map fun _=>Sc.Dv σ.env s)=o at h1 g1 n1 hbe hE hd henv ⊢;rw[Ab]at g1 n1;have f1:=v6 g1 (m:=3 * s.formals.length+exN s.e+2) (hf.mono (by omega));have h2:=vd2 (mm:=mm) k o.2 σ s g1.env (f1.mono (by omega));have g2:=(Sc.Jw o.2 (s.formals.map (·.name))).trans (Sc.Ip (s.formals.map fun f=>(false,Sc.Ct σ.env f.type)) (Sc.Cr o.2 (s.formals.map (·.name))));have n2:=Sc.Lj (s.formals.map fun f=>(false,Sc.Ct σ.env f.type)) (Sc.Cr o.2 (s.formals.map (·.name)));generalize Sc.Cs (Sc.Cr o.2 (s.formals.map (·.name))) (s.formals.map fun f=>(false,Sc.Ct σ.env f.type))=i at h2 g2 n2 hbe hE hd henv ⊢;rw[Ab]at n2;rw[Ab,Ab]at g2;have f2:=v6 g2 (m:=s.formals.length+exN s.e+2) (f1.mono (by omega));have h3:=mr7 (glS mm) k i.2 s.type (f2.mono (m:=1) (by omega)).room;have g3:=Sc.Kj i.2 s.type;generalize Sc.Dm i.2 s.type=t at h3 g3 hbe hE hd henv ⊢;have f3:=v6 g3 (m:=s.formals.length+exN s.e+1) (f2.mono (by omega));have h4:=kp8 (glS mm) k s.formals t.2 (i.1.map (·.fresh)) (by rw[Ab];omega) (by rw[Ab];omega) (by omega) (f3.mono (m:=s.formals.length) (by omega)).room;have g4:=ke8 s.formals t.2 s.formals.length;rw[Bg]at g4;generalize v7 Sc.Cw t.2 s.formals=f at h4 g4 hbe hE hd henv ⊢;have h5:=jc4 (glS mm) k s.e f.2 (by have:=f3.room;unfold Sc.W.room at this ⊢;omega);generalize Cj f.2 s.e=e at h5 hbe hE hd henv ⊢;have hn1:=qg2 (glS mm) o.1 (by omega);have hn2:=qg2 (glS mm) i.1 (by omega);have h6:=mx9 (glS mm) s.proto.l hl hv;have h7:=qw3 (glS mm) k {e.2 with env:=Sc.Cm σ.env (s.formals.map (·.name)) i.1} σb (.mk s.kind t.1 (o.1.map (·.fresh)) e.1 s.proto (Sc.named f.1 (i.1.map (·.fresh))) s.body) b hE;have h8:=qw2 (glS mm) k e.2 σb (s.formals.map (·.name)) i.1 (.mk s.kind t.1 (o.1.map (·.fresh)) e.1 s.proto (Sc.named f.1 (i.1.map (·.fresh))) s.body) (Sp.Vq (.mk s.kind t.1 (o.1.map (·.fresh)) e.1 s.proto (Sc.named f.1 (i.1.map (·.fresh))) s.body) b) (by rw[Ab,n2]) (fun u=>by
  have:=hdeep u;rw[henv,Ab];unfold Sc.Pk at this;omega) (by rw[henv];exact hbe) (by rw[henv];exact h7)
 rw[henv]at h8;have hfl:s.formals.length<=1000000000:=by omega
 clear h7 hE f1 f2 f3 g1 g2 g3 g4 n1 n2 hd hbe hdeep g0 hN hfr hf hv henv;unfold Sp.with' at *;simp only[k9]at h5;cases k
 all_goals dsimp only[HW,ja0,z6]at h1 h2 h3 h4 h5 h8 ⊢
 case free=>
  (refine j2 func53 ntmps53 results53 fun w M E b0=>?_)
  (repeat' first|refine Ca 2 ?_;(refine Cq 1002 ?_)|refine Ca 3 ?_;(refine Cq 1003 ?_)|refine Ca 4 ?_;(refine j3 1004 ?_)|refine yyp ?_;try refine Ce ?_ ?_<;>intro hb|refine yy ?_|refine at_nil ?_;refine Cc Pf ?_|refine Cb fun K hK=>?_|apply_assumption -exfalso -symm)
  refine mw6 (t:=6) (e:=9) (sz:=1) rfl rfl ?_;refine j6 qg8 [6] (fun x:Nat × Nat=>[(16,.d (.int .i64 x.1)),(6,.own 6 x.2)]) (fun x=>[(6,.row 9 1 true (((s.formals.take x.1).map (·.name)).map .str) x.2)]) (fun x=>x.1<=s.formals.length) (fun x=>s.formals.length - x.1) (0,0) (Ai _) fun⟨j,kv⟩ hj=>?_;dsimp only[Ac,Af]at hj ⊢;have hlen:((s.formals.take j).map (·.name)).length=j:=by rw[Ab,Aj];omega
  rcases Ah j s.formals.length with hj2|hj2
  ·(repeat' first|refine Ca 8 ?_;(refine j3 1008 ?_)|refine Ca 23 ?_;(refine Dn 1023 ?_)|refine yyp ?_;try refine Ce ?_ ?_<;>intro hb|refine yy ?_|(refine Da ?_;first|(refine Df (fun kv=>?_))|(refine z_append_suf (fun sx sp kv hsx hsp hsl=>?_)))|refine at_nil ?_;refine Cc Pf ?_|refine Cb fun K hK=>?_|apply_assumption -exfalso -symm)
   refine⟨(j+1,kv),by dsimp only;omega,by dsimp only;omega,?_⟩;dsimp only;rw[Ao hj2];simp only[As,Aq,Ax];exact k8
  rw[Am hj2]
  (repeat' first|refine Ca 30 ?_;refine Cg (hc:=h1) ?_|refine Ca 34 ?_;refine Cg (hc:=h2) ?_|refine Ca 11 ?_;(refine j3 1011 ?_)|refine Ca 43 ?_;refine Cg (hc:=h3) ?_|refine Ca 12 ?_;(refine j3 1012 ?_)|refine Ca 48 ?_;refine Cg (hc:=h4) ?_|refine Ca 53 ?_;refine Cg (hc:=h5) ?_|refine Ca 59 ?_;refine Cg (hc:=h8) ?_|refine yyp ?_;try refine Ce ?_ ?_<;>intro hb|refine yy ?_|refine Ch 84 ?_;refine Ck (hc:=hn1) ?_|refine Ch 84 ?_;refine Ck (hc:=hn2) ?_|refine Ch 89 ?_;refine Ck (hc:=h6) ?_|refine at_nil ?_;refine Cc Pf ?_|refine Cb fun K hK=>?_|apply_assumption -exfalso -symm)
  (refine j1 (j4 ⟨?_,rfl⟩))
  rfl
 case check ns=>
  (refine j2 func53 ntmps53 results53 fun w M E b0=>?_)
  (repeat' first|refine Ca 2 ?_;(refine Cq 1002 ?_)|refine Ca 3 ?_;(refine Cq 1003 ?_)|refine Ca 4 ?_;(refine j3 1004 ?_)|refine yyp ?_;try refine Ce ?_ ?_<;>intro hb|refine yy ?_|refine at_nil ?_;refine Cc Pf ?_|refine Cb fun K hK=>?_|apply_assumption -exfalso -symm)
  refine mw6 (t:=6) (e:=9) (sz:=1) rfl rfl ?_;refine j6 qg8 [6] (fun x:Nat × Nat=>[(16,.d (.int .i64 x.1)),(6,.own 6 x.2)]) (fun x=>[(6,.row 9 1 true (((s.formals.take x.1).map (·.name)).map .str) x.2)]) (fun x=>x.1<=s.formals.length) (fun x=>s.formals.length - x.1) (0,0) (Ai _) fun⟨j,kv⟩ hj=>?_;dsimp only[Ac,Af]at hj ⊢;have hlen:((s.formals.take j).map (·.name)).length=j:=by rw[Ab,Aj];omega
  rcases Ah j s.formals.length with hj2|hj2
  ·(repeat' first|refine Ca 8 ?_;(refine j3 1008 ?_)|refine Ca 23 ?_;(refine Dn 1023 ?_)|refine yyp ?_;try refine Ce ?_ ?_<;>intro hb|refine yy ?_|(refine Da ?_;first|(refine Df (fun kv=>?_))|(refine z_append_suf (fun sx sp kv hsx hsp hsl=>?_)))|refine at_nil ?_;refine Cc Pf ?_|refine Cb fun K hK=>?_|apply_assumption -exfalso -symm)
   refine⟨(j+1,kv),by dsimp only;omega,by dsimp only;omega,?_⟩;dsimp only;rw[Ao hj2];simp only[As,Aq,Ax];exact k8
  rw[Am hj2]
  (repeat' first|refine Ca 30 ?_;refine Cg (hc:=h1) ?_|refine Ca 34 ?_;refine Cg (hc:=h2) ?_|refine Ca 11 ?_;(refine j3 1011 ?_)|refine Ca 43 ?_;refine Cg (hc:=h3) ?_|refine Ca 12 ?_;(refine j3 1012 ?_)|refine Ca 48 ?_;refine Cg (hc:=h4) ?_|refine Ca 53 ?_;refine Cg (hc:=h5) ?_|refine Ca 59 ?_;refine Cg (hc:=h8) ?_|refine yyp ?_;try refine Ce ?_ ?_<;>intro hb|refine yy ?_|refine Ch 84 ?_;refine Ck (hc:=hn1) ?_|refine Ch 84 ?_;refine Ck (hc:=hn2) ?_|refine Ch 89 ?_;refine Ck (hc:=h6) ?_|refine at_nil ?_;refine Cc Pf ?_|refine Cb fun K hK=>?_|apply_assumption -exfalso -symm)
  (refine j1 (j4 ⟨?_,rfl⟩))
  rfl
 case none=>
  (refine j2 func53 ntmps53 results53 fun w M E b0=>?_)
  (repeat' first|refine Ca 2 ?_;(refine Cq 1002 ?_)|refine Ca 3 ?_;(refine Cq 1003 ?_)|refine Ca 4 ?_;(refine j3 1004 ?_)|refine yyp ?_;try refine Ce ?_ ?_<;>intro hb|refine yy ?_|refine at_nil ?_;refine Cc Pf ?_|refine Cb fun K hK=>?_|apply_assumption -exfalso -symm)
  refine mw6 (t:=6) (e:=9) (sz:=1) rfl rfl ?_;refine j6 qg8 [6] (fun x:Nat × Nat=>[(16,.d (.int .i64 x.1)),(6,.own 6 x.2)]) (fun x=>[(6,.row 9 1 true (((s.formals.take x.1).map (·.name)).map .str) x.2)]) (fun x=>x.1<=s.formals.length) (fun x=>s.formals.length - x.1) (0,0) (Ai _) fun⟨j,kv⟩ hj=>?_;dsimp only[Ac,Af]at hj ⊢;have hlen:((s.formals.take j).map (·.name)).length=j:=by rw[Ab,Aj];omega
  rcases Ah j s.formals.length with hj2|hj2
  ·(repeat' first|refine Ca 8 ?_;(refine j3 1008 ?_)|refine Ca 23 ?_;(refine Dn 1023 ?_)|refine yyp ?_;try refine Ce ?_ ?_<;>intro hb|refine yy ?_|(refine Da ?_;first|(refine Df (fun kv=>?_))|(refine z_append_suf (fun sx sp kv hsx hsp hsl=>?_)))|refine at_nil ?_;refine Cc Pf ?_|refine Cb fun K hK=>?_|apply_assumption -exfalso -symm)
   refine⟨(j+1,kv),by dsimp only;omega,by dsimp only;omega,?_⟩;dsimp only;rw[Ao hj2];simp only[As,Aq,Ax];exact k8
  rw[Am hj2]
  (repeat' first|refine Ca 30 ?_;refine Cg (hc:=h1) ?_|refine Ca 34 ?_;refine Cg (hc:=h2) ?_|refine Ca 11 ?_;(refine j3 1011 ?_)|refine Ca 43 ?_;refine Cg (hc:=h3) ?_|refine Ca 12 ?_;(refine j3 1012 ?_)|refine Ca 48 ?_;refine Cg (hc:=h4) ?_|refine Ca 53 ?_;refine Cg (hc:=h5) ?_|refine Ca 59 ?_;refine Cg (hc:=h8) ?_|refine yyp ?_;try refine Ce ?_ ?_<;>intro hb|refine yy ?_|refine Ch 84 ?_;refine Ck (hc:=hn1) ?_|refine Ch 84 ?_;refine Ck (hc:=hn2) ?_|refine Ch 89 ?_;refine Ck (hc:=h6) ?_|refine at_nil ?_;refine Cc Pf ?_|refine Cb fun K hK=>?_|apply_assumption -exfalso -symm)
  (refine j1 (j4 ⟨?_,rfl⟩))
  rfl
end
end Go.Proofs.YtklklgfpkpglgaaGreatDoor
