/- Parts: R8, R9. -/
import Derived.Test.YtdopmfifmgkmoaaGreatDoorP37
import Derived.Test.YtdopmfifmgkmoaaGreatDoorP45
set_option linter.all false
set_option maxRecDepth 100000
set_option maxHeartbeats 16000000
namespace Go.Proofs.YtdopmfifmgkmoaaGreatDoor
open Go.RowKit Go.Proofs.Tryz
section
def Xv:List Nat:=[0,1,2,6,7,8,9,13]
variable {mm:Int}
theorem re8 (σ:Sc.W)(g:Gu):Sc.Jc σ g=(.mk g.kind g.name (Sc.Ie σ g.cond g.chan g.targets g.values g.time).1.cond (Sc.Ie σ g.cond g.chan g.targets g.values g.time).1.chan (Sc.Ie σ g.cond g.chan g.targets g.values g.time).1.targets (Sc.Ie σ g.cond g.chan g.targets g.values g.time).1.values (Sc.Ie σ g.cond g.chan g.targets g.values g.time).1.time (Sc.Gv (Sc.Ie σ g.cond g.chan g.targets g.values g.time).2 g.body).1,(Sc.Gv (Sc.Ie σ g.cond g.chan g.targets g.values g.time).2 g.body).2):=by
 obtain⟨_,_,_,_,_,_,_,_⟩:=g;simp only[Sc.Jc,Gu.kind,Gu.name,Gu.cond,Gu.chan,Gu.targets,Gu.values,Gu.time,Gu.body]
attribute [local irreducible] TR TC
theorem qi0 (gl:List (Nat × List D))(tk:List ByteArray)(l:List (ByteArray × Sc.Ent))(ps:List Pr)(σ:Sc.W)(hl:ps.length<=1000000000)
 (h1:∀ (j:Nat) (hj:j<ps.length),FnE prog gl 41 [.ptr 900 0,.d (dPr ps[j]),.d (.list 4 (l.map dEn))] (RW tk (Cv Sc.Fv σ (ps.take j)).2)
   (fun v H1=>v=.d (dPr (Sc.Fv (Cv Sc.Fv σ (ps.take j)).2 ps[j]).1)/\H1=RW tk (Sc.Fv (Cv Sc.Fv σ (ps.take j)).2 ps[j]).2)):
 FnE prog gl 80 [.ptr 900 0,.d (.list 42 (ps.map dPr)),.d (.list 4 (l.map dEn))] (RW tk σ)
  (fun v H1=>v=.d (.list 42 ((Cv Sc.Fv σ ps).1.map dPr))/\H1=RW tk (Cv Sc.Fv σ ps).2):=by
 simp only[v8]at h1 ⊢;dsimp only[RW]at h1 ⊢
 (refine j4 func80 ntmps80 results80 fun w M E b0=>?_)
 refine r7 1 rfl fun hn=>?_;simp only[Aa]at hn
 (repeat' first|refine yyp ?_;try refine Cc ?_ ?_<;>intro hb|refine yy ?_|refine at_nil ?_;refine Ce [0,1,2,6,7,8,12] ?_|refine Cb fun K hK=>?_|apply_assumption -exfalso -symm)
 refine jf1 (t:=7) (e:=45) (sz:=42) rfl rfl ?_;refine j8 [7,8,9,10,11,12,13,14,15,16,17,18,19,20,21,22,23,24] [7,900] (fun x:Nat × Nat=>[(8,.d (.int .i64 x.1)),(7,.own 7 x.2)]) (fun x=>(7,.row 45 42 true ((Cv Sc.Fv σ (ps.take x.1)).1.map dP) x.2)::RW tk (Cv Sc.Fv σ (ps.take x.1)).2) (fun x=>x.1<=ps.length) (fun x=>ps.length - x.1) (0,0) (Ak _) fun⟨j,kv⟩ hj=>?_;dsimp only[Ac,Ad,RW]at hj ⊢;have hlen:=z8 Sc.Fv (ps.take j) σ;simp only[Aj]at hlen;rcases Ah j ps.length with hj2|hj2
 ·have hone:=h1 j hj2
  (repeat' first|refine Ca 22 ?_;refine Ch (hc:=hone) ?_|refine Ca 23 ?_;(refine Dh 23 ?_)|refine yyp ?_;try refine Cc ?_ ?_<;>intro hb|refine yy ?_|(refine Cq ?_;first|(refine Cs (fun kv=>?_))|(refine z_append_suf (fun sx sp kv hsx hsp hsl=>?_)))|refine at_nil ?_;refine Ce [0,1,2,6,7,8,12] ?_|refine Cb fun K hK=>?_|apply_assumption -exfalso -symm)
  refine⟨(j+1,kv),by dsimp only;omega,by dsimp only;omega,?_⟩;dsimp only;rw[z7 Sc.Fv ps σ j hj2];simp only[Ap,Am,Aw];exact v6
 have hjl:j=ps.length:=by omega
 subst hjl;rw[Au]
 (repeat' first|refine yyp ?_;try refine Cc ?_ ?_<;>intro hb|refine yy ?_|refine at_nil ?_;refine Ce [0,1,2,6,7,8,12] ?_|refine Cb fun K hK=>?_|apply_assumption -exfalso -symm)
 (refine j0 (j7 ⟨?_,rfl⟩))
 rfl
theorem mt5 (gl:List (Nat × List D))(tk:List ByteArray)(l:List (ByteArray × Sc.Ent))(gs:List Gu)(σ:Sc.W)(he:σ.env=Gh l)(hr:σ.room (Sc.Jb gs))
 (hb:∀ (j:Nat) (hj:j<gs.length),FnE prog gl 80 [.ptr 900 0,.d (.list 42 (gs[j].body.map dPr)),.d (.list 4 (l.map dEn))] (RW tk (Sc.Ie (Cv Sc.Jc σ (gs.take j)).2 gs[j].cond gs[j].chan gs[j].targets gs[j].values gs[j].time).2)
   (fun v H1=>v=.d (.list 42 ((Sc.Gv (Sc.Ie (Cv Sc.Jc σ (gs.take j)).2 gs[j].cond gs[j].chan gs[j].targets gs[j].values gs[j].time).2 gs[j].body).1.map dPr))/\H1=RW tk (Sc.Gv (Sc.Ie (Cv Sc.Jc σ (gs.take j)).2 gs[j].cond gs[j].chan gs[j].targets gs[j].values gs[j].time).2 gs[j].body).2)):
 FnE prog gl 79 [.ptr 900 0,.d (.list 23 (gs.map dGu)),.d (.list 4 (l.map dEn))] (RW tk σ)
  (fun v H1=>v=.d (.list 23 ((Cv Sc.Jc σ gs).1.map dGu))/\H1=RW tk (Cv Sc.Jc σ gs).2):=by
 unfold Sc.W.room at hr;have hgl:=ks4 gs;simp only[qe3];dsimp only[RW]at hb ⊢
 (refine j4 func79 ntmps79 results79 fun w M E b0=>?_)
 (repeat' first|refine yyp ?_;try refine Cc ?_ ?_<;>intro hb|refine yy ?_|refine at_nil ?_;refine Ce Xv ?_|refine Cb fun K hK=>?_|apply_assumption -exfalso -symm)
 refine jf1 (t:=7) (e:=101) (sz:=23) rfl rfl ?_;refine j8 [7,8,9,10,11,12,13,14,15,16,17,18,19,20,21,22,23,24,25,26,27,28,29,30,31,32,33,34,35,36,37,38,39,40,41,42,43,44,45,46,47,48,49,50,51,52,53,54,55,56,57,58,59] [7,900] (fun x:Nat × Nat=>[(8,.d (.int .i64 x.1)),(7,.own 7 x.2)]) (fun x=>(7,.row 101 23 true ((Cv Sc.Jc σ (gs.take x.1)).1.map dGq) x.2)::RW tk (Cv Sc.Jc σ (gs.take x.1)).2) (fun x=>x.1<=gs.length) (fun x=>gs.length - x.1) (0,0) (Ak _) fun⟨j,kv⟩ hj=>?_;dsimp only[Ac,Ad,RW]at hj ⊢;have hlen:=z8 Sc.Jc (gs.take j) σ;simp only[Aj]at hlen;rcases Ah j gs.length with hj2|hj2
 ·have hone:=hb j hj2;have hst:=z7 Sc.Jc gs σ j hj2;have gj:=Sc.Ji (gs.take j) σ;rw[Sc.Me]at gj;have hN:=jv6 gs j hj2;have ej:=gj.env.trans he;have vj:=gj.ev;generalize Cv Sc.Jc σ (gs.take j)=d at *;obtain⟨g,hg⟩:∃ g,g=gs[j]:=⟨_,rfl⟩;rw[<-hg]at hone hst hN;rw[re8]at hst;have hgN:Sc.Ng g.cond g.chan g.targets g.values g.time<=Sc.guN g:=by
   obtain⟨_,_,_,_,_,_,_,_⟩:=g;simp only[Sc.guN,Gu.cond,Gu.chan,Gu.targets,Gu.values,Gu.time];omega
  unfold Sc.Ng at hgN;unfold Sc.Ie at hone hst;dsimp only at hone hst;have c1:=js0 gl tk l g.cond d.2 ej (by unfold Sc.W.room;omega);have g1:=Sc.Dj g.cond d.2;generalize j2 d.2 g.cond=r1 at *;have v1:=g1.ev;have e1:=g1.env.trans ej;have c2:=js0 gl tk l g.chan r1.2 e1 (by unfold Sc.W.room;omega);have g2:=Sc.Dj g.chan r1.2;generalize j2 r1.2 g.chan=r2 at *;have v2:=g2.ev;have e2:=g2.env.trans e1;have c3:=ji3 gl tk l g.targets r2.2 e2 (by unfold Sc.W.room;omega);have g3:=Sc.Dm g.targets r2.2;generalize Cv j2 r2.2 g.targets=r3 at *;have v3:=g3.ev;have e3:=g3.env.trans e2;have c4:=ji3 gl tk l g.values r3.2 e3 (by unfold Sc.W.room;omega);have g4:=Sc.Dm g.values r3.2;generalize Cv j2 r3.2 g.values=r4 at *;have v4:=g4.ev;have e4:=g4.env.trans e3;have c5:=js0 gl tk l g.time r4.2 e4 (by unfold Sc.W.room;omega);generalize j2 r4.2 g.time=r5 at *;generalize Sc.Gv r5.2 g.body=r6 at *;simp only[r9]at c1 c2 c5;simp only[v8]at hone;dsimp only[RW]at c1 c2 c3 c4 c5;subst hg
  (repeat' first|refine Ca 9 ?_;(refine Cj 9 ?_)|refine Ca 24 ?_;refine Ch (hc:=c1) ?_|refine Ca 30 ?_;refine Ch (hc:=c2) ?_|refine Ca 36 ?_;refine Ch (hc:=c3) ?_|refine Ca 42 ?_;refine Ch (hc:=c4) ?_|refine Ca 48 ?_;refine Ch (hc:=c5) ?_|refine Ca 54 ?_;refine Ch (hc:=hone) ?_|refine Ca 58 ?_;(refine Dh 58 ?_)|refine yyp ?_;try refine Cc ?_ ?_<;>intro hb|refine yy ?_|(refine Cq ?_;first|(refine Cs (fun kv=>?_))|(refine z_append_suf (fun sx sp kv hsx hsp hsl=>?_)))|refine at_nil ?_;refine Ce Xv ?_|refine Cb fun K hK=>?_|apply_assumption -exfalso -symm)
  refine⟨(j+1,kv),by dsimp only;omega,by dsimp only;omega,?_⟩;dsimp only;rw[hst];simp only[Ap,Am,Aw];exact v6
 have hjl:j=gs.length:=by omega
 subst hjl;rw[Au]
 (repeat' first|refine yyp ?_;try refine Cc ?_ ?_<;>intro hb|refine yy ?_|refine at_nil ?_;refine Ce Xv ?_|refine Cb fun K hK=>?_|apply_assumption -exfalso -symm)
 (refine j0 (j7 ⟨?_,rfl⟩))
 rfl
end
section
def qi1:List Nat:=[0,1,2,4,6,7,8,9,10,11,12,15,37,45,62,94]
variable {mm:Int}
theorem ku3 {env:ByteArray->List Sc.Ent}{kind:Int}{chan:Ex}{exprs:List Ex}(h:Sc.Cy env kind chan exprs=true):kind=5/\∃ e r,exprs=e::r:=by
 unfold Sc.Cy at h;split at h
 ·rename_i h5;cases exprs with
  |nil=>cases h
  |cons e r=>exact⟨h5,e,r,rfl⟩
 ·cases h
attribute [local irreducible] TR TC
theorem mt6 (gl:List (Nat × List D))(tk:List ByteArray)(l:List (ByteArray × Sc.Ent))(p:Pr)(σ:Sc.W)(he:σ.env=Gh l)(htk:σ.tk.map (·.1)=tk)(hll:l.length<=1000000000)(a:ByteArray × Sc.W)(ha:a=if p.kind=17 then Sc.nameOf σ p.name else (p.name,σ))(tag:Bool)(htag:tag=Sc.Cy σ.env p.kind p.chan p.exprs)(c:Ex × Sc.W)(hc:c=j2 a.2 p.chan)(t:List Ex × Sc.W)(ht:t=Cv j2 c.2 p.targets)(x:List Ex × Sc.W)(hx:x=Sc.Dn tag t.2 p.exprs)(h:Sc.Head × Sc.W)(b:List Pr)(σb:Sc.W)(hown:(p.spec.names.zip h.1.own).length<=1000000000)(hS:FnE prog gl 78 [.ptr 900 0,.d (dSp p.spec),.d (.list 4 (l.map dEn))] (RW tk x.2) (fun v H1=>v=.tup [.d (dSp (p.spec.with' h.1 b)),.d (.list 4 ((p.spec.names.zip h.1.own).map dEn))]/\H1=RW tk σb))(g':List Gu)(l':List Pr)(σg σm:Sc.W)(hk:p.kind=18)(h0:p.rep.name=ByteArray.empty)(h5:p.kind=5->0<p.exprs.length)(hfit:σ.fit (Sc.Gc p.chan p.targets p.exprs p.rep+1))
 (hG:FnE prog gl 79 [.ptr 900 0,.d (.list 23 (p.guards.map dGu)),.d (.list 4 ((l++(p.spec.names.zip h.1.own)).map dEn))] (RW tk σb) (fun v H1=>v=.d (.list 23 (g'.map dGu))/\H1=RW tk σg))
 (hL:FnE prog gl 80 [.ptr 900 0,.d (.list 42 (p.l.map dPr)),.d (.list 4 ((l++(p.spec.names.zip h.1.own)).map dEn))] (RW tk σg) (fun v H1=>v=.d (.list 42 (l'.map dPr))/\H1=RW tk σm)):
 FnE prog gl 41 [.ptr 900 0,.d (dPr p),.d (.list 4 (l.map dEn))] (RW tk σ)
  (fun v H1=>v=.d (dPr (Pr.set2 (.mk p.kind a.1 c.1 t.1 x.1 p.rep p.guards p.l p.procs (p.spec.with' h.1 b)) g' l'))/\H1=RW tk σm):=by
 have hroom:=hfit.room;unfold Sc.W.room Sc.Gc Sc.Lv at hroom;have ga:Sc.Grow σ a.2 1:=by
  rw[ha];by_cases hz:p.kind=17
  ·rw[Ae hz];exact Sc.Ho σ p.name
  ·rw[Af hz];exact Sc.Grow.refl _ _
 have gc:Sc.Grow a.2 c.2 (exN p.chan):=by rw[hc];exact Sc.Dj _ _
 have gt:Sc.Grow c.2 t.2 (Hr p.targets):=by rw[ht];exact Sc.Dm _ _
 have gx:Sc.Grow t.2 x.2 (Hr p.exprs):=by rw[hx];exact Sc.Ic _ _ _
 have e1:=ga.ev;have e2:=gc.ev;have e3:=gt.ev;have e4:=gx.ev;have w1:p.kind=17->FnE prog gl 72 [.ptr 900 0,.d (.str p.name),.d (.list 4 (l.map dEn))] (RW tk σ) (fun v H1=>v=.d (.str a.1)/\H1=RW tk a.2):=fun h17=>by
  rw[ha,Ae h17];exact jr1 gl tk l σ p.name he (by unfold Sc.W.room;omega)
 have a17:p.kind≠17->a=(p.name,σ):=fun h17=>by rw[ha,Af h17]
 have w2:=jz7 gl l (.mk p.kind a.1 p.chan p.targets p.exprs p.rep p.guards p.l p.procs p.spec) h5;rw[show Sc.Cy (Gh l) (Pr.mk p.kind a.1 p.chan p.targets p.exprs p.rep p.guards p.l p.procs p.spec).kind (Pr.mk p.kind a.1 p.chan p.targets p.exprs p.rep p.guards p.l p.procs p.spec).chan (Pr.mk p.kind a.1 p.chan p.targets p.exprs p.rep p.guards p.l p.procs p.spec).exprs=tag by rw[<-he];exact htag.symm,v8]at w2;have w3:=js0 gl tk l p.chan a.2 (ga.env.trans he) (by unfold Sc.W.room;omega);rw[<-hc]at w3;have w4:=ji3 gl tk l p.targets c.2 (gc.env.trans (ga.env.trans he)) (by unfold Sc.W.room;omega);rw[<-ht]at w4;have et:t.2.env=Gh l:=gt.env.trans (gc.env.trans (ga.env.trans he));have w5:tag=false->FnE prog gl 75 [.ptr 900 0,.d (.list 6 (p.exprs.map dEx)),.d (.list 4 (l.map dEn))] (RW tk t.2) (fun v H1=>v=.d (.list 6 (x.1.map dEx))/\H1=RW tk x.2):=fun hf=>by
  have h:=ji3 gl tk l p.exprs t.2 et (by unfold Sc.W.room;omega);have hxx:x=Cv j2 t.2 p.exprs:=by
   rw[hx,hf];cases p.exprs<;>rfl
  rw[hxx];exact h
 have w6:tag=true->p.kind=5/\∃ (e:Ex) (r:List Ex) (y:List Ex × Sc.W),p.exprs=e::r/\x=(e::y.1,y.2)/\y.1.length=r.length/\FnE prog gl 75 [.ptr 900 0,.d (.list 6 (r.map dEx)),.d (.list 4 (l.map dEn))] (RW tk t.2) (fun v H1=>v=.d (.list 6 (y.1.map dEx))/\H1=RW tk y.2):=fun hf=>by
  obtain⟨h5,e,r,her⟩:=ku3 (htag.symm.trans hf);refine⟨h5,e,r,Cv j2 t.2 r,her,?_,z8 _ _ _,ji3 gl tk l r t.2 et ?_⟩
  ·rw[hx,hf,her]
   first|done|rfl
  ·rw[her]at hroom;simp only[Hr]at hroom;unfold Sc.W.room;omega
 have w7:=mh7 gl l (p.spec.names.zip h.1.own) hll hown;dsimp only[RW]at hS;simp only[r9]at w3;dsimp only[RW]at w1 w3 w4 w5 w6 hG hL ⊢;have hxl:=n7 p.exprs;have hxl:p.exprs.length<=1000000000:=by omega
 clear ha hc ht hx htag e1 e2 e3 e4 ga gc gt gx hroom hfit et;rw[v8];cases tag
 case false=>
  have w5:=w5 rfl;clear w6;by_cases h17:p.kind=17
  case' pos=>have w1:=w1 h17;clear a17
  case' neg=>obtain rfl:=a17 h17;clear w1
  all_goals
   (refine j4 func41 ntmps41 results41 fun w M E b0=>?_)
   (repeat' first|refine Ca 4 ?_;(refine j6 4 ?_)|refine Ca 6 ?_;(refine Cj 6 ?_)|refine Ca 20 ?_;refine Ch (hc:=w1) ?_|refine Ca 29 ?_;refine Ch (hc:=w3) ?_|refine Ca 35 ?_;refine Ch (hc:=w4) ?_|refine Ca 37 ?_;refine yyp ?_;try refine Cc ?_ ?_<;>intro hb|refine Ca 57 ?_;refine Ch (hc:=w5) ?_|refine Ca 100 ?_;refine Ch (hc:=hS) ?_|refine Ca 11 ?_;(refine Cj 11 ?_)|refine Ca 112 ?_;refine Ch (hc:=hG) ?_|refine Ca 118 ?_;refine Ch (hc:=hL) ?_|refine yyp ?_|refine yy ?_|refine yy2 ?_ ?_<;>intro hcmp|refine Cf 73 ?_;refine Cg (hc:=w2) ?_|refine Cf 77 ?_;refine Cg (hc:=w7) ?_|refine at_nil ?_;refine Ce qi1 ?_|refine Cb fun K hK=>?_|apply_assumption -exfalso -symm)
   all_goals first
    |(exfalso;exact h17 (by assumption))
    |(exfalso;exact absurd h17 (by assumption))
    |(exfalso;exact absurd h0 (by assumption))
    |(exfalso;exact absurd hk (by assumption))
    |(exfalso;exact hk (by assumption))
    |(exfalso;exact h0 (by assumption))
    |(exfalso;omega)
    |((refine j0 (j7 ⟨?_,rfl⟩))
      rfl)
 case true=>
  obtain⟨hk5,e,r1,y,her,hxe,hyl,wr⟩:=w6 rfl;clear w5 w6;subst hxe;omega
theorem mt7 (gl:List (Nat × List D))(tk:List ByteArray)(l:List (ByteArray × Sc.Ent))(p:Pr)(σ:Sc.W)(he:σ.env=Gh l)(htk:σ.tk.map (·.1)=tk)(hll:l.length<=1000000000)(a:ByteArray × Sc.W)(ha:a=if p.kind=17 then Sc.nameOf σ p.name else (p.name,σ))(tag:Bool)(htag:tag=Sc.Cy σ.env p.kind p.chan p.exprs)(c:Ex × Sc.W)(hc:c=j2 a.2 p.chan)(t:List Ex × Sc.W)(ht:t=Cv j2 c.2 p.targets)(x:List Ex × Sc.W)(hx:x=Sc.Dn tag t.2 p.exprs)(g':List Gu)(l':List Pr)(σg σm:Sc.W)(hk:p.kind≠18)(h0:p.rep.name=ByteArray.empty)(h5:p.kind=5->0<p.exprs.length)(hfit:σ.fit (Sc.Gc p.chan p.targets p.exprs p.rep+1))
 (hG:FnE prog gl 79 [.ptr 900 0,.d (.list 23 (p.guards.map dGu)),.d (.list 4 (l.map dEn))] (RW tk x.2) (fun v H1=>v=.d (.list 23 (g'.map dGu))/\H1=RW tk σg))
 (hL:FnE prog gl 80 [.ptr 900 0,.d (.list 42 (p.l.map dPr)),.d (.list 4 (l.map dEn))] (RW tk σg) (fun v H1=>v=.d (.list 42 (l'.map dPr))/\H1=RW tk σm)):
 FnE prog gl 41 [.ptr 900 0,.d (dPr p),.d (.list 4 (l.map dEn))] (RW tk σ)
  (fun v H1=>v=.d (dPr (Pr.set2 (.mk p.kind a.1 c.1 t.1 x.1 p.rep p.guards p.l p.procs p.spec) g' l'))/\H1=RW tk σm):=by
 have hroom:=hfit.room;unfold Sc.W.room Sc.Gc Sc.Lv at hroom;have ga:Sc.Grow σ a.2 1:=by
  rw[ha];by_cases hz:p.kind=17
  ·rw[Ae hz];exact Sc.Ho σ p.name
  ·rw[Af hz];exact Sc.Grow.refl _ _
 have gc:Sc.Grow a.2 c.2 (exN p.chan):=by rw[hc];exact Sc.Dj _ _
 have gt:Sc.Grow c.2 t.2 (Hr p.targets):=by rw[ht];exact Sc.Dm _ _
 have gx:Sc.Grow t.2 x.2 (Hr p.exprs):=by rw[hx];exact Sc.Ic _ _ _
 have e1:=ga.ev;have e2:=gc.ev;have e3:=gt.ev;have e4:=gx.ev;have w1:p.kind=17->FnE prog gl 72 [.ptr 900 0,.d (.str p.name),.d (.list 4 (l.map dEn))] (RW tk σ) (fun v H1=>v=.d (.str a.1)/\H1=RW tk a.2):=fun h17=>by
  rw[ha,Ae h17];exact jr1 gl tk l σ p.name he (by unfold Sc.W.room;omega)
 have a17:p.kind≠17->a=(p.name,σ):=fun h17=>by rw[ha,Af h17]
 have w2:=jz7 gl l (.mk p.kind a.1 p.chan p.targets p.exprs p.rep p.guards p.l p.procs p.spec) h5;rw[show Sc.Cy (Gh l) (Pr.mk p.kind a.1 p.chan p.targets p.exprs p.rep p.guards p.l p.procs p.spec).kind (Pr.mk p.kind a.1 p.chan p.targets p.exprs p.rep p.guards p.l p.procs p.spec).chan (Pr.mk p.kind a.1 p.chan p.targets p.exprs p.rep p.guards p.l p.procs p.spec).exprs=tag by rw[<-he];exact htag.symm,v8]at w2;have w3:=js0 gl tk l p.chan a.2 (ga.env.trans he) (by unfold Sc.W.room;omega);rw[<-hc]at w3;have w4:=ji3 gl tk l p.targets c.2 (gc.env.trans (ga.env.trans he)) (by unfold Sc.W.room;omega);rw[<-ht]at w4;have et:t.2.env=Gh l:=gt.env.trans (gc.env.trans (ga.env.trans he));have w5:tag=false->FnE prog gl 75 [.ptr 900 0,.d (.list 6 (p.exprs.map dEx)),.d (.list 4 (l.map dEn))] (RW tk t.2) (fun v H1=>v=.d (.list 6 (x.1.map dEx))/\H1=RW tk x.2):=fun hf=>by
  have h:=ji3 gl tk l p.exprs t.2 et (by unfold Sc.W.room;omega);have hxx:x=Cv j2 t.2 p.exprs:=by
   rw[hx,hf];cases p.exprs<;>rfl
  rw[hxx];exact h
 have w6:tag=true->p.kind=5/\∃ (e:Ex) (r:List Ex) (y:List Ex × Sc.W),p.exprs=e::r/\x=(e::y.1,y.2)/\y.1.length=r.length/\FnE prog gl 75 [.ptr 900 0,.d (.list 6 (r.map dEx)),.d (.list 4 (l.map dEn))] (RW tk t.2) (fun v H1=>v=.d (.list 6 (y.1.map dEx))/\H1=RW tk y.2):=fun hf=>by
  obtain⟨h5,e,r,her⟩:=ku3 (htag.symm.trans hf);refine⟨h5,e,r,Cv j2 t.2 r,her,?_,z8 _ _ _,ji3 gl tk l r t.2 et ?_⟩
  ·rw[hx,hf,her]
   first|done|rfl
  ·rw[her]at hroom;simp only[Hr]at hroom;unfold Sc.W.room;omega
 simp only[r9]at w3;dsimp only[RW]at w1 w3 w4 w5 w6 hG hL ⊢;have hxl:=n7 p.exprs;have hxl:p.exprs.length<=1000000000:=by omega
 clear ha hc ht hx htag e1 e2 e3 e4 ga gc gt gx hroom hfit et;rw[v8];cases tag
 case false=>
  have w5:=w5 rfl;clear w6;by_cases h17:p.kind=17
  case' pos=>have w1:=w1 h17;clear a17
  case' neg=>obtain rfl:=a17 h17;clear w1
  all_goals
   (refine j4 func41 ntmps41 results41 fun w M E b0=>?_)
   (repeat' first|refine Ca 4 ?_;(refine j6 4 ?_)|refine Ca 6 ?_;(refine Cj 6 ?_)|refine Ca 20 ?_;refine Ch (hc:=w1) ?_|refine Ca 29 ?_;refine Ch (hc:=w3) ?_|refine Ca 35 ?_;refine Ch (hc:=w4) ?_|refine Ca 37 ?_;refine yyp ?_;try refine Cc ?_ ?_<;>intro hb|refine Ca 57 ?_;refine Ch (hc:=w5) ?_|refine Ca 112 ?_;refine Ch (hc:=hG) ?_|refine Ca 118 ?_;refine Ch (hc:=hL) ?_|refine yyp ?_|refine yy ?_|refine yy2 ?_ ?_<;>intro hcmp|refine Cf 73 ?_;refine Cg (hc:=w2) ?_|refine at_nil ?_;refine Ce qi1 ?_|refine Cb fun K hK=>?_|apply_assumption -exfalso -symm)
   all_goals first
    |(exfalso;exact h17 (by assumption))
    |(exfalso;exact absurd h17 (by assumption))
    |(exfalso;exact absurd h0 (by assumption))
    |(exfalso;exact absurd hk (by assumption))
    |(exfalso;exact hk (by assumption))
    |(exfalso;exact h0 (by assumption))
    |(exfalso;omega)
    |((refine j0 (j7 ⟨?_,rfl⟩))
      rfl)
 case true=>
  obtain⟨hk5,e,r1,y,her,hxe,hyl,wr⟩:=w6 rfl;clear w5 w6;subst hxe;obtain rfl:=a17 (by omega);clear w1 a17;have hel:p.exprs.length=r1.length+1:=by rw[her,Ai]
  have hbb:r1.length<=1000000000/\y.1.length+1<=1000000000:=by omega
  have hee:dEx e=dE e:=congrFun r9 e;have hzE:(p.exprs.map dEx)[0]? =some (dE e):=by rw[her,Am,List.getElem?_cons_zero,hee]
  have hsl:List.take ((p.exprs.map dEx).length - 1) (List.drop 1 (p.exprs.map dEx))=r1.map dEx:=by
   rw[her];simp only[Am,Ai,List.drop_succ_cons,Et,Nat.add_sub_cancel];exact Ao (As _)
  rw[<-hsl]at wr;clear hsl
  (refine j4 func41 ntmps41 results41 fun w M E b0=>?_)
  (repeat' first|refine Ca 4 ?_;(refine j6 4 ?_)|refine Ca 6 ?_;(refine Cj 6 ?_)|refine Ca 29 ?_;refine Ch (hc:=w3) ?_|refine Ca 35 ?_;refine Ch (hc:=w4) ?_|refine Ca 37 ?_;refine yyp ?_;try refine Cc ?_ ?_<;>intro hb|refine Ca 43 ?_;refine Ch (hc:=wr) ?_|refine Ca 48 ?_;(refine Dh 48 ?_)|refine Ca 112 ?_;refine Ch (hc:=hG) ?_|refine Ca 118 ?_;refine Ch (hc:=hL) ?_|refine yyp ?_|refine yy ?_|refine yy2 ?_ ?_<;>intro hcmp|refine Cf 73 ?_;refine Cg (hc:=w2) ?_|(refine Cq ?_;first|(refine Cs (fun kv=>?_))|(refine z_append_suf (fun sx sp kv hsx hsp hsl=>?_)))|refine at_nil ?_;refine Ce qi1 ?_|refine Cb fun K hK=>?_|apply_assumption -exfalso -symm)
  all_goals first
   |(exfalso;exact absurd h0 (by assumption))
   |(exfalso;exact hk (by assumption))
   |(exfalso;exact h0 (by assumption))
   |(exfalso;omega)
   |((refine j0 (j7 ⟨?_,rfl⟩))
     simp only[dP,Pr.set2,Pr.exprs,Am,hee];rfl)
theorem mt8 (gl:List (Nat × List D))(tk:List ByteArray)(l:List (ByteArray × Sc.Ent))(p:Pr)(σ:Sc.W)(he:σ.env=Gh l)(htk:σ.tk.map (·.1)=tk)(hll:l.length<=1000000000)(a:ByteArray × Sc.W)(ha:a=if p.kind=17 then Sc.nameOf σ p.name else (p.name,σ))(tag:Bool)(htag:tag=Sc.Cy σ.env p.kind p.chan p.exprs)(c:Ex × Sc.W)(hc:c=j2 a.2 p.chan)(t:List Ex × Sc.W)(ht:t=Cv j2 c.2 p.targets)(x:List Ex × Sc.W)(hx:x=Sc.Dn tag t.2 p.exprs)(r:ByteArray × Sc.W)(hr:r=Sc.Ct x.2)(rb:Ex × Sc.W)(hrb:rb=j2 r.2 p.rep.base)(rc:Ex × Sc.W)(hrc:rc=j2 rb.2 p.rep.count)(g':List Gu)(l':List Pr)(σg σm:Sc.W)(hk:p.kind≠18)(h0:p.rep.name≠ByteArray.empty)(h5:p.kind=5->0<p.exprs.length)(hfit:σ.fit (Sc.Gc p.chan p.targets p.exprs p.rep+1))
 (hG:FnE prog gl 79 [.ptr 900 0,.d (.list 23 (p.guards.map dGu)),.d (.list 4 ((l++[(p.rep.name,(⟨r.1,false,[]⟩:Sc.Ent))]).map dEn))] (RW tk rc.2) (fun v H1=>v=.d (.list 23 (g'.map dGu))/\H1=RW tk σg))
 (hL:FnE prog gl 80 [.ptr 900 0,.d (.list 42 (p.l.map dPr)),.d (.list 4 ((l++[(p.rep.name,(⟨r.1,false,[]⟩:Sc.Ent))]).map dEn))] (RW tk σg) (fun v H1=>v=.d (.list 42 (l'.map dPr))/\H1=RW tk σm)):
 FnE prog gl 41 [.ptr 900 0,.d (dPr p),.d (.list 4 (l.map dEn))] (RW tk σ)
  (fun v H1=>v=.d (dPr (Pr.set2 (.mk p.kind a.1 c.1 t.1 x.1 ⟨r.1,rb.1,rc.1⟩ p.guards p.l p.procs p.spec) g' l'))/\H1=RW tk σm):=by
 have hroom:=hfit.room;unfold Sc.W.room Sc.Gc Sc.Lv at hroom;have ga:Sc.Grow σ a.2 1:=by
  rw[ha];by_cases hz:p.kind=17
  ·rw[Ae hz];exact Sc.Ho σ p.name
  ·rw[Af hz];exact Sc.Grow.refl _ _
 have gc:Sc.Grow a.2 c.2 (exN p.chan):=by rw[hc];exact Sc.Dj _ _
 have gt:Sc.Grow c.2 t.2 (Hr p.targets):=by rw[ht];exact Sc.Dm _ _
 have gx:Sc.Grow t.2 x.2 (Hr p.exprs):=by rw[hx];exact Sc.Ic _ _ _
 have e1:=ga.ev;have e2:=gc.ev;have e3:=gt.ev;have e4:=gx.ev;have w1:p.kind=17->FnE prog gl 72 [.ptr 900 0,.d (.str p.name),.d (.list 4 (l.map dEn))] (RW tk σ) (fun v H1=>v=.d (.str a.1)/\H1=RW tk a.2):=fun h17=>by
  rw[ha,Ae h17];exact jr1 gl tk l σ p.name he (by unfold Sc.W.room;omega)
 have a17:p.kind≠17->a=(p.name,σ):=fun h17=>by rw[ha,Af h17]
 have w2:=jz7 gl l (.mk p.kind a.1 p.chan p.targets p.exprs p.rep p.guards p.l p.procs p.spec) h5;rw[show Sc.Cy (Gh l) (Pr.mk p.kind a.1 p.chan p.targets p.exprs p.rep p.guards p.l p.procs p.spec).kind (Pr.mk p.kind a.1 p.chan p.targets p.exprs p.rep p.guards p.l p.procs p.spec).chan (Pr.mk p.kind a.1 p.chan p.targets p.exprs p.rep p.guards p.l p.procs p.spec).exprs=tag by rw[<-he];exact htag.symm,v8]at w2;have w3:=js0 gl tk l p.chan a.2 (ga.env.trans he) (by unfold Sc.W.room;omega);rw[<-hc]at w3;have w4:=ji3 gl tk l p.targets c.2 (gc.env.trans (ga.env.trans he)) (by unfold Sc.W.room;omega);rw[<-ht]at w4;have et:t.2.env=Gh l:=gt.env.trans (gc.env.trans (ga.env.trans he));have w5:tag=false->FnE prog gl 75 [.ptr 900 0,.d (.list 6 (p.exprs.map dEx)),.d (.list 4 (l.map dEn))] (RW tk t.2) (fun v H1=>v=.d (.list 6 (x.1.map dEx))/\H1=RW tk x.2):=fun hf=>by
  have h:=ji3 gl tk l p.exprs t.2 et (by unfold Sc.W.room;omega);have hxx:x=Cv j2 t.2 p.exprs:=by
   rw[hx,hf];cases p.exprs<;>rfl
  rw[hxx];exact h
 have w6:tag=true->p.kind=5/\∃ (e:Ex) (r:List Ex) (y:List Ex × Sc.W),p.exprs=e::r/\x=(e::y.1,y.2)/\y.1.length=r.length/\FnE prog gl 75 [.ptr 900 0,.d (.list 6 (r.map dEx)),.d (.list 4 (l.map dEn))] (RW tk t.2) (fun v H1=>v=.d (.list 6 (y.1.map dEx))/\H1=RW tk y.2):=fun hf=>by
  obtain⟨h5,e,r,her⟩:=ku3 (htag.symm.trans hf);refine⟨h5,e,r,Cv j2 t.2 r,her,?_,z8 _ _ _,ji3 gl tk l r t.2 et ?_⟩
  ·rw[hx,hf,her]
   first|done|rfl
  ·rw[her]at hroom;simp only[Hr]at hroom;unfold Sc.W.room;omega
 have gxx:=((ga.trans gc).trans gt).trans gx;have xenv:x.2.env=Gh l:=gx.env.trans et;have fx:=r8 gxx (m:=2+exN p.rep.base+exN p.rep.count) (hfit.mono (by unfold Sc.Gc Sc.Lv;omega));have w9:=ku0 gl tk x.2 p.rep.name (by rw[gxx.tk];exact htk) (fx.mono (m:=1) (by omega)).num;rw[<-hr]at w9;have gr:Sc.Grow x.2 r.2 1:=by rw[hr];exact Sc.Kc _
 have fr:=r8 gr (m:=1+exN p.rep.base+exN p.rep.count) (fx.mono (by omega));have renv:r.2.env=Gh l:=gr.env.trans xenv;have w10:=js0 gl tk l p.rep.base r.2 renv (fr.mono (m:=exN p.rep.base) (by omega)).room;rw[<-hrb]at w10;have grb:Sc.Grow r.2 rb.2 (exN p.rep.base):=by rw[hrb];exact Sc.Dj _ _
 have frb:=r8 grb (m:=1+exN p.rep.count) (fr.mono (by omega));have w11:=js0 gl tk l p.rep.count rb.2 (grb.env.trans renv) (frb.mono (m:=exN p.rep.count) (by omega)).room;rw[<-hrc]at w11;have w7:=mh7 gl l [(p.rep.name,(⟨r.1,false,[]⟩:Sc.Ent))] hll (by simp);simp only[r9]at w10 w11;dsimp only[RW,dEn]at w9 w10 w11;simp only[Aw]at w9;clear hr hrb hrc gr grb fx fr frb gxx xenv renv;simp only[r9]at w3;dsimp only[RW]at w1 w3 w4 w5 w6 hG hL ⊢;have hxl:=n7 p.exprs;have hxl:p.exprs.length<=1000000000:=by omega
 clear ha hc ht hx htag e1 e2 e3 e4 ga gc gt gx hroom hfit et;rw[v8];cases tag
 case false=>
  have w5:=w5 rfl;clear w6;by_cases h17:p.kind=17
  case' pos=>have w1:=w1 h17;clear a17
  case' neg=>obtain rfl:=a17 h17;clear w1
  all_goals
   (refine j4 func41 ntmps41 results41 fun w M E b0=>?_)
   (repeat' first|refine Ca 4 ?_;(refine j6 4 ?_)|refine Ca 6 ?_;(refine Cj 6 ?_)|refine Ca 20 ?_;refine Ch (hc:=w1) ?_|refine Ca 29 ?_;refine Ch (hc:=w3) ?_|refine Ca 35 ?_;refine Ch (hc:=w4) ?_|refine Ca 37 ?_;refine yyp ?_;try refine Cc ?_ ?_<;>intro hb|refine Ca 57 ?_;refine Ch (hc:=w5) ?_|refine Ca 67 ?_;refine Ch (hc:=w9) ?_|refine Ca 10 ?_;(refine Cj 10 ?_)|refine Ca 77 ?_;refine Ch (hc:=w10) ?_|refine Ca 85 ?_;refine Ch (hc:=w11) ?_|refine Ca 90 ?_;(refine Dh 90 ?_)|refine Ca 112 ?_;refine Ch (hc:=hG) ?_|refine Ca 118 ?_;refine Ch (hc:=hL) ?_|refine yyp ?_|refine yy ?_|refine yy2 ?_ ?_<;>intro hcmp|refine Cf 73 ?_;refine Cg (hc:=w2) ?_|refine Cf 77 ?_;refine Cg (hc:=w7) ?_|refine at_nil ?_;refine Ce qi1 ?_|refine Cb fun K hK=>?_|apply_assumption -exfalso -symm)
   all_goals first
    |(exfalso;exact h17 (by assumption))
    |(exfalso;exact absurd h17 (by assumption))
    |(exfalso;exact absurd h0 (by assumption))
    |(exfalso;exact absurd hk (by assumption))
    |(exfalso;exact hk (by assumption))
    |(exfalso;exact h0 (by assumption))
    |(exfalso;omega)
    |((refine j0 (j7 ⟨?_,rfl⟩))
      rfl)
 case true=>
  obtain⟨hk5,e,r1,y,her,hxe,hyl,wr⟩:=w6 rfl;clear w5 w6;subst hxe;obtain rfl:=a17 (by omega);clear w1 a17;have hel:p.exprs.length=r1.length+1:=by rw[her,Ai]
  have hbb:r1.length<=1000000000/\y.1.length+1<=1000000000:=by omega
  have hee:dEx e=dE e:=congrFun r9 e;have hzE:(p.exprs.map dEx)[0]? =some (dE e):=by rw[her,Am,List.getElem?_cons_zero,hee]
  have hsl:List.take ((p.exprs.map dEx).length - 1) (List.drop 1 (p.exprs.map dEx))=r1.map dEx:=by
   rw[her];simp only[Am,Ai,List.drop_succ_cons,Et,Nat.add_sub_cancel];exact Ao (As _)
  rw[<-hsl]at wr;clear hsl
  (refine j4 func41 ntmps41 results41 fun w M E b0=>?_)
  (repeat' first|refine Ca 4 ?_;(refine j6 4 ?_)|refine Ca 6 ?_;(refine Cj 6 ?_)|refine Ca 29 ?_;refine Ch (hc:=w3) ?_|refine Ca 35 ?_;refine Ch (hc:=w4) ?_|refine Ca 37 ?_;refine yyp ?_;try refine Cc ?_ ?_<;>intro hb|refine Ca 43 ?_;refine Ch (hc:=wr) ?_|refine Ca 48 ?_;(refine Dh 48 ?_)|refine Ca 67 ?_;refine Ch (hc:=w9) ?_|refine Ca 10 ?_;(refine Cj 10 ?_)|refine Ca 77 ?_;refine Ch (hc:=w10) ?_|refine Ca 85 ?_;refine Ch (hc:=w11) ?_|refine Ca 90 ?_;(refine Dh 90 ?_)|refine Ca 112 ?_;refine Ch (hc:=hG) ?_|refine Ca 118 ?_;refine Ch (hc:=hL) ?_|refine yyp ?_|refine yy ?_|refine yy2 ?_ ?_<;>intro hcmp|refine Cf 73 ?_;refine Cg (hc:=w2) ?_|(refine Cq ?_;first|(refine Cs (fun kv=>?_))|(refine z_append_suf (fun sx sp kv hsx hsp hsl=>?_)))|refine Cf 77 ?_;refine Cg (hc:=w7) ?_|refine at_nil ?_;refine Ce qi1 ?_|refine Cb fun K hK=>?_|apply_assumption -exfalso -symm)
  all_goals first
   |(exfalso;exact absurd h0 (by assumption))
   |(exfalso;exact hk (by assumption))
   |(exfalso;exact h0 (by assumption))
   |(exfalso;omega)
   |((refine j0 (j7 ⟨?_,rfl⟩))
     simp only[dP,Pr.set2,Pr.exprs,Am,hee];rfl)
end
end Go.Proofs.YtdopmfifmgkmoaaGreatDoor
