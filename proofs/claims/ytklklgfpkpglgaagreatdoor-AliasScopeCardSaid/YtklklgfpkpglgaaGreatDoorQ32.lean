/- Parts. -/
import Derived.Test.YtklklgfpkpglgaaGreatDoorQ31
set_option linter.all false
set_option maxRecDepth 100000
set_option maxHeartbeats 0
namespace Go.Proofs.YtklklgfpkpglgaaGreatDoor
open Go.RowKit Go.Proofs.Tryz Sc
section
def ql7:List Nat:=[0,1,2,3,4,5,6,7,8,11,43,45,70]
variable {mm:Int}
section
variable {p:Pr}{σ σm:W}{a:ByteArray × W}{tag:Bool}{c:Ex × W}{t x:List Ex × W}{r:ByteArray × W}{rb rc:Ex × W}{g':List Gu}{l':List Pr}
attribute [local irreducible] TR TC
theorem kk0 (h17:p.kind≠17)(hk:p.kind≠18)(h0:p.rep.name≠ByteArray.empty):PW mm .free p σ σm (p.name,σ) tag c t x r rb rc g' l':=by
 intro w1 w2 w3 w4 w5 w6 w8 w9 w10 w11;clear w1;dsimp only[HW,je0,jb3]at w2 w3 w4 w5 w8 w9 w10 w11 ⊢
 (refine j3 func31 ntmps31 results31 λw M E b0=>?_)
 (repeat' first|apply Ca 2;(refine Ck 1002 ?_)|apply Ca 3;(refine Ck 1003 ?_)|apply Ca 4;(refine j2 1004 ?_)|apply Ca 19;refine Ch (hc:=w2) ?_|apply Ca 5;(refine j2 1005 ?_)|apply Ca 23;refine Ch (hc:=w3) ?_|apply Ca 29;refine Ch (hc:=w4) ?_|apply Ca 6;(refine j2 1006 ?_)|apply Ca 34;refine Ch (hc:=w5) ?_|apply Ca 47;(refine Fu 1047 ?_)|apply Ca 49;refine Ch (hc:=w9) ?_|apply Ca 51;(refine Fu 1051 ?_)|apply Ca 60;refine Ch (hc:=w10) ?_|apply Ca 65;refine Ch (hc:=w11) ?_|apply Ca 66;refine z_p Cu ?_|apply Ca 86;refine Ch (hc:=w8) ?_|refine yyp ?_|refine yy ?_|refine yy2 ?_ ?_<;>intro hcmp|apply Cf 51;refine Ci (hc:=w6) ?_|apply ah;refine Cc ql7 ?_|refine Jd ?_ ?_|refine kq0 ?_ ?_|(apply Iz (x:=.region 14 _ _);focus ((apply Cg 14;refine j0 [8,13,16] q00 ?_);(repeat' (first|apply Ca 2;(refine Ck 1002 ?_)));(all_goals first|exact Wk.refl _ _|exact v6);done))|refine Cb λK hK=>?_|apply Cg 14;refine j0 [8,13,16] q00 ?_|apply_assumption -exfalso -symm)
 all_goals first
  |(exfalso;exact h17 (by assumption))
  |(exfalso;exact absurd h0 (by assumption))
  |(exfalso;exact hk (by assumption))
  |(exfalso;exact h0 (by assumption))
  |((refine j1 (j8 ⟨?_,rfl⟩))
    rfl)
theorem ke7 (cn:List ByteArray)(h17:p.kind≠17)(hk:p.kind≠18)(h0:p.rep.name≠ByteArray.empty):PW mm (.check cn) p σ σm (p.name,σ) tag c t x r rb rc g' l':=by
 intro w1 w2 w3 w4 w5 w6 w8 w9 w10 w11;clear w1;dsimp only[HW,je0,jb3]at w2 w3 w4 w5 w8 w9 w10 w11 ⊢
 (refine j3 func31 ntmps31 results31 λw M E b0=>?_)
 (repeat' first|apply Ca 2;(refine Ck 1002 ?_)|apply Ca 3;(refine Ck 1003 ?_)|apply Ca 4;(refine j2 1004 ?_)|apply Ca 19;refine Ch (hc:=w2) ?_|apply Ca 5;(refine j2 1005 ?_)|apply Ca 23;refine Ch (hc:=w3) ?_|apply Ca 29;refine Ch (hc:=w4) ?_|apply Ca 6;(refine j2 1006 ?_)|apply Ca 34;refine Ch (hc:=w5) ?_|apply Ca 47;(refine Fu 1047 ?_)|apply Ca 49;refine Ch (hc:=w9) ?_|apply Ca 51;(refine Fu 1051 ?_)|apply Ca 60;refine Ch (hc:=w10) ?_|apply Ca 65;refine Ch (hc:=w11) ?_|apply Ca 66;refine z_p Cu ?_|apply Ca 86;refine Ch (hc:=w8) ?_|refine yyp ?_|refine yy ?_|refine yy2 ?_ ?_<;>intro hcmp|apply Cf 51;refine Ci (hc:=w6) ?_|apply ah;refine Cc ql7 ?_|refine Jd ?_ ?_|refine kq0 ?_ ?_|(apply Iz (x:=.region 14 _ _);focus ((apply Cg 14;refine j0 [8,13,16] q00 ?_);(repeat' (first|apply Ca 2;(refine Ck 1002 ?_)));(all_goals first|exact Wk.refl _ _|exact v6);done))|refine Cb λK hK=>?_|apply Cg 14;refine j0 [8,13,16] q00 ?_|apply_assumption -exfalso -symm)
 all_goals first
  |(exfalso;exact h17 (by assumption))
  |(exfalso;exact absurd h0 (by assumption))
  |(exfalso;exact hk (by assumption))
  |(exfalso;exact h0 (by assumption))
  |((refine j1 (j8 ⟨?_,rfl⟩))
    rfl)
theorem kk1 (h17:p.kind≠17)(hk:p.kind≠18)(h0:p.rep.name≠ByteArray.empty):PW mm .none p σ σm (p.name,σ) tag c t x r rb rc g' l':=by
 intro w1 w2 w3 w4 w5 w6 w8 w9 w10 w11;clear w1;dsimp only[HW,je0,jb3]at w2 w3 w4 w5 w8 w9 w10 w11 ⊢
 (refine j3 func31 ntmps31 results31 λw M E b0=>?_)
 (repeat' first|apply Ca 2;(refine Ck 1002 ?_)|apply Ca 3;(refine Ck 1003 ?_)|apply Ca 4;(refine j2 1004 ?_)|apply Ca 19;refine Ch (hc:=w2) ?_|apply Ca 5;(refine j2 1005 ?_)|apply Ca 23;refine Ch (hc:=w3) ?_|apply Ca 29;refine Ch (hc:=w4) ?_|apply Ca 6;(refine j2 1006 ?_)|apply Ca 34;refine Ch (hc:=w5) ?_|apply Ca 47;(refine Fu 1047 ?_)|apply Ca 49;refine Ch (hc:=w9) ?_|apply Ca 51;(refine Fu 1051 ?_)|apply Ca 60;refine Ch (hc:=w10) ?_|apply Ca 65;refine Ch (hc:=w11) ?_|apply Ca 66;refine z_p Cu ?_|apply Ca 86;refine Ch (hc:=w8) ?_|refine yyp ?_|refine yy ?_|refine yy2 ?_ ?_<;>intro hcmp|apply Cf 51;refine Ci (hc:=w6) ?_|apply ah;refine Cc ql7 ?_|refine Jd ?_ ?_|refine kq0 ?_ ?_|(apply Iz (x:=.region 14 _ _);focus ((apply Cg 14;refine j0 [8,13,16] q00 ?_);(repeat' (first|apply Ca 2;(refine Ck 1002 ?_)));(all_goals first|exact Wk.refl _ _|exact v6);done))|refine Cb λK hK=>?_|apply Cg 14;refine j0 [8,13,16] q00 ?_|apply_assumption -exfalso -symm)
 all_goals first
  |(exfalso;exact h17 (by assumption))
  |(exfalso;exact absurd h0 (by assumption))
  |(exfalso;exact hk (by assumption))
  |(exfalso;exact h0 (by assumption))
  |((refine j1 (j8 ⟨?_,rfl⟩))
    rfl)
end
theorem ql8 (k:Sc.Kind)(p:Pr)(σ:W)(a:ByteArray × W)(ha:a=if p.kind=17 then aA σ p.name else (p.name,σ))(tag:Bool)(htag:tag=Dh σ.env p.kind p.av p.au)(c:Ex × W)(hc:c=j5 a.2 p.av)(t:List Ex × W)(ht:t=z6 j5 c.2 p.aj)(x:List Ex × W)(hx:x=Gg tag t.2 p.au)(r:ByteArray × W)(hr:r=Co x.2)(rb:Ex × W)(hrb:rb=j5 r.2 p.rep.base)(rc:Ex × W)(hrc:rc=j5 rb.2 p.rep.count)(g':List Gu)(l':List Pr)(σg σm:W)(hk:p.kind≠18)(h0:p.rep.name≠ByteArray.empty)(h5:p.kind=5->0<p.au.length)(hfit:σ.fit (Lu p.av p.aj p.au p.rep+1))(hpr:p.ay.length<=10000000)(hl:p.spec.aN.l.length<=1000000000)(hv:∀ v∈p.spec.aN.l,v.items.length<=10000000)
 (hme:σm.env=Cn σ.env [p.rep.name] [(⟨r.1,false,[]⟩:Sc.Ent)])
 (hG:FnE prog (glS mm) 56 [.d (.list 23 (p.ak.map dGu)),.clo (.func 57) [.ptr 900 0] []] (HW k {rc.2 with env:=Cn σ.env [p.rep.name] [(⟨r.1,false,[]⟩:Sc.Ent)]}) (λv H1=>v=.d (.list 23 (g'.map dGu))/\H1=HW k σg))
 (hL:FnE prog (glS mm) 58 [.d (.list 42 (p.l.map dPr)),.clo (.func 31) [.ptr 900 0] []] (HW k σg) (λv H1=>v=.d (.list 42 (l'.map dPr))/\H1=HW k σm)):
 FnE prog (glS mm) 31 [.ptr 900 0,.d (dPr p)] (HW k σ)
  (λv H1=>v=.d (dPr (Pr.set2 (.mk p.kind a.1 c.1 t.1 x.1 ⟨r.1,rb.1,rc.1⟩ p.ak p.l p.ay p.spec) g' l'))/\H1=HW k {σm with env:=σ.env}):=by
 have hroom:=hfit.room;have hdeep:=hfit.deep;unfold W.room Lu Tz at hroom;have ga:Sc.Grow σ a.2 1:=by
  rw[ha];by_cases hz:p.kind=17
  ·rw[Ad hz];exact Jq σ p.name
  ·rw[Af hz];exact Sc.Grow.refl _ _
 have gc:Sc.Grow a.2 c.2 (exN p.av):=by rw[hc];exact Dk _ _
 have gt:Sc.Grow c.2 t.2 (Gw p.aj):=by rw[ht];exact Gf _ _
 have gx:Sc.Grow t.2 x.2 (Gw p.au):=by rw[hx];exact Lb _ _ _
 have e1:=ga.ev;have e2:=gc.ev;have e3:=gt.ev;have e4:=gx.ev;have xenv:x.2.env=σ.env:=((gx.env.trans gt.env).trans gc.env).trans ga.env;have gxx:=((ga.trans gc).trans gt).trans gx;have w1:p.kind=17->FnE prog (glS mm) 46 [.ptr 900 0,.d (.str p.name)] (HW k σ) (λv H1=>v=.d (.str a.1)/\H1=HW k a.2):=λh17=>by
  rw[ha,Ad h17];exact ki5 (glS mm) k σ p.name (by unfold W.room;omega)
 have a17:p.kind≠17->a=(p.name,σ):=λh17=>by rw[ha,Af h17]
 have w2:=kj0 (glS mm) k a.2 (.mk p.kind a.1 p.av p.aj p.au p.rep p.ak p.l p.ay p.spec) h5;rw[show Dh a.2.env (Pr.mk p.kind a.1 p.av p.aj p.au p.rep p.ak p.l p.ay p.spec).kind (Pr.mk p.kind a.1 p.av p.aj p.au p.rep p.ak p.l p.ay p.spec).av (Pr.mk p.kind a.1 p.av p.aj p.au p.rep p.ak p.l p.ay p.spec).au=tag by rw[ga.env];exact htag.symm,v7]at w2;have w3:=ke5 (glS mm) k p.av a.2 (by unfold W.room;omega);rw[<-hc]at w3;have w4:=kj7 (glS mm) k p.aj c.2 (by unfold W.room;omega);rw[<-ht]at w4;have w5:=ju2 (glS mm) k tag p.au t.2 (by have:=jd0 p.au;omega) λj hj=>ke5 (glS mm) k p.au[j] _ (by
  have h1:=(Lb tag t.2 (p.au.take j)).ev;have h2:=jb6 p.au j hj;unfold W.room;omega)
 rw[<-hx]at w5;have w6:=kj1 (glS mm) p.ay hpr;clear ha hc ht hx htag;have fx:=l6 gxx (m:=2+exN p.rep.base+exN p.rep.count) (hfit.mono (by unfold Lu Tz;omega));have w9:=kx3 (mm:=mm) k x.2 fx.tk (fx.mono (m:=1) (by omega)).num;rw[<-hr]at w9;have gr:Sc.Grow x.2 r.2 1:=by rw[hr];exact Nl _
 have fr:=l6 gr (m:=1+exN p.rep.base+exN p.rep.count) (fx.mono (by omega));have w10:=ke5 (glS mm) k p.rep.base r.2 (fr.mono (m:=exN p.rep.base) (by omega)).room;rw[<-hrb]at w10;have grb:Sc.Grow r.2 rb.2 (exN p.rep.base):=by rw[hrb];exact Dk _ _
 have frb:=l6 grb (m:=1+exN p.rep.count) (fr.mono (by omega));have w11:=ke5 (glS mm) k p.rep.count rb.2 (frb.mono (m:=exN p.rep.count) (by omega)).room;rw[<-hrc]at w11;have grc:Sc.Grow rb.2 rc.2 (exN p.rep.count):=by rw[hrc];exact Dk _ _
 have rcenv:rc.2.env=σ.env:=((grc.env.trans grb.env).trans gr.env).trans xenv;have w8:=jw5 (glS mm) (.inl ((.mk p.kind a.1 c.1 t.1 x.1 ⟨r.1,rb.1,rc.1⟩ p.ak p.l p.ay p.spec),Pr.set2 (.mk p.kind a.1 c.1 t.1 x.1 ⟨r.1,rb.1,rc.1⟩ p.ak p.l p.ay p.spec) g' l')) k {rc.2 with env:=σ.env} σm [p.rep.name] [⟨r.1,false,[]⟩] rfl (λu=>by
  have:=hdeep u;unfold Lu Tz at this;simp only[Aj,Az];omega) hme (ju1 (glS mm) k _ σg σm (.mk p.kind a.1 c.1 t.1 x.1 ⟨r.1,rb.1,rc.1⟩ p.ak p.l p.ay p.spec) g' l' hG hL)
 rw[show({rc.2 with env:=σ.env}:W)=rc.2 by rw[<-rcenv],rcenv]at w8;simp only[r8]at w10 w11;clear hr hrb hrc gr grb grc fx fr frb rcenv;simp only[r8]at w3;rw[v7];have key:PW mm k p σ σm a tag c t x r rb rc g' l':=by
  by_cases h17:p.kind=17
  ·cases k with
   |free=>exact kj8 h17 hk h0
   |check cn=>exact ke6 cn h17 hk h0
   |none=>exact kj9 h17 hk h0
  ·obtain rfl:=a17 h17;cases k with
   |free=>exact kk0 h17 hk h0
   |check cn=>exact ke7 cn h17 hk h0
   |none=>exact kk1 h17 hk h0
 exact key w1 w2 w3 w4 w5 w6 w8 w9 w10 w11
end
end Go.Proofs.YtklklgfpkpglgaaGreatDoor
