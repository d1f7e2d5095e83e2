/- Parts. -/
import Derived.Test.YtklklgfpkpglgaaGreatDoorQ30
set_option linter.all false
set_option maxRecDepth 100000
set_option maxHeartbeats 0
namespace Go.Proofs.YtklklgfpkpglgaaGreatDoor
open Go.RowKit Go.Proofs.Tryz Sc
section
def ql6:List Nat:=[0,1,2,3,4,5,6,7,8,11,43,45,70]
variable {mm:Int}
def PW (mm:Int)(k:Sc.Kind)(p:Pr)(σ σm:W)(a:ByteArray × W)(tag:Bool)(c:Ex × W)(t x:List Ex × W)(r:ByteArray × W)(rb rc:Ex × W)(g':List Gu)(l':List Pr):Prop:=
 (p.kind=17->FnE prog (glS mm) 46 [.ptr 900 0,.d (.str p.name)] (HW k σ) (λv H1=>v=.d (.str a.1)/\H1=HW k a.2))->
 FnE prog (glS mm) 47 [.ptr 900 0,.d (dP (.mk p.kind a.1 p.av p.aj p.au p.rep p.ak p.l p.ay p.spec))] (HW k a.2) (λv H1=>v=.d (.bool tag)/\H1=HW k a.2)->
 FnE prog (glS mm) 48 [.ptr 900 0,.d (dE p.av)] (HW k a.2) (λv H1=>v=.d (dE c.1)/\H1=HW k c.2)->
 FnE prog (glS mm) 49 [.d (.list 6 (p.aj.map dEx)),.clo (.func 48) [.ptr 900 0] []] (HW k c.2) (λv H1=>v=.d (.list 6 (t.1.map dEx))/\H1=HW k t.2)->
 FnE prog (glS mm) 49 [.d (.list 6 (p.au.map dEx)),.clo (.func 50) [] [.ptr 1005 0,.ptr 1006 0,.ptr 1002 0]] ((1005,.box [.d (.bool tag)])::(1006,.box [.d (.bool true)])::(1002,.box [.ptr 900 0])::HW k t.2) (λv H1=>v=.d (.list 6 (x.1.map dEx))/\H1=(1005,.box [.d (.bool tag)])::(1006,.box [.d (.bool (!(tag && decide (0<p.au.length))))])::(1002,.box [.ptr 900 0])::HW k x.2)->
 FnD prog (glS mm) 51 [.d (.list 1 (p.ay.map (.int .i64)))] (λv=>v=.d (.list 1 (p.ay.map (.int .i64))))->
 FnE prog (glS mm) 54 [.ptr 900 0,.d (.list 1 ([p.rep.name].map .str)),.d (.list 3 ([(⟨r.1,false,[]⟩:Sc.Ent)].map Lj)),.clo (.func 55) [] [.ptr 1003 0,.ptr 1002 0]] ((1003,.box (pv (.mk p.kind a.1 c.1 t.1 x.1 ⟨r.1,rb.1,rc.1⟩ p.ak p.l p.ay p.spec)))::(1002,.box [.ptr 900 0])::HW k rc.2) (λv H1=>v=.tup []/\H1=(1003,.box (pv (Pr.set2 (.mk p.kind a.1 c.1 t.1 x.1 ⟨r.1,rb.1,rc.1⟩ p.ak p.l p.ay p.spec) g' l')))::(1002,.box [.ptr 900 0])::HW k {σm with env:=σ.env})->
 FnE prog (glS mm) 52 [.ptr 900 0] (HW k x.2) (λv H1=>v=.d (.str r.1)/\H1=HW k r.2)->
 FnE prog (glS mm) 48 [.ptr 900 0,.d (dE p.rep.base)] (HW k r.2) (λv H1=>v=.d (dE rb.1)/\H1=HW k rb.2)->
 FnE prog (glS mm) 48 [.ptr 900 0,.d (dE p.rep.count)] (HW k rb.2) (λv H1=>v=.d (dE rc.1)/\H1=HW k rc.2)->
 FnE prog (glS mm) 31 [.ptr 900 0,.d (dP p)] (HW k σ) (λv H1=>v=.d (dP (Pr.set2 (.mk p.kind a.1 c.1 t.1 x.1 ⟨r.1,rb.1,rc.1⟩ p.ak p.l p.ay p.spec) g' l'))/\H1=HW k {σm with env:=σ.env})
section
variable {p:Pr}{σ σm:W}{a:ByteArray × W}{tag:Bool}{c:Ex × W}{t x:List Ex × W}{r:ByteArray × W}{rb rc:Ex × W}{g':List Gu}{l':List Pr}
attribute [local irreducible] TR TC
theorem kj8 (h17:p.kind=17)(hk:p.kind≠18)(h0:p.rep.name≠ByteArray.empty):PW mm .free p σ σm a tag c t x r rb rc g' l':=by
 intro w1 w2 w3 w4 w5 w6 w8 w9 w10 w11;have w1:=w1 h17;dsimp only[HW,je0,jb3]at w1 w2 w3 w4 w5 w8 w9 w10 w11 ⊢
 (refine j3 func31 ntmps31 results31 λw M E b0=>?_)
 (repeat' first|apply Ca 2;(refine Ck 1002 ?_)|apply Ca 3;(refine Ck 1003 ?_)|apply Ca 4;(refine j2 1004 ?_)|apply Ca 15;refine Ch (hc:=w1) ?_|apply Ca 19;refine Ch (hc:=w2) ?_|apply Ca 5;(refine j2 1005 ?_)|apply Ca 23;refine Ch (hc:=w3) ?_|apply Ca 29;refine Ch (hc:=w4) ?_|apply Ca 6;(refine j2 1006 ?_)|apply Ca 34;refine Ch (hc:=w5) ?_|apply Ca 47;(refine Fu 1047 ?_)|apply Ca 49;refine Ch (hc:=w9) ?_|apply Ca 51;(refine Fu 1051 ?_)|apply Ca 60;refine Ch (hc:=w10) ?_|apply Ca 65;refine Ch (hc:=w11) ?_|apply Ca 66;refine z_p Cu ?_|apply Ca 86;refine Ch (hc:=w8) ?_|refine yyp ?_|refine yy ?_|refine yy2 ?_ ?_<;>intro hcmp|apply Cf 51;refine Ci (hc:=w6) ?_|apply ah;refine Cc ql6 ?_|refine Jd ?_ ?_|refine kq0 ?_ ?_|(apply Iz (x:=.region 14 _ _);focus ((apply Cg 14;refine j0 [8,13,16] q00 ?_);(repeat' (first|apply Ca 2;(refine Ck 1002 ?_)));(all_goals first|exact Wk.refl _ _|exact v6);done))|refine Cb λK hK=>?_|apply Cg 14;refine j0 [8,13,16] q00 ?_|apply_assumption -exfalso -symm)
 all_goals first
  |(exfalso;exact absurd h17 (by assumption))
  |(exfalso;exact absurd h0 (by assumption))
  |(exfalso;exact hk (by assumption))
  |(exfalso;exact h0 (by assumption))
  |((refine j1 (j8 ⟨?_,rfl⟩))
    rfl)
theorem ke6 (cn:List ByteArray)(h17:p.kind=17)(hk:p.kind≠18)(h0:p.rep.name≠ByteArray.empty):PW mm (.check cn) p σ σm a tag c t x r rb rc g' l':=by
 intro w1 w2 w3 w4 w5 w6 w8 w9 w10 w11;have w1:=w1 h17;dsimp only[HW,je0,jb3]at w1 w2 w3 w4 w5 w8 w9 w10 w11 ⊢
 (refine j3 func31 ntmps31 results31 λw M E b0=>?_)
 (repeat' first|apply Ca 2;(refine Ck 1002 ?_)|apply Ca 3;(refine Ck 1003 ?_)|apply Ca 4;(refine j2 1004 ?_)|apply Ca 15;refine Ch (hc:=w1) ?_|apply Ca 19;refine Ch (hc:=w2) ?_|apply Ca 5;(refine j2 1005 ?_)|apply Ca 23;refine Ch (hc:=w3) ?_|apply Ca 29;refine Ch (hc:=w4) ?_|apply Ca 6;(refine j2 1006 ?_)|apply Ca 34;refine Ch (hc:=w5) ?_|apply Ca 47;(refine Fu 1047 ?_)|apply Ca 49;refine Ch (hc:=w9) ?_|apply Ca 51;(refine Fu 1051 ?_)|apply Ca 60;refine Ch (hc:=w10) ?_|apply Ca 65;refine Ch (hc:=w11) ?_|apply Ca 66;refine z_p Cu ?_|apply Ca 86;refine Ch (hc:=w8) ?_|refine yyp ?_|refine yy ?_|refine yy2 ?_ ?_<;>intro hcmp|apply Cf 51;refine Ci (hc:=w6) ?_|apply ah;refine Cc ql6 ?_|refine Jd ?_ ?_|refine kq0 ?_ ?_|(apply Iz (x:=.region 14 _ _);focus ((apply Cg 14;refine j0 [8,13,16] q00 ?_);(repeat' (first|apply Ca 2;(refine Ck 1002 ?_)));(all_goals first|exact Wk.refl _ _|exact v6);done))|refine Cb λK hK=>?_|apply Cg 14;refine j0 [8,13,16] q00 ?_|apply_assumption -exfalso -symm)
 all_goals first
  |(exfalso;exact absurd h17 (by assumption))
  |(exfalso;exact absurd h0 (by assumption))
  |(exfalso;exact hk (by assumption))
  |(exfalso;exact h0 (by assumption))
  |((refine j1 (j8 ⟨?_,rfl⟩))
    rfl)
theorem kj9 (h17:p.kind=17)(hk:p.kind≠18)(h0:p.rep.name≠ByteArray.empty):PW mm .none p σ σm a tag c t x r rb rc g' l':=by
 intro w1 w2 w3 w4 w5 w6 w8 w9 w10 w11;have w1:=w1 h17;dsimp only[HW,je0,jb3]at w1 w2 w3 w4 w5 w8 w9 w10 w11 ⊢
 (refine j3 func31 ntmps31 results31 λw M E b0=>?_)
 (repeat' first|apply Ca 2;(refine Ck 1002 ?_)|apply Ca 3;(refine Ck 1003 ?_)|apply Ca 4;(refine j2 1004 ?_)|apply Ca 15;refine Ch (hc:=w1) ?_|apply Ca 19;refine Ch (hc:=w2) ?_|apply Ca 5;(refine j2 1005 ?_)|apply Ca 23;refine Ch (hc:=w3) ?_|apply Ca 29;refine Ch (hc:=w4) ?_|apply Ca 6;(refine j2 1006 ?_)|apply Ca 34;refine Ch (hc:=w5) ?_|apply Ca 47;(refine Fu 1047 ?_)|apply Ca 49;refine Ch (hc:=w9) ?_|apply Ca 51;(refine Fu 1051 ?_)|apply Ca 60;refine Ch (hc:=w10) ?_|apply Ca 65;refine Ch (hc:=w11) ?_|apply Ca 66;refine z_p Cu ?_|apply Ca 86;refine Ch (hc:=w8) ?_|refine yyp ?_|refine yy ?_|refine yy2 ?_ ?_<;>intro hcmp|apply Cf 51;refine Ci (hc:=w6) ?_|apply ah;refine Cc ql6 ?_|refine Jd ?_ ?_|refine kq0 ?_ ?_|(apply Iz (x:=.region 14 _ _);focus ((apply Cg 14;refine j0 [8,13,16] q00 ?_);(repeat' (first|apply Ca 2;(refine Ck 1002 ?_)));(all_goals first|exact Wk.refl _ _|exact v6);done))|refine Cb λK hK=>?_|apply Cg 14;refine j0 [8,13,16] q00 ?_|apply_assumption -exfalso -symm)
 all_goals first
  |(exfalso;exact absurd h17 (by assumption))
  |(exfalso;exact absurd h0 (by assumption))
  |(exfalso;exact hk (by assumption))
  |(exfalso;exact h0 (by assumption))
  |((refine j1 (j8 ⟨?_,rfl⟩))
    rfl)
end
end
end Go.Proofs.YtklklgfpkpglgaaGreatDoor
