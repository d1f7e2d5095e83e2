/- Parts: L14, L13. -/
import Derived.Test.YtdopmfifmgkmoaaGreatDoorP48
import Derived.Test.YtdopmfifmgkmoaaGreatDoorP42
set_option linter.all false
set_option maxRecDepth 100000
set_option maxHeartbeats 16000000
namespace Go.Proofs.YtdopmfifmgkmoaaGreatDoor
open Go.RowKit Go.Proofs.Tryz
section
variable {mm:Int}
theorem qi6 (p:Pr):0<=Sc.Je p/\Sc.Je p<=1000:=by
 have h3:∀ nn (ev:List (ByteArray × Bool)),(Sc.Hu nn ev).2=0\/(Sc.Hu nn ev).2=120\/(Sc.Hu nn ev).2=121:=fun nn ev=>by
  induction ev with
  |nil=>exact .inl rfl
  |cons x ev ih=>
   simp only[Sc.Hu];split
   ·exact .inr (.inr rfl)
   ·split
    ·exact ih
    ·exact .inr (.inl rfl)
 unfold Sc.Je;split
 ·have:=h3 (Sc.Dl p) (Sc.Fv (Sc.start []) p).2.ev;unfold Sc.Hq;omega
 ·omega
attribute [local irreducible] TR TC
theorem mb3 (p:Pr)(hk:Lx.kPr p):FnD prog (glS mm) 5 [.d (dPr p)] (fun v=>v=.d (.bool true)):=by
 have c1:=jn2 (glS mm) p;have c2:=jz2 (mm:=mm);have c3:=jy6 (mm:=mm) p;have c4:=jz9 (glS mm) p hk;have he:=qi6 p;generalize Sc.Je p=e at *;generalize Sc.Ke p=q at *;have c5:=jq3 (glS mm) q q;rw[k7.2 (rfl:q=q)]at c5;clear hk;simp only[v8]at c1 c3 c4 c5 ⊢
 (refine j3 func5 ntmps5 results5 fun w M=>?_)
 (repeat' first|refine Ca 1 ?_;(refine j6 1 ?_)|refine Ca 3 ?_;(refine Cj 3 ?_)|refine Ca 5 ?_;(refine Cj 5 ?_)|refine Ca 7 ?_;(refine Cj 7 ?_)|refine yyp ?_;try refine Cc ?_ ?_<;>intro hb|refine yy ?_|refine Cf 10 ?_;refine Cg (hc:=c1) ?_;try refine Cc ?_ ?_<;>intro hb|refine Cf 11 ?_;refine Cg (hc:=c2) ?_;try refine Cc ?_ ?_<;>intro hb|refine Cf 17 ?_;refine Cg (hc:=c4) ?_|refine Cf 18 ?_;refine Cg (hc:=c3) ?_|refine Cf 19 ?_;refine Cg (hc:=c5) ?_;try refine Cc ?_ ?_<;>intro hb|refine at_nil ?_;refine Ce [0,1,2,3,4,5,6,7,8,10] ?_|refine Cb fun K hK=>?_|apply_assumption -exfalso -symm)
 all_goals first
  |((refine j0 (j5 ?_))
    rfl)
  |(exfalso;exact hcmp rfl)
theorem mi3 (a b:Pr)(ha:Lx.kPr a)(hb:Lx.kPr b):FnD prog (glS mm) 6 [.d (dPr a),.d (dPr b)] (fun v=>v=.d (.bool true)):=by
 have c1:=jn2 (glS mm) a;have c2:=jn2 (glS mm) b;have c3:=jz2 (mm:=mm);have c4:=jo6 (mm:=mm) a b;have c5:=jo6 (mm:=mm) b a;have c6:=qi5 (glS mm) a b ha hb;have hx:(decide (Sc.Je b=0) && (decide (Sc.Je a=0) && eqB (Sc.Ke b) (Sc.Ke a)))=(decide (Sc.Je a=0) && (decide (Sc.Je b=0) && eqB (Sc.Ke a) (Sc.Ke b))):=by
  have:eqB (Sc.Ke b) (Sc.Ke a)=eqB (Sc.Ke a) (Sc.Ke b):=by
   rw[Ej,k7,k7];exact eq_comm
  rw[this];cases decide (Sc.Je b=0)<;>cases decide (Sc.Je a=0)<;>rfl
 rw[hx]at c5;generalize (decide (Sc.Je a=0) && (decide (Sc.Je b=0) && eqB (Sc.Ke a) (Sc.Ke b)))=x at c4 c5 c6;clear hx ha hb;simp only[v8]at c1 c2 c4 c5 c6 ⊢
 (refine j3 func6 ntmps6 results6 fun w M=>?_)
 (repeat' first|refine Ca 2 ?_;(refine j6 2 ?_)|refine Ca 3 ?_;(refine j6 3 ?_)|refine yyp ?_;try refine Cc ?_ ?_<;>intro hb|refine yy ?_|refine Cf 10 ?_;refine Cg (hc:=(by first|exact c1|exact c2)) ?_;try refine Cc ?_ ?_<;>intro hb|refine Cf 11 ?_;refine Cg (hc:=c3) ?_;try refine Cc ?_ ?_<;>intro hb|refine Cf 20 ?_;refine Cg (hc:=(by first|exact c4|exact c5)) ?_;try refine Cc ?_ ?_<;>intro hb|refine Cf 21 ?_;refine Cg (hc:=c6) ?_;try refine Cc ?_ ?_<;>intro hb|refine at_nil ?_;refine Ce [0,1,2,3,4,5,6,7,10] ?_|refine Cb fun K hK=>?_|refine Ck 3 ?_;refine j1 [] (lin [1,5,13,17,10,22,24,28,33,37,45,49,42,54,56,60,64,70,72,76]) ?_|apply_assumption -exfalso -symm)
 all_goals first
  |((refine j0 (j5 ?_))
    rfl)
  |(exfalso;exact hcmp rfl)
  |((refine j0 (j5 ?_))
    simp_all)
end
section
variable {mm:Int}
attribute [local irreducible] TR TC
theorem mu1 (p:Pr)(hk:Lx.kPr p):FnD prog (glS mm) 3 [.d (dPr p)] (fun v=>v=.d (.bool true)):=by
 have c1:=jn2 (glS mm) p;have c2:=jz2 (mm:=mm);obtain⟨l,hl⟩:∃ l:List ByteArray,(if Lx.Dz p=true then (Sc.Dl p).map D.str else [])=l.map .str:=by
  by_cases h:Lx.Dz p=true
  ·exact⟨_,Ae h⟩
  ·exact⟨[],Af h⟩
 obtain⟨e,he,he2⟩:∃ e:Int,(if Lx.Dz p=true then (0:Int) else 2)=e/\0<=e/\e<=1000:=by
  by_cases h:Lx.Dz p=true
  ·exact⟨0,Ae h,by omega,by omega⟩
  ·exact⟨2,Af h,by omega,by omega⟩
 have c3:=jv9 (mm:=mm) p;have c4:=mn9 (glS mm) p hk;rw[hl,he]at c3 c4;have c5:=jx8 (glS mm) l l;rw[k7.2 (rfl:l=l)]at c5;clear hl he hk;rw[v8]at c1 c3 c4 ⊢
 (refine j3 func3 ntmps3 results3 fun w M=>?_)
 (repeat' first|refine Ca 1 ?_;(refine j6 1 ?_)|refine yyp ?_;try refine Cc ?_ ?_<;>intro hb|refine yy ?_|refine Cf 10 ?_;refine Cg (hc:=c1) ?_;try refine Cc ?_ ?_<;>intro hb|refine Cf 11 ?_;refine Cg (hc:=c2) ?_;try refine Cc ?_ ?_<;>intro hb|refine Cf 12 ?_;refine Cg (hc:=c3) ?_|refine Cf 13 ?_;refine Cg (hc:=c4) ?_|refine Cf 14 ?_;refine Cg (hc:=c5) ?_;try refine Cc ?_ ?_<;>intro hb|refine at_nil ?_;refine Ce [0,1,2,3,4,5,6,8] ?_|refine Cb fun K hK=>?_|apply_assumption -exfalso -symm)
 all_goals first
  |((refine j0 (j5 ?_))
    rfl)
theorem mi4 (p:Pr)(nn:List ByteArray)(hk:Lx.kPr p):FnD prog (glS mm) 4 [.d (dPr p),.d (.list 1 (nn.map .str))] (fun v=>v=.d (.bool true)):=by
 have c1:=jn2 (glS mm) p;have c2:=jz2 (mm:=mm);have c3:=jw0 (mm:=mm) p nn;have c4:=mb2 (glS mm) p nn hk;obtain⟨s,hs⟩:∃ s:ByteArray,(if Lx.Dz p=true then (Sc.Hq p nn).1 else ByteArray.empty)=s:=⟨_,rfl⟩;have h3:∀ ev:List (ByteArray × Bool),(Sc.Hu nn ev).2=0\/(Sc.Hu nn ev).2=120\/(Sc.Hu nn ev).2=121:=fun ev=>by
  induction ev with
  |nil=>exact .inl rfl
  |cons x ev ih=>
   simp only[Sc.Hu];split
   ·exact .inr (.inr rfl)
   ·split
    ·exact ih
    ·exact .inr (.inl rfl)
 obtain⟨e,he,he2⟩:∃ e:Int,(if Lx.Dz p=true then (Sc.Hq p nn).2 else 2)=e/\0<=e/\e<=1000:=by
  by_cases h:Lx.Dz p=true
  ·rw[Ae h];have:=h3 (Sc.Fv (Sc.start []) p).2.ev;unfold Sc.Hq;exact⟨_,rfl,by omega,by omega⟩
  ·exact⟨2,Af h,by omega,by omega⟩
 rw[hs,he]at c3 c4;clear hs he hk h3;rw[v8]at c1 c3 c4 ⊢
 (refine j3 func4 ntmps4 results4 fun w M=>?_)
 refine r7 1 rfl fun hn=>?_
 (repeat' first|refine Ca 2 ?_;(refine j6 2 ?_)|refine yyp ?_;try refine Cc ?_ ?_<;>intro hb|refine yy ?_|refine yy2 ?_ ?_<;>intro hcmp|refine Cf 10 ?_;refine Cg (hc:=c1) ?_;try refine Cc ?_ ?_<;>intro hb|refine Cf 11 ?_;refine Cg (hc:=c2) ?_;try refine Cc ?_ ?_<;>intro hb|refine Cf 15 ?_;refine Cg (hc:=c3) ?_|refine Cf 16 ?_;refine Cg (hc:=c4) ?_|refine at_nil ?_;refine Ce [0,1,2,4,5,6,7,8,15] ?_|refine Cb fun K hK=>?_|apply_assumption -exfalso -symm)
 all_goals first
  |((refine j0 (j5 ?_))
    rfl)
  |(exfalso;exact hcmp rfl)
end
end Go.Proofs.YtdopmfifmgkmoaaGreatDoor
