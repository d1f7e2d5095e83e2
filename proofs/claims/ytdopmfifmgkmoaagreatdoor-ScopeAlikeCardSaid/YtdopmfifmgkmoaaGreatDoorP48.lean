/- Parts: R13, R14. -/
import Derived.Test.YtdopmfifmgkmoaaGreatDoorP47
import Derived.Test.YtdopmfifmgkmoaaGreatDoorP41
import Derived.Test.YtdopmfifmgkmoaaGreatDoorP34
set_option linter.all false
set_option maxRecDepth 100000
set_option maxHeartbeats 16000000
namespace Go.Proofs.YtdopmfifmgkmoaaGreatDoor
open Go.RowKit Go.Proofs.Tryz
section
def Ut:List Nat:=[0,1,2,3,4,5,6,9,15,23]
def Ul:List Nat:=[0,1,2,4,5,6,7,10,16,23,36]
theorem rf2 {E:Set}{Q:Exit->Sd->Prop}{c:Code}{env:List (Nat × V)}{H:List (Nat × Ob)}{gl:List (Nat × List D)}(t:Nat){sz:Nat}(sz':Nat)(hl:look t env=some (.nils sz))(h:TC E c Q ⟨(t,.d (.list sz' []))::env,H,gl⟩):TC E c Q ⟨env,H,gl⟩:=fun a w ⟨β,hB⟩=>by
 refine h a w ⟨β,{hB with env:=fun s v hs=>?_}⟩;dsimp only at hs;rw[j9]at hs;split at hs
 ·rename_i e;subst e;cases hs;obtain⟨x,h1,h2⟩:=hB.env _ _ hl;exact⟨x,h1,(ToD.nils (H:=H) sz').rep hB h2⟩
 ·exact hB.env s v hs
theorem mb1 (ev:List (ByteArray × Bool))(i:Nat)(hi:i<ev.length):Sc.once (Sc.Ih (ev.take (i+1)))=if ev[i].2 then Sc.once (Sc.Ih (ev.take i)) else Sc.Lu (Sc.once (Sc.Ih (ev.take i))) ev[i].1:=by
 rw[Ba hi,Sc.Og];simp only[Sc.Ih];split
 ·rw[Bp]
 ·unfold Sc.once;rw[List.foldl_append];rfl
theorem Tn (l:List ByteArray)(s:ByteArray):(Sc.Lu l s).length<=l.length+1:=by
 induction l with
 |nil=>simp[Sc.Lu]
 |cons x l ih=>
  simp only[Sc.Lu];split
  ·simp only[Ai];omega
  ·split<;>simp only[Ai]<;>omega
theorem rf3 (ev:List (ByteArray × Bool))(i:Nat)(hi:i<=ev.length):(Sc.once (Sc.Ih (ev.take i))).length<=i:=by
 induction i with
 |zero=>exact As _
 |succ i ih=>
  have h1:=ih (by omega);rw[mb1 ev i (by omega)];split
  ·omega
  ·have:=Tn (Sc.once (Sc.Ih (ev.take i))) (ev[i]'(by omega)).1;omega
attribute [local irreducible] TR TC
theorem mn9 (gl:List (Nat × List D))(p:Pr)(hk:Lx.kPr p):FnD prog gl 13 [.d (dPr p)] (fun v=>v=.tup [.d (.list 1 (if Lx.Dz p=true then (Sc.Dl p).map .str else [])),.d (.int .i64 (if Lx.Dz p=true then 0 else 2))]):=by
 have c1:=jq8 gl p hk;by_cases hm:Lx.Dz p=true
 ·have hc:=Sc.Lj hm;have c2:=kp3 gl p hc.ok hc.cap (Sc.Nl hm).1 hc.fit0;have he:=(Sc.Qx p (Sc.start [])).ev;have hroom:=hc.fit0.room;unfold Sc.W.room at hroom;rw[Ae hm,Ae hm];unfold Sc.Dl;rw[hm]at c1;generalize (Sc.Fv (Sc.start []) p).2.ev=ev at c2 he ⊢;have hev:ev.length<=1000000000:=by omega
  clear he hroom hc;unfold evD at c2;rw[v8]at c1 c2 ⊢
  (refine j3 func13 ntmps13 results13 fun w M=>?_)
  (repeat' first|refine Ca 1 ?_;(refine j6 1 ?_)|refine yyp ?_;try refine Cc ?_ ?_<;>intro hb|refine yy ?_|refine Cf 22 ?_;refine Cg (hc:=c1) ?_;try refine Cc ?_ ?_<;>intro hb|refine Cf 36 ?_;refine Cg (hc:=c2) ?_|refine at_nil ?_;refine Ce Ut ?_|refine Cb fun K hK=>?_|apply_assumption -exfalso -symm)
  refine rf2 4 1 rfl ?_;refine j8 [4,6,12,13,14,15,16,17,18,19,20,21,22,23,24,25,26,27,28,29,30] [] (fun i:Nat=>[(6,.d (.int .i64 i)),(4,.d (.list 1 ((Sc.once (Sc.Ih (ev.take i))).map .str)))]) (fun _=>[]) (fun i=>i<=ev.length) (fun i=>ev.length - i) 0 (Ak _) fun i hi=>?_;dsimp only[Ac,Ad];rcases Ah i ev.length with hi2|hi2
  ·have hn:=mb1 ev i hi2;have hol:=rf3 ev i hi;have c3:=rf1 gl (Sc.once (Sc.Ih (ev.take i))) ev[i].1 (by omega)
   (repeat' first|refine yyp ?_;try refine Cc ?_ ?_<;>intro hb|refine yy ?_|refine Cf 37 ?_;refine Cg (hc:=c3) ?_|refine at_nil ?_;refine Ce Ut ?_|refine Cb fun K hK=>?_|apply_assumption -exfalso -symm)
   all_goals
    refine⟨i+1,by omega,by omega,?_⟩
    first
     |(rw[hn,Ae hb];exact v6)
     |(rw[hn,Af (by rw[hb];exact Ef)];exact v6)
  ·rw[Ao hi2]
   (repeat' first|refine yyp ?_;try refine Cc ?_ ?_<;>intro hb|refine yy ?_|refine at_nil ?_;refine Ce Ut ?_|refine Cb fun K hK=>?_|apply_assumption -exfalso -symm)
   (refine j0 (j5 ?_))
   rfl
 ·rw[Af hm,Af hm];rw[show Lx.Dz p=false by simpa using hm]at c1;rw[v8]at c1 ⊢
  (refine j3 func13 ntmps13 results13 fun w M=>?_)
  (repeat' first|refine Ca 1 ?_;(refine j6 1 ?_)|refine yyp ?_;try refine Cc ?_ ?_<;>intro hb|refine yy ?_|refine Cf 22 ?_;refine Cg (hc:=c1) ?_;try refine Cc ?_ ?_<;>intro hb|refine at_nil ?_;refine Ce Ut ?_|refine Cb fun K hK=>?_|apply_assumption -exfalso -symm)
  all_goals (refine j0 (j5 ?_))
  all_goals rfl
theorem mb2 (gl:List (Nat × List D))(p:Pr)(nn:List ByteArray)(hk:Lx.kPr p):FnD prog gl 16 [.d (dPr p),.d (.list 1 (nn.map .str))] (fun v=>v=.tup [.d (.str (if Lx.Dz p=true then (Sc.Hq p nn).1 else ByteArray.empty)),.d (.int .i64 (if Lx.Dz p=true then (Sc.Hq p nn).2 else 2))]):=by
 have c1:=jq8 gl p hk;by_cases hm:Lx.Dz p=true
 ·have hc:=Sc.Lj hm;have c2:=kp3 gl p hc.ok hc.cap (Sc.Nl hm).1 hc.fit0;have he:=(Sc.Qx p (Sc.start [])).ev;have hroom:=hc.fit0.room;unfold Sc.W.room at hroom;rw[Ae hm,Ae hm];unfold Sc.Hq;rw[hm]at c1;generalize (Sc.Fv (Sc.start []) p).2.ev=ev at c2 he ⊢;have hev:ev.length<=1000000000:=by omega
  clear he hroom hc;unfold evD at c2;rw[v8]at c1 c2 ⊢
  (refine j3 func16 ntmps16 results16 fun w M=>?_)
  (repeat' first|refine Ca 2 ?_;(refine j6 2 ?_)|refine yyp ?_;try refine Cc ?_ ?_<;>intro hb|refine yy ?_|refine Cf 22 ?_;refine Cg (hc:=c1) ?_;try refine Cc ?_ ?_<;>intro hb|refine Cf 36 ?_;refine Cg (hc:=c2) ?_|refine at_nil ?_;refine Ce Ul ?_|refine Cb fun K hK=>?_|apply_assumption -exfalso -symm)
  refine j8 [4,5,7,13,14,15,16,17,18,19,20,21,22,23,24,25,26,27,28,29,30,31,32,33,34,35,36,37,38,39,40,41] [] (fun i:Nat=>[(7,.d (.int .i64 i)),(4,.d (.str ByteArray.empty)),(5,.d (.int .i64 0))]) (fun _=>[]) (fun i=>i<=ev.length/\Sc.Hu nn ev=Sc.Hu nn (ev.drop i)) (fun i=>ev.length - i) 0 ⟨Ak _,rfl⟩ fun i ⟨hi,hf⟩=>?_;dsimp only[Ac,Ad];rcases Ah i ev.length with hi2|hi2
  ·have c3:=jr9 gl nn ev[i].1;rw[Bd hi2,Sc.Hu]at hf;generalize nn.any (Sc.isB ev[i].1)=bb at c3 hf
   (repeat' first|refine yyp ?_;try refine Cc ?_ ?_<;>intro hb|refine yy ?_|refine Cf 24 ?_;refine Cg (hc:=c3) ?_;try refine Cc ?_ ?_<;>intro hb|refine at_nil ?_;refine Ce Ul ?_|refine Cb fun K hK=>?_|apply_assumption -exfalso -symm)
   ·(refine j0 (j5 ?_))
    rw[hf,Ae hb];rfl
   ·have hb0:ev[i].2=false:=by assumption
    refine⟨i+1,⟨by omega,?_⟩,by omega,v6⟩;rw[hf,Af (by rw[hb0];exact Ef),Ae hb]
   ·have hb0:ev[i].2=false:=by assumption
    (refine j0 (j5 ?_))
    rw[hf,Af (by rw[hb0];exact Ef),Af (by rw[hb];exact Ef)];rfl
  ·rw[List.drop_eq_nil_of_le hi2]at hf
   (repeat' first|refine yyp ?_;try refine Cc ?_ ?_<;>intro hb|refine yy ?_|refine at_nil ?_;refine Ce Ul ?_|refine Cb fun K hK=>?_|apply_assumption -exfalso -symm)
   (refine j0 (j5 ?_))
   rw[hf];rfl
 ·rw[Af hm,Af hm];rw[show Lx.Dz p=false by simpa using hm]at c1;rw[v8]at c1 ⊢
  (refine j3 func16 ntmps16 results16 fun w M=>?_)
  (repeat' first|refine Ca 2 ?_;(refine j6 2 ?_)|refine yyp ?_;try refine Cc ?_ ?_<;>intro hb|refine yy ?_|refine Cf 22 ?_;refine Cg (hc:=c1) ?_;try refine Cc ?_ ?_<;>intro hb|refine at_nil ?_;refine Ce Ul ?_|refine Cb fun K hK=>?_|apply_assumption -exfalso -symm)
  all_goals (refine j0 (j5 ?_))
  all_goals rfl
end
section
def mo0:List Nat:=[0,1,2,3,4,5,6,13,23,45]
namespace Sc
theorem kp4 {s x:ByteArray}:∀ {tk:List (ByteArray × Int)},s∈(Mx tk x).map (·.1)↔s∈tk.map (·.1)\/s=x
 |[]=>by simp[Mx]
 |y::l=>by
  simp only[Mx];split
  ·rename_i h;simp only[Am,Bf]
   grind
  ·simp only[Am,Bf,kp4 (tk:=l)]
   grind
theorem jt8 {s:ByteArray}:∀ (l:List ByteArray) (tk:List (ByteArray × Int)),s∈(Fw tk l).map (·.1)↔s∈tk.map (·.1)\/s∈l
 |[],tk=>by simp[Fw]
 |x::l,tk=>by
  rw[show Fw tk (x::l)=Fw (Mx tk x) l from rfl,jt8 l,kp4,Bf,or_assoc]
theorem mu0 {p:Pr}{s:ByteArray}:(start (Km p)).has s↔s∈Dl p\/s∈Dk p:=by
 unfold W.has Km;show s∈(Fw (Fw [] (Dl p)) (Dk p)).map (·.1)↔_;rw[jt8,jt8];simp
noncomputable def rtk (p:Pr):List ByteArray:=Dk p++Dl p
noncomputable def rstart (p:Pr):W:=start ((rtk p).map fun s=>(s,(1:Int)))
theorem Uf (p:Pr):(rstart p).tk.map (·.1)=rtk p:=by
 show((rtk p).map fun s=>(s,(1:Int))).map (·.1)=rtk p;rw[List.map_map];exact List.map_id _
theorem Xr (p:Pr):(Fv (rstart p) p).1=Qm p:=
 (qa9 (E:=True) p (rstart p) (start (Km p)) ⟨fun s=>Nb.refl _ _,fun _=>rfl,rfl,fun _ s=>by
   rw[mu0];unfold W.has;rw[Uf,rtk,Bu,Or.comm]⟩).1 trivial
theorem Vr {p:Pr}(h:Lx.Dz p=true):(rstart p).fit (prN p+1)/\(Dk p).length<=1000000000/\(Dl p).length<=1000000000/\prN p<=300000000:=by
 obtain⟨h1,h2⟩:=Nl h;have h3:=Rw p h1;have hg:=(Qx p (start [])).ev;have hlen:=Nr (Fv (start []) p).2.ev;have ho:=ml7 (Ih (Fv (start []) p).2.ev);have hs:(start []).ev.length=0:=rfl;have hf:(Dl p).length<=prN p:=by unfold Dl;omega
 refine⟨kh5 (fun x hx=>?_) ?_ (by omega),by omega,by omega,by omega⟩
 ·obtain⟨s,_,rfl⟩:=Bs.1 hx;show(1:Int)≠0;omega
 ·rw[Aa,rtk,Ag];omega
end Sc
attribute [local irreducible] TR TC
theorem jz9 (gl:List (Nat × List D))(p:Pr)(hk:Lx.kPr p):FnD prog gl 17 [.d (dPr p)] (fun v=>v=.tup [.d (dPr (Sc.Ke p)),.d (.int .i64 (Sc.Je p))]):=by
 have c1:=mn9 gl p hk;have c2:=mb2 gl p (Sc.Dl p) hk;unfold Sc.Ke Sc.Je;by_cases hm:Lx.Dz p=true
 ·rw[Ae hm]at c1 c2 ⊢;rw[Ae hm]at c1 c2;by_cases he:(Sc.Hq p (Sc.Dl p)).2=0
  ·rw[Ae ⟨hm,he⟩];rw[he]at c2 ⊢;obtain⟨hf,hft,hff,hfn⟩:=Sc.Vr hm;have hc:=Sc.Lj hm;have c3:=FnE.fix (qi2 gl _ p (As _) hft);have c4:=qi4 (sz':=0) (mb0 gl (Sc.rtk p) _ p (As _) hc.ok hc.cap (Sc.Nl hm).1 [] (Sc.rstart p) rfl (Sc.Uf p) (by simp only[Aq];omega) hf);have hU:=Sc.Xr p;obtain⟨r,hr⟩:∃ r,r=Sc.Fv (Sc.rstart p) p:=⟨_,rfl⟩;rw[<-hr]at c4 hU;rw[<-hU];dsimp only[RW,Sc.rstart,Sc.start,evD,Aw]at c4;unfold Sc.rtk at c4;rw[Ap]at c4;simp only[v8]at c1 c2 c3 c4 ⊢;generalize Sc.Dl p=fr at *;generalize Sc.Dk p=tg at *;clear hr hU hf hc he hm hk
   (refine j3 func17 ntmps17 results17 fun w M=>?_)
   ((repeat' first|refine Ca 1 ?_;(refine j6 1001 ?_)|refine Ca 2 ?_;(refine Cj 1002 ?_)|refine Ca 14 ?_;refine z_p Cr ?_|refine Ca 24 ?_;refine z_p Cr ?_|refine Ca 27 ?_;refine Ch (hc:=c3) ?_|refine Ca 29 ?_;refine Nq 1029 ?_|refine Ca 30 ?_;refine z_p Cr ?_|refine Ca 6 ?_;(refine Cj 900 ?_)|refine Ck 8 ?_;refine halt ?_|refine yyp ?_;try refine Cc ?_ ?_<;>intro hb|refine yy ?_|refine yy2 ?_ ?_<;>intro hcmp|refine Cf 13 ?_;refine Cg (hc:=c1) ?_|refine Cf 16 ?_;refine Cg (hc:=c2) ?_|(refine Cq ?_;first|(refine Cs (fun kv=>?_))|(refine z_append_suf (fun sx sp kv hsx hsp hsl=>?_)))|refine at_nil ?_;refine Ce mo0 ?_|refine Cb fun K hK=>?_|apply_assumption -exfalso -symm);all_goals try refine unhalt ?_)
   refine ji5 900 950 0 (e:=81) (sz:=2) rfl rfl rfl ?_;refine jd9 (jq1 950 rfl) ?_;refine jd9 (jf3 (n:=900) (q:=950) (i:=0) rfl rfl rfl rfl (by(repeat (first|exact Drop.nil|apply Drop.drop rfl|apply Drop.take rfl));fail_if_success intros) rfl) ?_
   (repeat' first|refine Ca 1 ?_;(refine j6 1 ?_)|refine Ca 2 ?_;(refine Cj 2 ?_)|refine Ca 14 ?_;refine z_p Cr ?_|refine Ca 24 ?_;refine z_p Cr ?_|refine Ca 29 ?_;refine Nq 29 ?_|refine Ca 30 ?_;refine z_p Cr ?_|refine Ca 6 ?_;(refine Cj 6 ?_)|refine Ca 32 ?_;refine Ch (hc:=c4) ?_|refine yyp ?_;try refine Cc ?_ ?_<;>intro hb|refine yy ?_|refine yy2 ?_ ?_<;>intro hcmp|(refine Cq ?_;first|(refine Cs (fun kv=>?_))|(refine z_append_suf (fun sx sp kv hsx hsp hsl=>?_)))|refine at_nil ?_;refine Ce mo0 ?_|refine Cb fun K hK=>?_|apply_assumption -exfalso -symm)
   (refine j0 (j5 ?_))
   rfl
  ·rw[Af fun h=>he h.2];simp only[v8]at c1 c2 ⊢
   (refine j3 func17 ntmps17 results17 fun w M=>?_)
   (repeat' first|refine Ca 1 ?_;(refine j6 1001 ?_)|refine Ca 2 ?_;(refine Cj 1002 ?_)|refine Ca 14 ?_;refine z_p Cr ?_|refine Ca 24 ?_;refine z_p Cr ?_|refine Ca 29 ?_;refine Nq 1029 ?_|refine Ca 30 ?_;refine z_p Cr ?_|refine Ca 6 ?_;(refine Cj 1006 ?_)|refine yyp ?_;try refine Cc ?_ ?_<;>intro hb|refine yy ?_|refine yy2 ?_ ?_<;>intro hcmp|refine Cf 13 ?_;refine Cg (hc:=c1) ?_|refine Cf 16 ?_;refine Cg (hc:=c2) ?_|(refine Cq ?_;first|(refine Cs (fun kv=>?_))|(refine z_append_suf (fun sx sp kv hsx hsp hsl=>?_)))|refine at_nil ?_;refine Ce mo0 ?_|refine Cb fun K hK=>?_|apply_assumption -exfalso -symm)
   all_goals first
    |(exfalso;exact he (by assumption))
    |((refine j0 (j5 ?_))
      rfl)
 ·rw[Af hm]at c1;rw[Af hm]at c1;rw[Af fun h=>hm h.1,Af hm];simp only[v8]at c1 ⊢
  (refine j3 func17 ntmps17 results17 fun w M=>?_)
  (repeat' first|refine Ca 1 ?_;(refine j6 1001 ?_)|refine Ca 2 ?_;(refine Cj 1002 ?_)|refine Ca 14 ?_;refine z_p Cr ?_|refine Ca 24 ?_;refine z_p Cr ?_|refine Ca 29 ?_;refine Nq 1029 ?_|refine Ca 30 ?_;refine z_p Cr ?_|refine Ca 6 ?_;(refine Cj 1006 ?_)|refine yyp ?_;try refine Cc ?_ ?_<;>intro hb|refine yy ?_|refine yy2 ?_ ?_<;>intro hcmp|refine Cf 13 ?_;refine Cg (hc:=c1) ?_|(refine Cq ?_;first|(refine Cs (fun kv=>?_))|(refine z_append_suf (fun sx sp kv hsx hsp hsl=>?_)))|refine at_nil ?_;refine Ce mo0 ?_|refine Cb fun K hK=>?_|apply_assumption -exfalso -symm)
  all_goals first
   |((refine j0 (j5 ?_))
     rfl)
theorem qi5 (gl:List (Nat × List D))(a b:Pr)(ha:Lx.kPr a)(hb':Lx.kPr b):
 FnD prog gl 21 [.d (dPr a),.d (dPr b)] (fun v=>v=.d (.bool (decide (Sc.Je a=0) && (decide (Sc.Je b=0) && eqB (Sc.Ke a) (Sc.Ke b))))):=by
 have c1:=jz9 gl a ha;have c2:=jz9 gl b hb';have c3:=jq3 gl (Sc.Ke a) (Sc.Ke b);clear ha hb';obtain⟨x,hx⟩:∃ x,x=Sc.Ke a:=⟨_,rfl⟩;obtain⟨y,hy⟩:∃ y,y=Sc.Ke b:=⟨_,rfl⟩;obtain⟨e,he⟩:∃ e,e=Sc.Je a:=⟨_,rfl⟩;obtain⟨f,hf⟩:∃ f,f=Sc.Je b:=⟨_,rfl⟩;rw[<-hx,<-he]at c1;rw[<-hy,<-hf]at c2;rw[<-hx,<-hy]at c3 ⊢;rw[<-he,<-hf];clear hx hy he hf;simp only[v8]at c1 c2 c3 ⊢
 (refine j3 func21 ntmps21 results21 fun w M=>?_)
 (repeat' first|refine Ca 2 ?_;(refine j6 2 ?_)|refine Ca 3 ?_;(refine j6 3 ?_)|refine Ca 5 ?_;(refine Cj 5 ?_)|refine Ca 7 ?_;(refine Cj 7 ?_)|refine yyp ?_;try refine Cc ?_ ?_<;>intro hb|refine yy ?_|refine yy2 ?_ ?_<;>intro hcmp|refine Cf 17 ?_;refine Cg (hc:=(by first|exact c1|exact c2)) ?_|refine Cf 19 ?_;refine Cg (hc:=c3) ?_;try refine Cc ?_ ?_<;>intro hb|refine at_nil ?_;refine Ce [0,1,2,3,4,5,6,7,8] ?_|refine Cb fun K hK=>?_|apply_assumption -exfalso -symm)
 all_goals first
  |((refine j0 (j5 ?_))
    simp[oneOf, *])
end
end Go.Proofs.YtdopmfifmgkmoaaGreatDoor
