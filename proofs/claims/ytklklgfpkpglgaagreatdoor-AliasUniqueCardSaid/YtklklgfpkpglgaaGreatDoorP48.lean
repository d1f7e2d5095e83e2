/- Parts: A25, A26, A27, A28, A29. -/
import Derived.Test.YtklklgfpkpglgaaGreatDoorP47
set_option linter.all false
set_option maxRecDepth 100000
set_option maxHeartbeats 16000000
namespace Go.Proofs.YtklklgfpkpglgaaGreatDoor
open Go.RowKit Go.Proofs.Tryz
section
variable {mm:Int}
namespace Al
open Lx Sc
theorem kt2 {A B:List ByteArray}(h:∀ s,s∈A↔s∈B)(ns:List ByteArray):ji5 A ns=ji5 B ns:=by
 unfold ji5;congr 1;funext s;exact decide_eq_decide.2 (h s)
attribute [local irreducible] TR TC
theorem rb9 (p:Pr)(h0:Ht p=0):FnD prog (glS mm) 8 [.d (dPr p)] (fun v=>v=.d (.list 1 ((ji5 (n0 (x7 (w0 p) (Dc p)) (Dc p)) (Cx p)).map .str))):=by
 have na:=jv3 h0;have c1:=kz9 (mm:=mm) p h0;have c2:=fun(ω:Wd) (h:Rank ω.is)=>kz4 (glS mm) ω h (Dc p) (jf0 na.mayq).1;have c3:=fun A rest=>ry9 (glS mm) A (Cx p) rest (kz8 na.may);simp only[j9]at c1 c2 ⊢;dsimp only[HA]at c1 c2
 (refine j7 func8 ntmps8 results8 fun w M=>?_)
 (repeat' first|refine Ca 1 ?_;(refine Cq 1 ?_)|refine Ca 11 ?_;(refine Gi (hc:=c1) ?_;rintro⟨rest,ω⟩ ⟨hω,hR⟩)|refine Ca 4 ?_;(refine j3 4 ?_)|refine Ca 21 ?_;(refine Gi (hc:=c2 ω hR.rank) ?_;rintro⟨A,B⟩ ⟨hA,hB⟩)|refine Ca 7 ?_;(refine j3 1007 ?_)|refine Ca 26 ?_;(refine Gi (hc:=c3 _ _) ?_;rintro L ⟨hL1,hL2⟩)|refine yyp ?_|refine yy ?_|refine at_nil ?_;refine Cc [0,1,2,3,4,5,6,7,17] ?_|refine Cb fun K hK=>?_|apply_assumption -exfalso -symm)
 refine jm4 (rf5 2 rfl rfl (by rw[Ab];omega)) ?_;refine j1 (k7 ?_);have hAA:∀ s,s∈A↔s∈n0 (x7 (w0 p) (Dc p)) (Dc p):=fun s=>(hA s).trans (hω.occ _ s);rw[Ev,<-Eg,hL2,kt2 hAA];rfl
theorem qp4 (p:Pr)(h0:Ht p≠0):FnD prog (glS mm) 8 [.d (dPr p)] (fun v=>v=.d (.list 1 [])):=by
 have c1:=ko2 (mm:=mm) p h0;simp only[j9]at c1 ⊢
 (refine j7 func8 ntmps8 results8 fun w M=>?_)
 (repeat' first|refine Ca 1 ?_;(refine Cq 1 ?_)|refine Ca 11 ?_;refine Cg (hc:=c1) ?_|refine Ca 4 ?_;(refine j3 4 ?_)|refine yyp ?_;try refine Ce ?_ ?_<;>intro hb|refine yy ?_|refine at_nil ?_;refine Cc [0,1,2,3,4,5,6,7,17] ?_|refine Cb fun K hK=>?_|apply_assumption -exfalso -symm)
 all_goals first
  |(exfalso;omega)
  |(refine j1 (k7 ?_)
    rfl)
end Al
end
section
def Tz:List Nat:=[0,1,4,5,6,7,8,9,16]
def Rq:List Nat:=[0,1,4,5,6,7,12,19,29]
variable {mm:Int}
namespace Al
open Lx Sc
attribute [local irreducible] TR TC
theorem kt3 (gl:List (Nat × List D))(A:List ByteArray)(s:ByteArray):FnE prog gl 27 [.d (.str s),.ptr 1007 0] [(1007,.box [.d (.map (Dq A) (Dr A))])] (fun v H1=>v=.d (.bool (!decide (s∈A)))/\H1=[(1007,.box [.d (.map (Dq A) (Dr A))])]):=by
 (refine j2 func27 ntmps27 results27 fun w M E b0=>?_)
 (repeat' first|refine Ca 6 ?_;(refine jn6 (fun hin=>?_) (fun hin=>?_))|refine yyp ?_|refine yy ?_|refine at_nil ?_;refine Cc [0,1,3,4,5,6] ?_|refine Cb fun K hK=>?_|apply_assumption -exfalso -symm)
 ·(refine j1 (j4 ⟨?_,rfl⟩))
  rw[Eb hin];rfl
 ·(refine j1 (j4 ⟨?_,rfl⟩))
  rw[Ee hin];rfl
theorem rc0 (gl:List (Nat × List D))(A ns rest:List ByteArray)(hn:ns.length<=1000000000):FnE prog gl 44 [.win 951 0 0 ns.length,.clo (.func 27) [] [.ptr 1007 0]] [(951,.row 9 1 false ((ns++rest).map .str) 0),(1007,.box [.d (.map (Dq A) (Dr A))])] (fun v H1=>∃ k:Int,vi0 A ns k/\v=.d (.int .i64 k)/\H1=[(951,.row 9 1 false ((ns++rest).map .str) 0),(1007,.box [.d (.map (Dq A) (Dr A))])]):=by
 (refine j2 func44 ntmps44 results44 fun w M E b0=>?_)
 (repeat' first|refine Ca 7 ?_;(refine z_p (je7 rfl rfl rfl) ?_)|refine yyp ?_;try refine Ce ?_ ?_<;>intro hb|refine yy ?_|refine at_nil ?_;refine Cc Tz ?_|refine Cb fun K hK=>?_|apply_assumption -exfalso -symm)
 refine j6 [4,5,8,9,10,11,12,13,14,15,16,17,18] [] (fun j:Nat=>[(8,.d (.int .i64 j))]) (fun _=>[]) (fun j=>j<=ns.length/\∀ s∈ns.take j,s∈A) (fun j=>ns.length - j) 0 ⟨Ai _,by simp⟩ fun j ⟨hj,hin⟩=>?_;dsimp only[Ac,Af];rcases Ah j ns.length with hj2|hj2
 ·have hget:((ns++rest).map D.str)[0+j]? =some (.str ns[j]):=by rw[Es,Bp,Ej hj2,At hj2];rfl
  have c1:=kt3 gl A ns[j];by_cases hm:ns[j]∈A
  ·rw[Eb hm]at c1
   (repeat' first|refine Ca 14 ?_;(refine z_p (Im (i:=j) rfl rfl rfl rfl rfl rfl hj2) ?_)|refine Ca 15 ?_;(refine z_q (jc7 rfl rfl rfl hget (by first|exact Gg.agg _|constructor) rfl) ?_)|refine Ca 16 ?_;refine Cg (hc:=c1) ?_;try refine Ce ?_ ?_<;>intro hb|refine yyp ?_;try refine Ce ?_ ?_<;>intro hb|refine yy ?_|refine at_nil ?_;refine Cc Tz ?_|refine Cb fun K hK=>?_|apply_assumption -exfalso -symm)
   refine⟨j+1,⟨by omega,fun s hs=>?_⟩,by omega,k8⟩;rw[Ao hj2,Ap,Bn]at hs;rcases hs with hs|rfl
   ·exact hin s hs
   ·exact hm
  ·rw[Ee hm]at c1
   (repeat' first|refine Ca 14 ?_;(refine z_p (Im (i:=j) rfl rfl rfl rfl rfl rfl hj2) ?_)|refine Ca 15 ?_;(refine z_q (jc7 rfl rfl rfl hget (by first|exact Gg.agg _|constructor) rfl) ?_)|refine Ca 16 ?_;refine Cg (hc:=c1) ?_;try refine Ce ?_ ?_<;>intro hb|refine yyp ?_;try refine Ce ?_ ?_<;>intro hb|refine yy ?_|refine at_nil ?_;refine Cc Tz ?_|refine Cb fun K hK=>?_|apply_assumption -exfalso -symm)
   exact j1 (j4 ⟨(j:Nat),.inr ⟨j,rfl,hj2,fun _=>hm,hin⟩,rfl,rfl⟩)
 ·rw[Am hj2]at hin
  (repeat' first|refine yyp ?_;try refine Ce ?_ ?_<;>intro hb|refine yy ?_|refine at_nil ?_;refine Cc Tz ?_|refine Cb fun K hK=>?_|apply_assumption -exfalso -symm)
  exact j1 (j4 ⟨-1,.inl ⟨rfl,hin⟩,rfl,rfl⟩)
theorem rq0 (gl:List (Nat × List D))(A ns rest:List ByteArray)(hn:ns.length<=1000000000):FnE prog gl 25 [.win 951 0 0 ns.length,.clo (.func 27) [] [.ptr 1007 0]] [(951,.row 9 1 false ((ns++rest).map .str) 0),(1007,.box [.d (.map (Dq A) (Dr A))])] (fun v H1=>∃ L:List ByteArray,((ji5 A ns).length<=L.length/\L.take (ji5 A ns).length=ji5 A ns)/\v=.win 951 0 0 (ji5 A ns).length/\H1=[(951,.row 9 1 false (L.map .str) 0),(1007,.box [.d (.map (Dq A) (Dr A))])]):=by
 have c1:=rc0 gl A ns rest hn
 (refine j2 func25 ntmps25 results25 fun w M E b0=>?_)
 ((repeat' first|refine Ca 10 ?_;(refine Gi (hc:=c1) ?_;rintro kx hkx)|refine Cf 2 ?_;refine halt ?_|refine yyp ?_;try refine Ce ?_ ?_<;>intro hb|refine yy ?_|refine at_nil ?_;refine Cc Rq ?_|refine Cb fun K hK=>?_|apply_assumption -exfalso -symm);all_goals try refine unhalt ?_)
 rcases hkx with ⟨rfl,hall⟩|⟨i0,rfl,hi0,hni,htk⟩
 ·(repeat' first|refine yyp ?_;try refine Ce ?_ ?_<;>intro hb|refine yy ?_|refine at_nil ?_;refine Cc Rq ?_|refine Cb fun K hK=>?_|apply_assumption -exfalso -symm)
  refine j1 (ja2 ⟨ns++rest,⟨?_,?_⟩,?_,rfl⟩)
  ·rw[jm2 hall];simp
  ·rw[jm2 hall];simp
  ·rw[jm2 hall];rfl
 ·have hst:=Qu.start rest hi0 (hni hi0) htk
  (repeat' first|refine yyp ?_;try refine Ce ?_ ?_<;>intro hb|refine yy ?_|refine at_nil ?_;refine Cc Rq ?_|refine Cb fun K hK=>?_|apply_assumption -exfalso -symm)
  refine j6 [5,6,7,16,17,18,19,20,21,22,23,24,25,26,27,28,29,30,31,32,33,34,35] [951] (fun x:Nat × Nat × List ByteArray=>[(6,.d (.int .i64 x.1)),(5,.d (.int .i64 x.2.1))]) (fun x=>[(951,.row 9 1 false (x.2.2.map .str) 0)]) (fun x=>Qu A ns rest x.1 x.2.1 x.2.2) (fun x=>ns.length - x.1) (i0+1,i0,ns++rest) hst fun⟨j,i,L⟩ hP=>?_;dsimp only[Ac,Af]at hP ⊢;have q1:=hP.lt;have q2:=hP.le;have q3:=hP.len;rw[Ag]at q3;rcases Ah j ns.length with hj2|hj2
  ·have hget:(L.map D.str)[0+j]? =some (.str ns[j]):=by rw[Es,Bp,hP.get hj2];rfl
   have c2:=kt3 gl A ns[j];by_cases hm:ns[j]∈A
   ·rw[Eb hm]at c2
    (repeat' first|refine Ca 18 ?_;(refine z_p (je7 rfl rfl rfl) ?_)|refine Ca 24 ?_;(refine z_p (Im (i:=j) rfl rfl rfl rfl rfl rfl hj2) ?_)|refine Ca 25 ?_;(refine z_q (jc7 rfl rfl rfl hget (by first|exact Gg.agg _|constructor) rfl) ?_)|refine Ca 28 ?_;refine Cg (hc:=c2) ?_;try refine Ce ?_ ?_<;>intro hb|refine Ca 33 ?_;(refine z_p (Im (i:=i) rfl rfl rfl rfl rfl rfl (by omega)) ?_)|refine yyp ?_;try refine Ce ?_ ?_<;>intro hb|refine yy ?_|refine at_nil ?_;refine Cc Rq ?_|refine Cb fun K hK=>?_|apply_assumption -exfalso -symm)
    refine⟨(j+1,i+1,L.set i ns[j]),hP.yes hj2 hm,by dsimp only;omega,?_⟩;dsimp only;rw[List.map_set];simp only[Es];exact k8
   ·rw[Ee hm]at c2
    (repeat' first|refine Ca 18 ?_;(refine z_p (je7 rfl rfl rfl) ?_)|refine Ca 24 ?_;(refine z_p (Im (i:=j) rfl rfl rfl rfl rfl rfl hj2) ?_)|refine Ca 25 ?_;(refine z_q (jc7 rfl rfl rfl hget (by first|exact Gg.agg _|constructor) rfl) ?_)|refine Ca 28 ?_;refine Cg (hc:=c2) ?_;try refine Ce ?_ ?_<;>intro hb|refine yyp ?_;try refine Ce ?_ ?_<;>intro hb|refine yy ?_|refine at_nil ?_;refine Cc Rq ?_|refine Cb fun K hK=>?_|apply_assumption -exfalso -symm)
    exact⟨(j+1,i,L),hP.no hj2 hm,by dsimp only;omega,k8⟩
  ·obtain rfl:j=ns.length:=by omega
   have ht:=hP.take;rw[Bg]at ht;have hil:i=(ji5 A ns).length:=by rw[<-ht,Aj];omega
   (repeat' first|refine Ca 18 ?_;(refine z_p (je7 rfl rfl rfl) ?_)|refine Ca 38 ?_;(refine z_p (mq6 (l:=i) rfl rfl rfl rfl rfl rfl (by omega)) ?_)|refine jg0 3 ?_;(refine qp3 ?_ (hle:=by rw[Ab];omega))|refine Ca 41 ?_;(refine z_p (mq7 (l:=i) rfl rfl rfl rfl rfl rfl (by omega)) ?_)|refine yyp ?_;try refine Ce ?_ ?_<;>intro hb|refine yy ?_|refine at_nil ?_;refine Cc Rq ?_|refine Cb fun K hK=>?_|apply_assumption -exfalso -symm)
   have hrow:List.take (0+i) (List.map D.str L)++List.replicate (ns.length - i) (D.str ByteArray.empty)++List.drop (0+i+(ns.length - i)) (List.map D.str L)=(L.take i++List.replicate (ns.length - i) ByteArray.empty++L.drop (i+(ns.length - i))).map D.str:=by
    simp only[Es,As,Eg,List.map_drop,List.map_replicate]
   rw[hrow];refine j1 (ja2 ⟨_,⟨?_,?_⟩,?_,rfl⟩)
   ·rw[<-hil];simp only[Ag,Aj];omega
   ·rw[<-hil,Bv,List.take_append_of_le_length (by rw[Aj];omega),List.take_take,Nat.min_self,ht]
   ·rw[<-hil];rfl
theorem qp5 (p:Pr)(h0:Ht p=0):FnD prog (glS mm) 9 [.d (dPr p)] (fun v=>v=.d (.list 1 ((ji5 (ka7 (x7 (w0 p) (Dc p)) (Dc p)) (Cx p)).map .str))):=by
 have na:=jv3 h0;have c1:=kz9 (mm:=mm) p h0;have c2:=fun(ω:Wd) (h:Rank ω.is)=>kz4 (glS mm) ω h (Dc p) (jf0 na.mayq).1;have c3:=fun A rest=>rq0 (glS mm) A (Cx p) rest (kz8 na.may);simp only[j9]at c1 c2 ⊢;dsimp only[HA]at c1 c2
 (refine j7 func9 ntmps9 results9 fun w M=>?_)
 (repeat' first|refine Ca 1 ?_;(refine Cq 1 ?_)|refine Ca 11 ?_;(refine Gi (hc:=c1) ?_;rintro⟨rest,ω⟩ ⟨hω,hR⟩)|refine Ca 4 ?_;(refine j3 4 ?_)|refine Ca 21 ?_;(refine Gi (hc:=c2 ω hR.rank) ?_;rintro⟨A,B⟩ ⟨hA,hB⟩)|refine Ca 8 ?_;(refine j3 1007 ?_)|refine Ca 26 ?_;(refine Gi (hc:=c3 _ _) ?_;rintro L ⟨hL1,hL2⟩)|refine yyp ?_|refine yy ?_|refine at_nil ?_;refine Cc [0,1,2,3,4,5,6,8,17] ?_|refine Cb fun K hK=>?_|apply_assumption -exfalso -symm)
 refine jm4 (rf5 2 rfl rfl (by rw[Ab];omega)) ?_;refine j1 (k7 ?_);have hAA:∀ s,s∈B↔s∈ka7 (x7 (w0 p) (Dc p)) (Dc p):=fun s=>(hB s).trans (hω.wr _ s);rw[Ev,<-Eg,hL2,kt2 hAA];rfl
theorem qa8 (p:Pr)(h0:Ht p≠0):FnD prog (glS mm) 9 [.d (dPr p)] (fun v=>v=.d (.list 1 [])):=by
 have c1:=ko2 (mm:=mm) p h0;simp only[j9]at c1 ⊢
 (refine j7 func9 ntmps9 results9 fun w M=>?_)
 (repeat' first|refine Ca 1 ?_;(refine Cq 1 ?_)|refine Ca 11 ?_;refine Cg (hc:=c1) ?_|refine Ca 4 ?_;(refine j3 4 ?_)|refine yyp ?_;try refine Ce ?_ ?_<;>intro hb|refine yy ?_|refine at_nil ?_;refine Cc [0,1,2,3,4,5,6,8,17] ?_|refine Cb fun K hK=>?_|apply_assumption -exfalso -symm)
 all_goals first
  |(exfalso;omega)
  |(refine j1 (k7 ?_)
    rfl)
end Al
end
section
namespace Al
open Lx Sc
theorem jv7 {w v:Wd}(h:Sim w v)(l:List Ex):Jd w l=Jd v l:=by
 unfold Jd;rw[h.is]
theorem jt2 {w v:Wd}(h:Sim w v)(sk:Int)(se:Ex)(a:Pr):Jj w sk se a=Jj v sk se a:=by
 unfold Jj;rw[jv7 h,jv7 h,jk3 (h.wr a),jk3 (h.wr a)];have:decide (se.s∈n0 w a)=decide (se.s∈n0 v a):=decide_eq_decide.2 (h.occ a se.s);rw[this]
theorem kt4 {w v:Wd}(h:Sim w v):∀ (fs:List Fo) (l:List Ex) (vars vals:List ByteArray),Kr w fs l vars vals=Kr v fs l vars vals
 |[],l,vars,vals=>by simp[Kr]
 |f::fs,[],vars,vals=>by simp[Kr]
 |f::fs,e::l,vars,vals=>by
  simp only[Kr,h.is,jv7 h,kt4 h fs l]
theorem jz7 {w v:Wd}(h:Sim w v)(name:ByteArray)(l:List Ex):Og w name l=Og v name l:=by
 unfold Og;have hs:=h.procs.at name;generalize at1 name w.procs=a at hs ⊢;generalize at1 name v.procs=b at hs ⊢;cases hs with
 |none=>rfl
 |@some a b hf ho hw=>
  dsimp only;rw[kt4 h,hf];cases Kr v b.formals l [] []with
  |none=>rfl
  |some x=>
   obtain⟨vars,vals⟩:=x;dsimp only;have h1:je4 vars (a.occ.map (Dw w.is))=je4 vars (b.occ.map (Dw v.is)):=by
    rw[Ez];unfold je4;simp only[Em,Bl,h.is,ho]
   rw[h1,jk3 hw]
theorem jz8 {w v:Wd}(h:Sim w v):∀ (m:List ByteArray) (l:List Ex),Jl w m l=Jl v m l
 |m,[]=>by simp[Jl]
 |m,e::l=>by simp only[Jl,h.is,jz8 h _ l]
theorem kd6 {w v:Wd}(h:Sim w v)(l:List Ex):Ng w l=Ng v l:=by
 unfold Ng;rw[jz8 h]
theorem rz0 {w v:Wd}(h:Sim w v):∀ (n:Nat) (p:Pr),SizeOf.sizeOf p<=n->brB w p=brB v p:=by
 intro n
 induction n with
 |zero=>intro p h;cases p;simp only[Pr.mk.sizeOf_spec]at h;omega
 |succ n ih=>
  intro p hp;rw[Ez,mv9,mv9,jt2 h,jz7 h,kd6 h];simp only[kd6 h];refine or_congr .rfl (or_congr .rfl (or_congr .rfl (or_congr .rfl ⟨?_,?_⟩)))
  ·rintro⟨q,hq,hs⟩;exact⟨q,hq,by rw[<-ih q (by have:=ja9 hq;omega)];exact hs⟩
  ·rintro⟨q,hq,hs⟩;exact⟨q,hq,by rw[ih q (by have:=ja9 hq;omega)];exact hs⟩
theorem Sim.br {w v:Wd}(h:Sim w v)(p:Pr):brB w p=brB v p:=rz0 h _ p (Au _)
mutual
theorem rh6:∀ p:Pr,Ik p->rt7 p
 |.mk kind name chan targets exprs rep guards l procs (.mk sk st sn se spp sf sb),h=>by
  have hp:=jn7 h;have f:=jd5 hp;simp only[Ik]at h;simp only[rt7];refine⟨fun e he=>js9 (f.targets e he),fun hk=>?_,ma0 sb h.2.1,qp6 guards h.2.2.1 f.gus,ma0 l h.2.2.2⟩;by_cases h18:kind=18
  ·exact js9 ((jz3 (f.spec h18).2).e hk)
  ·have:=f.none h18;simp only[Pr.spec,sp0,Sp.mk.injEq]at this;omega
theorem ma0:∀ l:List Pr,ja1 l->ky3 l
 |[],_=>by simp[ky3]
 |p::l,h=>by
  simp only[ja1]at h;simp only[ky3];exact⟨rh6 p h.1,ma0 l h.2⟩
theorem qp6:∀ l:List Gu,je1 l->(∀ g∈l,Le g=true)->mg9 l
 |[],_,_=>by simp[mg9]
 |.mk kind name cond chan targets values time body::l,h,hg=>by
  simp only[je1]at h;simp only[mg9];exact⟨fun e he=>js9 ((kh2 (hg _ Az)).targets e he),ma0 body h.1,qp6 l h.2 fun g hm=>hg g (Bb _ hm)⟩
end
noncomputable def jb2 (p:Pr):List ByteArray:=if Ht p=0 then ji5 (n0 (x7 (w0 p) (Dc p)) (Dc p)) (Cx p) else []
noncomputable def jb7 (p:Pr):List ByteArray:=if Ht p=0 then ji5 (ka7 (x7 (w0 p) (Dc p)) (Dc p)) (Cx p) else []
noncomputable def jf1 (p:Pr):Int:=if Ht p=0 then (if brB (x7 (w0 p) (Dc p)) (Dc p)=true then 150 else 0) else Ht p
theorem qp7 {p:Pr}{s:ByteArray}(h:s∈jb2 p):s∈Cx p:=by
 unfold jb2 at h;split at h
 ·unfold ji5 at h;exact(List.mem_filter.1 h).1
 ·cases h
theorem mi1 {p:Pr}{s:ByteArray}(h:s∈jb7 p):s∈jb2 p:=by
 unfold jb7 at h;unfold jb2;split at h
 ·rename_i h0;rw[Ad h0];have na:=jv3 h0;unfold ji5 at h ⊢;rw[List.mem_filter]at h ⊢;refine⟨h.1,?_⟩;simp only[Ak]at h ⊢;exact rx3 rfl rfl (rh6 _ (jf0 na.mayq).1) h.2
 ·cases h
theorem mi2 (p:Pr):Ph (jb2 p):=by
 unfold jb2;split
 ·exact List.Pairwise.filter _ (ju8 _)
 ·exact List.Pairwise.nil
theorem ma1 (p:Pr):Ph (jb7 p):=by
 unfold jb7;split
 ·exact List.Pairwise.filter _ (ju8 _)
 ·exact List.Pairwise.nil
theorem qa9 {p:Pr}(h:Ht p=0):Ht (Dc p)=0/\jb2 (Dc p)=jb2 p/\jb7 (Dc p)=jb7 p/\jf1 (Dc p)=jf1 p:=by
 have na:=jv3 h;have nn:=mf5 na.may (kg6 h).2;have hu:Dc (Dc p)=Dc p:=nn.uniq;have hw:w0 (Dc p)=w0 p:=by unfold w0;rw[na.free]
 unfold jb2 jb7 jf1;rw[Ad h,Ad h,Ad h,Ad na.errq,Ad na.errq,Ad na.errq,hu,hw,na.free];exact⟨na.errq,rfl,rfl,rfl⟩
end Al
end
section
variable {mm:Int}
namespace Al
open Lx Sc
theorem ko4 (p:Pr):FnD prog (glS mm) 8 [.d (dPr p)] (fun v=>v=.d (.list 1 ((jb2 p).map .str))):=by
 unfold jb2;by_cases h:Ht p=0
 ·rw[Ad h];exact rb9 p h
 ·rw[Ae h];exact qp4 p h
theorem kd7 (p:Pr):FnD prog (glS mm) 9 [.d (dPr p)] (fun v=>v=.d (.list 1 ((jb7 p).map .str))):=by
 unfold jb7;by_cases h:Ht p=0
 ·rw[Ad h];exact qp5 p h
 ·rw[Ae h];exact qa8 p h
noncomputable def vj3 (p:Pr):Wd:=x7 (w0 p) (Dc p)
theorem rz1 {w v:Wd}(h:Sim w v){p q:Pr}{n:ByteArray}(k:Nm w p q n):Nm v p q n:=by
 induction k with
 |spec h1 hn=>exact .spec (by rwa [jt2 h]at h1) hn
 |call h1 h2=>exact .call (by rwa [jt2 h]at h1) (by rwa [jz7 h]at h2)
 |tgt h1 h2 h3 he=>exact .tgt (by rwa [jt2 h]at h1) (by rwa [jz7 h]at h2) (by rwa [jz8 h]at h3) he
 |gu h1 h2 h3 hy hg e1 e2 e3 e4=>exact .gu (by rwa [jt2 h]at h1) (by rwa [jz7 h]at h2) (by rwa [kd6 h]at h3) (fun y hm=>by rw[<-h.br];exact hy y hm) (fun j g hj hq=>by rw[<-kd6 h];exact hg j g hj hq) e1 (by rwa [jz8 h]at e2) e3 e4
 |part h1 h2 h3 hy hg e1 e2 hb _ ih=>exact .part (by rwa [jt2 h]at h1) (by rwa [jz7 h]at h2) (by rwa [kd6 h]at h3) (fun y hm=>by rw[<-h.br];exact hy y hm) (fun j g hj hq=>by rw[<-kd6 h];exact hg j g hj hq) e1 e2 (by rw[<-h.br];exact hb) ih
theorem jn8 (p:Pr):FnD prog (glS mm) 13 [.d (dPr p)] (fun v=>∃ n:ByteArray,((jf1 p=150->Ht p=0->Nm (vj3 p) p (Dc p) n)/\(jf1 p≠150->n=ByteArray.empty))/\v=.tup [.d (.str n),.d (.int .i64 (jf1 p))]):=by
 unfold jf1;by_cases h:Ht p=0
 ·rw[Ad h];refine(qp1 p h).mono ?_;rintro v ⟨n,ω,hω,hn,rfl⟩;rw[hω.br (Dc p)];by_cases hb:brB (x7 (w0 p) (Dc p)) (Dc p)=true
  ·rw[Ad hb,Ad hb];exact⟨n,⟨fun _ _=>rz1 hω (hn (by rw[hω.br];exact hb)),fun h=>absurd rfl h⟩,rfl⟩
  ·rw[Ae hb,Ae hb];exact⟨ByteArray.empty,⟨fun h=>absurd h (by decide),fun _=>rfl⟩,rfl⟩
 ·rw[Ae h];refine(qa7 p h).mono ?_;rintro v rfl;exact⟨ByteArray.empty,⟨fun _ h2=>absurd h2 h,fun _=>rfl⟩,rfl⟩
end Al
end
section
namespace Al
attribute [local irreducible] TR TC
theorem qb0 (gl:List (Nat × List D))(p:Pr):FnD prog gl 6 [.d (dPr p)] (fun v=>v=.d (.bool (decide (120<IntKind.i64.wrap (Sc.Jy p))))):=by
 have c:=qm0 gl _ p (Au _);rw[j9]at c ⊢
 (refine j7 func6 ntmps6 results6 fun w M=>?_)
 (repeat' first|refine Ca 1 ?_;(refine Cq 1 ?_)|refine yyp ?_;try refine Ce ?_ ?_<;>intro hb|refine yy ?_|refine yy2 ?_ ?_<;>intro hcmp|refine Ch 21 ?_;refine Ck (hc:=c) ?_|refine at_nil ?_;refine Cc [0,1,2,3,4,5] ?_|refine Cb fun K hK=>?_|apply_assumption -exfalso -symm)
 all_goals
  (refine j1 (k7 ?_))
  simp[oneOf, *]
def Cz (s:ByteArray):Ex:=.mk 4 0 0 0 s []
theorem mi3 (gl:List (Nat × List D))(s:ByteArray):FnD prog gl 22 [.d (.str s)] (fun v=>v=.d (dEx (Cz s))):=by
 rw[k9]
 (refine j7 func22 ntmps22 results22 fun w M=>?_)
 (repeat' first|refine Ca 2 ?_;(refine j3 2 ?_)|refine Ca 4 ?_;refine z_p Dk ?_|refine yyp ?_;try refine Ce ?_ ?_<;>intro hb|refine yy ?_|refine at_nil ?_;refine Cc [0,2,3,4,28] ?_|refine Cb fun K hK=>?_|apply_assumption -exfalso -symm)
 (refine j1 (k7 ?_))
 rfl
def Hr (x:ByteArray)(e:Ex):Pr:=.mk 3 ByteArray.empty ex0 [Cz x] [e] rp0 [] [] [] sp0
def Mg (kind:Int)(x:ByteArray)(e:Ex)(p:Pr):Pr:=.mk 18 ByteArray.empty ex0 [] [] rp0 [] [p] [] (.mk kind (.mk 1 0 0 ByteArray.empty) [x] e pt0 [] [])
theorem rz2 (x:ByteArray)(e:Ex):dP (Hr x e)=.agg ([.int .u8 3,.str ByteArray.empty,
 .int .u8 0,.int .u8 0,.int .u8 0,.int .i32 0,.str ByteArray.empty,.list 6 [],
 .list 6 [dE (Cz x)],.list 6 [dE e],
 .str ByteArray.empty,.int .u8 0,.int .u8 0,.int .u8 0,.int .i32 0,.str ByteArray.empty,.list 6 [],
 .int .u8 0,.int .u8 0,.int .u8 0,.int .i32 0,.str ByteArray.empty,.list 6 [],
 .list 23 [],.list 42 [],.list 1 [],
 .int .u8 0,.int .u8 0,.int .i64 0,.int .u8 0,.str ByteArray.empty,.list 1 [],
 .int .u8 0,.int .u8 0,.int .u8 0,.int .i32 0,.str ByteArray.empty,.list 6 [],
 .bool false,.list 2 [],.list 6 [],.list 42 []]):=by
 have h1:(Hr x e).targets.map dEx=[dE (Cz x)]:=by rw[k9];rfl
 have h2:(Hr x e).exprs.map dEx=[dE e]:=by rw[k9];rfl
 unfold dP;rw[h1,h2];rfl
theorem mo8 (gl:List (Nat × List D))(x:ByteArray)(e:Ex):FnD prog gl 19 [.d (.str x),.d (dEx e)] (fun v=>v=.d (dPr (Hr x e))):=by
 have c1:=mi3 gl x;rw[j9,rz2];rw[k9]at c1 ⊢
 (refine j7 func19 ntmps19 results19 fun w M=>?_)
 (repeat' first|refine Ca 3 ?_;(refine Cq 3 ?_)|refine Ca 4 ?_;(refine j3 4 ?_)|refine yy ?_|refine at_nil ?_;refine Cc [0,1,3,4,5,6,7,45] ?_|(apply Hy (x:=.region 1 _ _);focus ((refine Cf 1 ?_;refine j0 [6] q09 ?_);(repeat' (first|refine Ca 9 ?_;(refine Dn 9 ?_)|refine Ca 7 ?_;(refine Dn 7 ?_)|refine Ca 10 ?_;refine z_p Dk ?_|refine yyp ?_|refine yy ?_|refine Ch 22 ?_;refine Ck (hc:=c1) ?_|refine at_nil ?_;refine Cc [0,1,3,4,5,6,7,45] ?_|refine kf2 ?_ ?_));(all_goals first|exact Wk.refl _ _|exact k8);done))|refine Cb fun K hK=>?_|refine Cf 1 ?_;refine j0 [6] q09 ?_|apply_assumption -exfalso -symm)
 all_goals
  (refine j1 (k7 ?_))
  rfl
theorem ve6 (kind:Int)(x:ByteArray)(e:Ex)(p:Pr):dP (Mg kind x e p)=.agg ([.int .u8 18,.str ByteArray.empty,
 .int .u8 0,.int .u8 0,.int .u8 0,.int .i32 0,.str ByteArray.empty,.list 6 [],
 .list 6 [],.list 6 [],
 .str ByteArray.empty,.int .u8 0,.int .u8 0,.int .u8 0,.int .i32 0,.str ByteArray.empty,.list 6 [],
 .int .u8 0,.int .u8 0,.int .u8 0,.int .i32 0,.str ByteArray.empty,.list 6 [],
 .list 23 [],.list 42 [dP p],.list 1 [],
 .int .u8 kind,.int .u8 1,.int .i64 0,.int .u8 0,.str ByteArray.empty,.list 1 [.str x],
 .int .u8 e.kind,.int .u8 e.op,.int .u8 e.ty,.int .i32 e.n,.str e.s,.list 6 (e.l.map dEx),
 .bool false,.list 2 [],.list 6 [],.list 42 []]):=by
 have h:(Mg kind x e p).l.map dPr=[dP p]:=by rw[j9];rfl
 unfold dP;rw[h];rfl
theorem rq1 (gl:List (Nat × List D))(kind:Int)(x:ByteArray)(e:Ex)(p:Pr):FnD prog gl 17 [.d (.int .u8 kind),.d (.str x),.d (dEx e),.d (dPr p)] (fun v=>v=.d (dPr (Mg kind x e p))):=by
 simp only[j9];rw[ve6,show dEx e=dE e from congrFun k9 e]
 (refine j7 func17 ntmps17 results17 fun w M=>?_)
 (repeat' first|refine Ca 6 ?_;(refine Cq 6 ?_)|refine Ca 7 ?_;(refine Cq 7 ?_)|refine Ca 8 ?_;(refine j3 8 ?_)|refine Ca 12 ?_;(refine Dn 12 ?_)|refine Ca 16 ?_;(refine Dn 16 ?_)|refine Ca 17 ?_;refine z_p Dk ?_|refine yyp ?_;try refine Ce ?_ ?_<;>intro hb|refine yy ?_|refine at_nil ?_;refine Cc [0,1,2,3,6,7,8,9,45] ?_|refine Cb fun K hK=>?_|apply_assumption -exfalso -symm)
 all_goals
  (refine j1 (k7 ?_))
  rfl
end Al
end
end Go.Proofs.YtklklgfpkpglgaaGreatDoor
