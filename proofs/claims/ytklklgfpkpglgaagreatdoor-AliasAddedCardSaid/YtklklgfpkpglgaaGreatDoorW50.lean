/- Parts. -/
import Derived.Test.YtklklgfpkpglgaaGreatDoorW49
set_option linter.all false
set_option maxRecDepth 100000
set_option maxHeartbeats 0
namespace Go.Proofs.YtklklgfpkpglgaaGreatDoor
open Go.RowKit Go.Proofs.Tryz
variable (gl:List (Nat × List D))
section
variable {mm:Int}
namespace Al
open Lx Sc
theorem ks6 {A B:List ByteArray}(h:∀ s,s∈A↔s∈B)(ns:List ByteArray):jk2 A ns=jk2 B ns:=by
 unfold jk2;congr 1;funext s;exact decide_eq_decide.2 (h s)
attribute [local irreducible] TR TC
theorem rb6 (p:Pr)(h0:Im p=0):FnD prog (glS mm) 8 [.d (dPr p)] (λv=>v=.d (.list 1 ((jk2 (jc4 (n5 (w0 p) (Fz p)) (Fz p)) (Db p)).map .str))):=by
 have na:=kg7 h0;have c1:=ky8 (mm:=mm) p h0;have c2:=λ(ω:Wd) (h:Rank ω.is)=>ky3 (glS mm) ω h (Fz p) (jj8 na.mayq).1;have c3:=λA rest=>va3 (glS mm) A (Db p) rest (ky7 na.may);simp only[v6]at c1 c2 ⊢;dsimp only[HA]at c1 c2
 (refine j5 func8 ntmps8 results8 λw M=>?_)
 (repeat' first|apply Ca 1;(refine Cm 1 ?_)|apply Ca 11;(refine Ga (hc:=c1) ?_;rintro⟨rest,ω⟩ ⟨hω,hR⟩)|apply Ca 4;(refine j3 4 ?_)|apply Ca 21;(refine Ga (hc:=c2 ω hR.rank) ?_;rintro⟨A,B⟩ ⟨hA,hB⟩)|apply Ca 7;(refine j3 1007 ?_)|apply Ca 26;(refine Ga (hc:=c3 _ _) ?_;rintro L ⟨hL1,hL2⟩)|refine yyp ?_|refine yy ?_|apply ah;refine Cc [0,1,2,3,4,5,6,7,17] ?_|refine Cb λK hK=>?_|apply_assumption -exfalso -symm)
 refine jm1 (rf5 2 rfl rfl (by rw[Aa];omega)) ?_;refine j1 (j8 ?_);have hAA:∀ s,s∈A↔s∈jc4 (n5 (w0 p) (Fz p)) (Fz p):=λs=>(hA s).trans (hω.occ _ s);rw[Ew,<-Ek,hL2,ks6 hAA];rfl
theorem qq4 (p:Pr)(h0:Im p≠0):FnD prog (glS mm) 8 [.d (dPr p)] (λv=>v=.d (.list 1 [])):=by
 have c1:=km8 (mm:=mm) p h0;simp only[v6]at c1 ⊢
 (refine j5 func8 ntmps8 results8 λw M=>?_)
 (repeat' first|apply Ca 1;(refine Cm 1 ?_)|apply Ca 11;refine Ch (hc:=c1) ?_|apply Ca 4;(refine j3 4 ?_)|refine yyp ?_;try refine Ce ?_ ?_<;>intro hb|refine yy ?_|apply ah;refine Cc [0,1,2,3,4,5,6,7,17] ?_|refine Cb λK hK=>?_|apply_assumption -exfalso -symm)
 all_goals first
  |(exfalso;omega)
  |(refine j1 (j8 ?_)
    rfl)
end Al
end
section
def Vb:List Nat:=[0,1,4,5,6,7,8,9,16]
def Sk:List Nat:=[0,1,4,5,6,7,12,19,29]
variable {mm:Int}
namespace Al
open Lx Sc
attribute [local irreducible] TR TC
theorem ks7 (A:List ByteArray)(s:ByteArray):FnE prog gl 27 [.d (.str s),.ptr 1007 0] [(1007,.box [.d (.map (Di A) (Dj A))])] (λv H1=>v=.d (.bool (!decide (s∈A)))/\H1=[(1007,.box [.d (.map (Di A) (Dj A))])]):=by
 (refine j2 func27 ntmps27 results27 λw M E b0=>?_)
 (repeat' first|apply Ca 6;(refine jn4 (λhin=>?_) (λhin=>?_))|refine yyp ?_|refine yy ?_|apply ah;refine Cc [0,1,3,4,5,6] ?_|refine Cb λK hK=>?_|apply_assumption -exfalso -symm)
 ·(refine j1 (j6 ⟨?_,rfl⟩))
  rw[Bm hin];rfl
 ·(refine j1 (j6 ⟨?_,rfl⟩))
  rw[Bn hin];rfl
theorem rb7 (A ns rest:List ByteArray)(hn:ns.length<=1000000000):FnE prog gl 44 [.win 951 0 0 ns.length,.clo (.func 27) [] [.ptr 1007 0]] [(951,.row 9 1 false ((ns++rest).map .str) 0),(1007,.box [.d (.map (Di A) (Dj A))])] (λv H1=>∃ k:Int,vh2 A ns k/\v=.d (.int .i64 k)/\H1=[(951,.row 9 1 false ((ns++rest).map .str) 0),(1007,.box [.d (.map (Di A) (Dj A))])]):=by
 (refine j2 func44 ntmps44 results44 λw M E b0=>?_)
 (repeat' first|apply Ca 7;(refine z_p (je9 rfl rfl rfl) ?_)|refine yyp ?_;try refine Ce ?_ ?_<;>intro hb|refine yy ?_|apply ah;refine Cc Vb ?_|refine Cb λK hK=>?_|apply_assumption -exfalso -symm)
 refine j9 [4,5,8,9,10,11,12,13,14,15,16,17,18] [] (λj:Nat=>[(8,.d (.int .i64 j))]) (λ_=>[]) (λj=>j<=ns.length/\∀ s∈ns.take j,s∈A) (λj=>ns.length - j) 0 ⟨Ai _,by simp⟩ λj ⟨hj,hin⟩=>?_;dsimp only[Ac,Ad];rcases Ah j ns.length with hj2|hj2
 ·have hget:((ns++rest).map D.str)[0+j]? =some (.str ns[j]):=by rw[Eu,Bs,Ep hj2,Ax hj2];rfl
  have c1:=ks7 gl A ns[j];by_cases hm:ns[j]∈A
  ·rw[Bm hm]at c1
   (repeat' first|apply Ca 14;(refine z_p (Io (i:=j) rfl rfl rfl rfl rfl rfl hj2) ?_)|apply Ca 15;(refine z_q (jd4 rfl rfl rfl hget (by first|exact Fy.agg _|constructor) rfl) ?_)|apply Ca 16;refine Ch (hc:=c1) ?_;try refine Ce ?_ ?_<;>intro hb|refine yyp ?_;try refine Ce ?_ ?_<;>intro hb|refine yy ?_|apply ah;refine Cc Vb ?_|refine Cb λK hK=>?_|apply_assumption -exfalso -symm)
   refine⟨j+1,⟨by omega,λs hs=>?_⟩,by omega,r9⟩;rw[Ao hj2,Bi,Bu]at hs;rcases hs with hs|rfl
   ·exact hin s hs
   ·exact hm
  ·rw[Bn hm]at c1
   (repeat' first|apply Ca 14;(refine z_p (Io (i:=j) rfl rfl rfl rfl rfl rfl hj2) ?_)|apply Ca 15;(refine z_q (jd4 rfl rfl rfl hget (by first|exact Fy.agg _|constructor) rfl) ?_)|apply Ca 16;refine Ch (hc:=c1) ?_;try refine Ce ?_ ?_<;>intro hb|refine yyp ?_;try refine Ce ?_ ?_<;>intro hb|refine yy ?_|apply ah;refine Cc Vb ?_|refine Cb λK hK=>?_|apply_assumption -exfalso -symm)
   exact j1 (j6 ⟨(j:Nat),.inr ⟨j,rfl,hj2,λ_=>hm,hin⟩,rfl,rfl⟩)
 ·rw[Am hj2]at hin
  (repeat' first|refine yyp ?_;try refine Ce ?_ ?_<;>intro hb|refine yy ?_|apply ah;refine Cc Vb ?_|refine Cb λK hK=>?_|apply_assumption -exfalso -symm)
  exact j1 (j6 ⟨-1,.inl ⟨rfl,hin⟩,rfl,rfl⟩)
theorem rr3 (A ns rest:List ByteArray)(hn:ns.length<=1000000000):FnE prog gl 25 [.win 951 0 0 ns.length,.clo (.func 27) [] [.ptr 1007 0]] [(951,.row 9 1 false ((ns++rest).map .str) 0),(1007,.box [.d (.map (Di A) (Dj A))])] (λv H1=>∃ L:List ByteArray,((jk2 A ns).length<=L.length/\L.take (jk2 A ns).length=jk2 A ns)/\v=.win 951 0 0 (jk2 A ns).length/\H1=[(951,.row 9 1 false (L.map .str) 0),(1007,.box [.d (.map (Di A) (Dj A))])]):=by
 have c1:=rb7 gl A ns rest hn
 (refine j2 func25 ntmps25 results25 λw M E b0=>?_)
 ((repeat' first|apply Ca 10;(refine Ga (hc:=c1) ?_;rintro kx hkx)|apply Cf 2;refine halt ?_|refine yyp ?_;try refine Ce ?_ ?_<;>intro hb|refine yy ?_|apply ah;refine Cc Sk ?_|refine Cb λK hK=>?_|apply_assumption -exfalso -symm);all_goals try refine unhalt ?_)
 rcases hkx with ⟨rfl,hall⟩|⟨i0,rfl,hi0,hni,htk⟩
 ·(repeat' first|refine yyp ?_;try refine Ce ?_ ?_<;>intro hb|refine yy ?_|apply ah;refine Cc Sk ?_|refine Cb λK hK=>?_|apply_assumption -exfalso -symm)
  refine j1 (ja6 ⟨ns++rest,⟨?_,?_⟩,?_,rfl⟩)
  ·rw[jl9 hall];simp
  ·rw[jl9 hall];simp
  ·rw[jl9 hall];rfl
 ·have hst:=Ro.start rest hi0 (hni hi0) htk
  (repeat' first|refine yyp ?_;try refine Ce ?_ ?_<;>intro hb|refine yy ?_|apply ah;refine Cc Sk ?_|refine Cb λK hK=>?_|apply_assumption -exfalso -symm)
  refine j9 [5,6,7,16,17,18,19,20,21,22,23,24,25,26,27,28,29,30,31,32,33,34,35] [951] (λx:Nat × Nat × List ByteArray=>[(6,.d (.int .i64 x.1)),(5,.d (.int .i64 x.2.1))]) (λx=>[(951,.row 9 1 false (x.2.2.map .str) 0)]) (λx=>Ro A ns rest x.1 x.2.1 x.2.2) (λx=>ns.length - x.1) (i0+1,i0,ns++rest) hst λ⟨j,i,L⟩ hP=>?_;dsimp only[Ac,Ad]at hP ⊢;have q1:=hP.lt;have q2:=hP.le;have q3:=hP.len;rw[Ag]at q3;rcases Ah j ns.length with hj2|hj2
  ·have hget:(L.map D.str)[0+j]? =some (.str ns[j]):=by rw[Eu,Bs,hP.get hj2];rfl
   have c2:=ks7 gl A ns[j];by_cases hm:ns[j]∈A
   ·rw[Bm hm]at c2
    (repeat' first|apply Ca 18;(refine z_p (je9 rfl rfl rfl) ?_)|apply Ca 24;(refine z_p (Io (i:=j) rfl rfl rfl rfl rfl rfl hj2) ?_)|apply Ca 25;(refine z_q (jd4 rfl rfl rfl hget (by first|exact Fy.agg _|constructor) rfl) ?_)|apply Ca 28;refine Ch (hc:=c2) ?_;try refine Ce ?_ ?_<;>intro hb|apply Ca 33;(refine z_p (Io (i:=i) rfl rfl rfl rfl rfl rfl (by omega)) ?_)|refine yyp ?_;try refine Ce ?_ ?_<;>intro hb|refine yy ?_|apply ah;refine Cc Sk ?_|refine Cb λK hK=>?_|apply_assumption -exfalso -symm)
    refine⟨(j+1,i+1,L.set i ns[j]),hP.yes hj2 hm,by dsimp only;omega,?_⟩;dsimp only;rw[List.map_set];simp only[Eu];exact r9
   ·rw[Bn hm]at c2
    (repeat' first|apply Ca 18;(refine z_p (je9 rfl rfl rfl) ?_)|apply Ca 24;(refine z_p (Io (i:=j) rfl rfl rfl rfl rfl rfl hj2) ?_)|apply Ca 25;(refine z_q (jd4 rfl rfl rfl hget (by first|exact Fy.agg _|constructor) rfl) ?_)|apply Ca 28;refine Ch (hc:=c2) ?_;try refine Ce ?_ ?_<;>intro hb|refine yyp ?_;try refine Ce ?_ ?_<;>intro hb|refine yy ?_|apply ah;refine Cc Sk ?_|refine Cb λK hK=>?_|apply_assumption -exfalso -symm)
    exact⟨(j+1,i,L),hP.no hj2 hm,by dsimp only;omega,r9⟩
  ·obtain rfl:j=ns.length:=by omega
   have ht:=hP.take;rw[Bk]at ht;have hil:i=(jk2 A ns).length:=by rw[<-ht,Ak];omega
   (repeat' first|apply Ca 18;(refine z_p (je9 rfl rfl rfl) ?_)|apply Ca 38;(refine z_p (mp2 (l:=i) rfl rfl rfl rfl rfl rfl (by omega)) ?_)|refine jg0 3 ?_;(refine qp0 ?_ (hle:=by rw[Aa];omega))|apply Ca 41;(refine z_p (mp3 (l:=i) rfl rfl rfl rfl rfl rfl (by omega)) ?_)|refine yyp ?_;try refine Ce ?_ ?_<;>intro hb|refine yy ?_|apply ah;refine Cc Sk ?_|refine Cb λK hK=>?_|apply_assumption -exfalso -symm)
   have hrow:List.take (0+i) (List.map D.str L)++List.replicate (ns.length - i) (D.str ByteArray.empty)++List.drop (0+i+(ns.length - i)) (List.map D.str L)=(L.take i++List.replicate (ns.length - i) ByteArray.empty++L.drop (i+(ns.length - i))).map D.str:=by
    simp only[Eu,Ar,Ek,List.map_drop,List.map_replicate]
   rw[hrow];refine j1 (ja6 ⟨_,⟨?_,?_⟩,?_,rfl⟩)
   ·rw[<-hil];simp only[Ag,Ak];omega
   ·rw[<-hil,Ea,List.take_append_of_le_length (by rw[Ak];omega),List.take_take,Nat.min_self,ht]
   ·rw[<-hil];rfl
theorem qq5 (p:Pr)(h0:Im p=0):FnD prog (glS mm) 9 [.d (dPr p)] (λv=>v=.d (.list 1 ((jk2 (jv4 (n5 (w0 p) (Fz p)) (Fz p)) (Db p)).map .str))):=by
 have na:=kg7 h0;have c1:=ky8 (mm:=mm) p h0;have c2:=λ(ω:Wd) (h:Rank ω.is)=>ky3 (glS mm) ω h (Fz p) (jj8 na.mayq).1;have c3:=λA rest=>rr3 (glS mm) A (Db p) rest (ky7 na.may);simp only[v6]at c1 c2 ⊢;dsimp only[HA]at c1 c2
 (refine j5 func9 ntmps9 results9 λw M=>?_)
 (repeat' first|apply Ca 1;(refine Cm 1 ?_)|apply Ca 11;(refine Ga (hc:=c1) ?_;rintro⟨rest,ω⟩ ⟨hω,hR⟩)|apply Ca 4;(refine j3 4 ?_)|apply Ca 21;(refine Ga (hc:=c2 ω hR.rank) ?_;rintro⟨A,B⟩ ⟨hA,hB⟩)|apply Ca 8;(refine j3 1007 ?_)|apply Ca 26;(refine Ga (hc:=c3 _ _) ?_;rintro L ⟨hL1,hL2⟩)|refine yyp ?_|refine yy ?_|apply ah;refine Cc [0,1,2,3,4,5,6,8,17] ?_|refine Cb λK hK=>?_|apply_assumption -exfalso -symm)
 refine jm1 (rf5 2 rfl rfl (by rw[Aa];omega)) ?_;refine j1 (j8 ?_);have hAA:∀ s,s∈B↔s∈jv4 (n5 (w0 p) (Fz p)) (Fz p):=λs=>(hB s).trans (hω.wr _ s);rw[Ew,<-Ek,hL2,ks6 hAA];rfl
theorem qa0 (p:Pr)(h0:Im p≠0):FnD prog (glS mm) 9 [.d (dPr p)] (λv=>v=.d (.list 1 [])):=by
 have c1:=km8 (mm:=mm) p h0;simp only[v6]at c1 ⊢
 (refine j5 func9 ntmps9 results9 λw M=>?_)
 (repeat' first|apply Ca 1;(refine Cm 1 ?_)|apply Ca 11;refine Ch (hc:=c1) ?_|apply Ca 4;(refine j3 4 ?_)|refine yyp ?_;try refine Ce ?_ ?_<;>intro hb|refine yy ?_|apply ah;refine Cc [0,1,2,3,4,5,6,8,17] ?_|refine Cb λK hK=>?_|apply_assumption -exfalso -symm)
 all_goals first
  |(exfalso;omega)
  |(refine j1 (j8 ?_)
    rfl)
end Al
end
section
namespace Al
open Lx Sc
theorem jv9 {w v:Wd}(h:Sim w v)(l:List Ex):Ir w l=Ir v l:=by
 unfold Ir;rw[h.is]
theorem jt4 {w v:Wd}(h:Sim w v)(sk:Int)(se:Ex)(a:Pr):Ja w sk se a=Ja v sk se a:=by
 unfold Ja;rw[jv9 h,jv9 h,jk1 (h.wr a),jk1 (h.wr a)];have:decide (se.s∈jc4 w a)=decide (se.s∈jc4 v a):=decide_eq_decide.2 (h.occ a se.s);rw[this]
theorem ks8 {w v:Wd}(h:Sim w v):∀ (fs:List Fo) (l:List Ex) (vars vals:List ByteArray),Le w fs l vars vals=Le v fs l vars vals
 |[],l,vars,vals=>by simp[Le]
 |f::fs,[],vars,vals=>by simp[Le]
 |f::fs,e::l,vars,vals=>by
  simp only[Le,h.is,jv9 h,ks8 h fs l]
theorem jz4 {w v:Wd}(h:Sim w v)(name:ByteArray)(l:List Ex):Ow w name l=Ow v name l:=by
 unfold Ow;have hs:=h.ay.at name;generalize at1 name w.ay=a at hs ⊢;generalize at1 name v.ay=b at hs ⊢;cases hs with
 |none=>rfl
 |@some a b hf ho hw=>
  dsimp only;rw[ks8 h,hf];cases Le v b.ax l [] []with
  |none=>rfl
  |some x=>
   obtain⟨vars,vals⟩:=x;dsimp only;have h1:jd3 vars (a.occ.map (Dq w.is))=jd3 vars (b.occ.map (Dq v.is)):=by
    rw[En];unfold jd3;simp only[Et,Bx,h.is,ho]
   rw[h1,jk1 hw]
theorem jz5 {w v:Wd}(h:Sim w v):∀ (m:List ByteArray) (l:List Ex),Jm w m l=Jm v m l
 |m,[]=>by simp[Jm]
 |m,e::l=>by simp only[Jm,h.is,jz5 h _ l]
theorem kc5 {w v:Wd}(h:Sim w v)(l:List Ex):Nl w l=Nl v l:=by
 unfold Nl;rw[jz5 h]
theorem va7 {w v:Wd}(h:Sim w v):∀ (n:Nat) (p:Pr),SizeOf.sizeOf p<=n->brB w p=brB v p:=by
 intro n
 induction n with
 |zero=>intro p h;cases p;simp only[Pr.mk.sizeOf_spec]at h;omega
 |succ n ih=>
  intro p hp;rw[En,mt8,mt8,jt4 h,jz4 h,kc5 h];simp only[kc5 h];refine or_congr .rfl (or_congr .rfl (or_congr .rfl (or_congr .rfl ⟨?_,?_⟩)))
  ·rintro⟨q,hq,hs⟩;exact⟨q,hq,by rw[<-ih q (by have:=jb6 hq;omega)];exact hs⟩
  ·rintro⟨q,hq,hs⟩;exact⟨q,hq,by rw[ih q (by have:=jb6 hq;omega)];exact hs⟩
theorem Sim.br {w v:Wd}(h:Sim w v)(p:Pr):brB w p=brB v p:=va7 h _ p (Au _)
noncomputable def kz4 (p:Pr):List ByteArray:=if Im p=0 then jk2 (jc4 (n5 (w0 p) (Fz p)) (Fz p)) (Db p) else []
noncomputable def kg8 (p:Pr):List ByteArray:=if Im p=0 then jk2 (jv4 (n5 (w0 p) (Fz p)) (Fz p)) (Db p) else []
noncomputable def jh7 (p:Pr):Int:=if Im p=0 then (if brB (n5 (w0 p) (Fz p)) (Fz p)=true then 150 else 0) else Im p
end Al
end
section
variable {mm:Int}
namespace Al
open Lx Sc
theorem qq6 (p:Pr):FnD prog (glS mm) 8 [.d (dPr p)] (λv=>v=.d (.list 1 ((kz4 p).map .str))):=by
 unfold kz4;by_cases h:Im p=0
 ·rw[Ae h];exact rb6 p h
 ·rw[Af h];exact qq4 p h
theorem qa1 (p:Pr):FnD prog (glS mm) 9 [.d (dPr p)] (λv=>v=.d (.list 1 ((kg8 p).map .str))):=by
 unfold kg8;by_cases h:Im p=0
 ·rw[Ae h];exact qq5 p h
 ·rw[Af h];exact qa0 p h
noncomputable def vh3 (p:Pr):Wd:=n5 (w0 p) (Fz p)
theorem va8 {w v:Wd}(h:Sim w v){p q:Pr}{n:ByteArray}(k:Nm w p q n):Nm v p q n:=by
 induction k with
 |spec h1 hn=>exact .spec (by rwa [jt4 h]at h1) hn
 |call h1 h2=>exact .call (by rwa [jt4 h]at h1) (by rwa [jz4 h]at h2)
 |tgt h1 h2 h3 he=>exact .tgt (by rwa [jt4 h]at h1) (by rwa [jz4 h]at h2) (by rwa [jz5 h]at h3) he
 |gu h1 h2 h3 hy hg e1 e2 e3 e4=>exact .gu (by rwa [jt4 h]at h1) (by rwa [jz4 h]at h2) (by rwa [kc5 h]at h3) (λy hm=>by rw[<-h.br];exact hy y hm) (λj g hj hq=>by rw[<-kc5 h];exact hg j g hj hq) e1 (by rwa [jz5 h]at e2) e3 e4
 |part h1 h2 h3 hy hg e1 e2 hb _ ih=>exact .part (by rwa [jt4 h]at h1) (by rwa [jz4 h]at h2) (by rwa [kc5 h]at h3) (λy hm=>by rw[<-h.br];exact hy y hm) (λj g hj hq=>by rw[<-kc5 h];exact hg j g hj hq) e1 e2 (by rw[<-h.br];exact hb) ih
theorem jn5 (p:Pr):FnD prog (glS mm) 13 [.d (dPr p)] (λv=>∃ n:ByteArray,((jh7 p=150->Im p=0->Nm (vh3 p) p (Fz p) n)/\(jh7 p≠150->n=ByteArray.empty))/\v=.tup [.d (.str n),.d (.int .i64 (jh7 p))]):=by
 unfold jh7;by_cases h:Im p=0
 ·rw[Ae h];refine(qo8 p h).mono ?_;rintro v ⟨n,ω,hω,hn,rfl⟩;rw[hω.br (Fz p)];by_cases hb:brB (n5 (w0 p) (Fz p)) (Fz p)=true
  ·rw[Ae hb,Ae hb];exact⟨n,⟨λ_ _=>va8 hω (hn (by rw[hω.br];exact hb)),λh=>absurd rfl h⟩,rfl⟩
  ·rw[Af hb,Af hb];exact⟨ByteArray.empty,⟨λh=>absurd h (by decide),λ_=>rfl⟩,rfl⟩
 ·rw[Af h];refine(mz4 p h).mono ?_;rintro v rfl;exact⟨ByteArray.empty,⟨λ_ h2=>absurd h2 h,λ_=>rfl⟩,rfl⟩
end Al
end
section
namespace Al
attribute [local irreducible] TR TC
theorem qa2 (p:Pr):FnD prog gl 6 [.d (dPr p)] (λv=>v=.d (.bool (decide (120<IntKind.i64.wrap (Sc.Kh p))))):=by
 have c:=qk0 gl _ p (Au _);rw[v6]at c ⊢
 (refine j5 func6 ntmps6 results6 λw M=>?_)
 (repeat' first|apply Ca 1;(refine Cm 1 ?_)|refine yyp ?_;try refine Ce ?_ ?_<;>intro hb|refine yy ?_|refine yy2 ?_ ?_<;>intro hcmp|apply Cg 21;refine Ci (hc:=c) ?_|apply ah;refine Cc [0,1,2,3,4,5] ?_|refine Cb λK hK=>?_|apply_assumption -exfalso -symm)
 all_goals
  (refine j1 (j8 ?_))
  simp[aF, *]
def Cu (s:ByteArray):Ex:=.mk 4 0 0 0 s []
def l7 (n:Int):Ex:=.mk 1 0 0 n ByteArray.empty []
theorem mh0 (s:ByteArray):FnD prog gl 22 [.d (.str s)] (λv=>v=.d (dEx (Cu s))):=by
 rw[k9]
 (refine j5 func22 ntmps22 results22 λw M=>?_)
 (repeat' first|apply Ca 2;(refine j3 2 ?_)|apply Ca 4;refine z_p Cq ?_|refine yyp ?_;try refine Ce ?_ ?_<;>intro hb|refine yy ?_|apply ah;refine Cc [0,2,3,4,28] ?_|refine Cb λK hK=>?_|apply_assumption -exfalso -symm)
 (refine j1 (j8 ?_))
 rfl
theorem mo2 (n:Int):FnD prog gl 20 [.d (.int .i32 n)] (λv=>v=.d (dEx (l7 n))):=by
 rw[k9]
 (refine j5 func20 ntmps20 results20 λw M=>?_)
 (repeat' first|apply Ca 2;(refine j3 2 ?_)|apply Ca 4;refine z_p Cq ?_|refine yyp ?_;try refine Ce ?_ ?_<;>intro hb|refine yy ?_|apply ah;refine Cc [0,2,3,4,28] ?_|refine Cb λK hK=>?_|apply_assumption -exfalso -symm)
 (refine j1 (j8 ?_))
 rfl
def Dy (x:ByteArray)(e:Ex):Pr:=.mk 3 ByteArray.empty ex0 [Cu x] [e] rp0 [] [] [] sp0
def Je (kind:Int)(x:ByteArray)(e:Ex)(p:Pr):Pr:=.mk 18 ByteArray.empty ex0 [] [] rp0 [] [p] [] (.mk kind (.mk 1 0 0 ByteArray.empty) [x] e pt0 [] [])
theorem va9 (x:ByteArray)(e:Ex):dP (Dy x e)=.agg ([.int .u8 3,.str ByteArray.empty,
 .int .u8 0,.int .u8 0,.int .u8 0,.int .i32 0,.str ByteArray.empty,.list 6 [],
 .list 6 [dE (Cu x)],.list 6 [dE e],
 .str ByteArray.empty,.int .u8 0,.int .u8 0,.int .u8 0,.int .i32 0,.str ByteArray.empty,.list 6 [],
 .int .u8 0,.int .u8 0,.int .u8 0,.int .i32 0,.str ByteArray.empty,.list 6 [],
 .list 23 [],.list 42 [],.list 1 [],
 .int .u8 0,.int .u8 0,.int .i64 0,.int .u8 0,.str ByteArray.empty,.list 1 [],
 .int .u8 0,.int .u8 0,.int .u8 0,.int .i32 0,.str ByteArray.empty,.list 6 [],
 .bool false,.list 2 [],.list 6 [],.list 42 []]):=by
 have h1:(Dy x e).aj.map dEx=[dE (Cu x)]:=by rw[k9];rfl
 have h2:(Dy x e).au.map dEx=[dE e]:=by rw[k9];rfl
 unfold dP;rw[h1,h2];rfl
theorem kn3 (x:ByteArray)(e:Ex):FnD prog gl 19 [.d (.str x),.d (dEx e)] (λv=>v=.d (dPr (Dy x e))):=by
 have c1:=mh0 gl x;rw[v6,va9];rw[k9]at c1 ⊢
 (refine j5 func19 ntmps19 results19 λw M=>?_)
 (repeat' first|apply Ca 3;(refine Cm 3 ?_)|apply Ca 4;(refine j3 4 ?_)|refine yy ?_|apply ah;refine Cc [0,1,3,4,5,6,7,45] ?_|(apply Gn (x:=.region 1 _ _);focus ((apply Cf 1;refine j0 [6] q0a ?_);(repeat' (first|apply Ca 9;(refine Df 9 ?_)|apply Ca 7;(refine Df 7 ?_)|apply Ca 10;refine z_p Cq ?_|refine yyp ?_|refine yy ?_|apply Cg 22;refine Ci (hc:=c1) ?_|apply ah;refine Cc [0,1,3,4,5,6,7,45] ?_|refine ju0 ?_ ?_));(all_goals first|exact Wk.refl _ _|exact r9);done))|refine Cb λK hK=>?_|apply Cf 1;refine j0 [6] q0a ?_|apply_assumption -exfalso -symm)
 all_goals
  (refine j1 (j8 ?_))
  rfl
theorem vf8 (kind:Int)(x:ByteArray)(e:Ex)(p:Pr):dP (Je kind x e p)=.agg ([.int .u8 18,.str ByteArray.empty,
 .int .u8 0,.int .u8 0,.int .u8 0,.int .i32 0,.str ByteArray.empty,.list 6 [],
 .list 6 [],.list 6 [],
 .str ByteArray.empty,.int .u8 0,.int .u8 0,.int .u8 0,.int .i32 0,.str ByteArray.empty,.list 6 [],
 .int .u8 0,.int .u8 0,.int .u8 0,.int .i32 0,.str ByteArray.empty,.list 6 [],
 .list 23 [],.list 42 [dP p],.list 1 [],
 .int .u8 kind,.int .u8 1,.int .i64 0,.int .u8 0,.str ByteArray.empty,.list 1 [.str x],
 .int .u8 e.kind,.int .u8 e.op,.int .u8 e.ty,.int .i32 e.n,.str e.s,.list 6 (e.l.map dEx),
 .bool false,.list 2 [],.list 6 [],.list 42 []]):=by
 have h:(Je kind x e p).l.map dPr=[dP p]:=by rw[v6];rfl
 unfold dP;rw[h];rfl
theorem mo3 (kind:Int)(x:ByteArray)(e:Ex)(p:Pr):FnD prog gl 17 [.d (.int .u8 kind),.d (.str x),.d (dEx e),.d (dPr p)] (λv=>v=.d (dPr (Je kind x e p))):=by
 simp only[v6];rw[vf8,show dEx e=dE e from congrFun k9 e]
 (refine j5 func17 ntmps17 results17 λw M=>?_)
 (repeat' first|apply Ca 6;(refine Cm 6 ?_)|apply Ca 7;(refine Cm 7 ?_)|apply Ca 8;(refine j3 8 ?_)|apply Ca 12;(refine Df 12 ?_)|apply Ca 16;(refine Df 16 ?_)|apply Ca 17;refine z_p Cq ?_|refine yyp ?_;try refine Ce ?_ ?_<;>intro hb|refine yy ?_|apply ah;refine Cc [0,1,2,3,6,7,8,9,45] ?_|refine Cb λK hK=>?_|apply_assumption -exfalso -symm)
 all_goals
  (refine j1 (j8 ?_))
  rfl
end Al
end
end Go.Proofs.YtklklgfpkpglgaaGreatDoor
