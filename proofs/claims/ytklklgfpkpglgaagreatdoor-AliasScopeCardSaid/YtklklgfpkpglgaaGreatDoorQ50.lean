/- Parts. -/
import Derived.Test.YtklklgfpkpglgaaGreatDoorQ49
set_option linter.all false
set_option maxRecDepth 100000
set_option maxHeartbeats 0
namespace Go.Proofs.YtklklgfpkpglgaaGreatDoor
open Go.RowKit Go.Proofs.Tryz
variable (gl:List (Nat × List D))
section
variable {mm:Int}
namespace Al
open Lx Sc
theorem ku3 {A B:List ByteArray}(h:∀ s,s∈A↔s∈B)(ns:List ByteArray):je6 A ns=je6 B ns:=by
 unfold je6;congr 1;funext s;exact decide_eq_decide.2 (h s)
attribute [local irreducible] TR TC
theorem rj4 (p:Pr)(h0:Gn p=0):FnD prog (glS mm) 8 [.d (dPr p)] (λv=>v=.d (.list 1 ((je6 (jb5 (z1 (w0 p) (Dg p)) (Dg p)) (Cy p)).map .str))):=by
 have na:=jy7 h0;have c1:=ma8 (mm:=mm) p h0;have c2:=λ(ω:Wd) (h:Rank ω.is)=>ma3 (glS mm) ω h (Dg p) (je8 na.mayq).1;have c3:=λA rest=>vk3 (glS mm) A (Cy p) rest (ma7 na.may);simp only[v7]at c1 c2 ⊢;dsimp only[HA]at c1 c2
 (refine j4 func8 ntmps8 results8 λw M=>?_)
 (repeat' first|apply Ca 1;(refine Ck 1 ?_)|apply Ca 11;(refine Fy (hc:=c1) ?_;rintro⟨rest,ω⟩ ⟨hω,hR⟩)|apply Ca 4;(refine j2 4 ?_)|apply Ca 21;(refine Fy (hc:=c2 ω hR.rank) ?_;rintro⟨A,B⟩ ⟨hA,hB⟩)|apply Ca 7;(refine j2 1007 ?_)|apply Ca 26;(refine Fy (hc:=c3 _ _) ?_;rintro L ⟨hL1,hL2⟩)|refine yyp ?_|refine yy ?_|apply ah;refine Cc [0,1,2,3,4,5,6,7,17] ?_|refine Cb λK hK=>?_|apply_assumption -exfalso -symm)
 refine jl3 (ro1 2 rfl rfl (by rw[Ab];omega)) ?_;refine j1 (j7 ?_);have hAA:∀ s,s∈A↔s∈jb5 (z1 (w0 p) (Dg p)) (Dg p):=λs=>(hA s).trans (hω.occ _ s);rw[Ew,<-Fc,hL2,ku3 hAA];rfl
theorem qw0 (p:Pr)(h0:Gn p≠0):FnD prog (glS mm) 8 [.d (dPr p)] (λv=>v=.d (.list 1 [])):=by
 have c1:=kn7 (mm:=mm) p h0;simp only[v7]at c1 ⊢
 (refine j4 func8 ntmps8 results8 λw M=>?_)
 (repeat' first|apply Ca 1;(refine Ck 1 ?_)|apply Ca 11;refine Ch (hc:=c1) ?_|apply Ca 4;(refine j2 4 ?_)|refine yyp ?_;try refine Ce ?_ ?_<;>intro hb|refine yy ?_|apply ah;refine Cc [0,1,2,3,4,5,6,7,17] ?_|refine Cb λK hK=>?_|apply_assumption -exfalso -symm)
 all_goals first
  |(exfalso;omega)
  |(refine j1 (j7 ?_)
    rfl)
end Al
end
section
def Uz:List Nat:=[0,1,4,5,6,7,8,9,16]
def Rz:List Nat:=[0,1,4,5,6,7,12,19,29]
variable {mm:Int}
namespace Al
open Lx Sc
attribute [local irreducible] TR TC
theorem ku4 (A:List ByteArray)(s:ByteArray):FnE prog gl 27 [.d (.str s),.ptr 1007 0] [(1007,.box [.d (.map (Dl A) (Dn A))])] (λv H1=>v=.d (.bool (!decide (s∈A)))/\H1=[(1007,.box [.d (.map (Dl A) (Dn A))])]):=by
 (refine j3 func27 ntmps27 results27 λw M E b0=>?_)
 (repeat' first|apply Ca 6;(refine jm2 (λhin=>?_) (λhin=>?_))|refine yyp ?_|refine yy ?_|apply ah;refine Cc [0,1,3,4,5,6] ?_|refine Cb λK hK=>?_|apply_assumption -exfalso -symm)
 ·(refine j1 (j8 ⟨?_,rfl⟩))
  rw[Bm hin];rfl
 ·(refine j1 (j8 ⟨?_,rfl⟩))
  rw[Bl hin];rfl
theorem rj5 (A ns rest:List ByteArray)(hn:ns.length<=1000000000):FnE prog gl 44 [.win 951 0 0 ns.length,.clo (.func 27) [] [.ptr 1007 0]] [(951,.row 9 1 false ((ns++rest).map .str) 0),(1007,.box [.d (.map (Dl A) (Dn A))])] (λv H1=>∃ k:Int,vu0 A ns k/\v=.d (.int .i64 k)/\H1=[(951,.row 9 1 false ((ns++rest).map .str) 0),(1007,.box [.d (.map (Dl A) (Dn A))])]):=by
 (refine j3 func44 ntmps44 results44 λw M E b0=>?_)
 (repeat' first|apply Ca 7;(refine z_p (je7 rfl rfl rfl) ?_)|refine yyp ?_;try refine Ce ?_ ?_<;>intro hb|refine yy ?_|apply ah;refine Cc Uz ?_|refine Cb λK hK=>?_|apply_assumption -exfalso -symm)
 refine k9 [4,5,8,9,10,11,12,13,14,15,16,17,18] [] (λj:Nat=>[(8,.d (.int .i64 j))]) (λ_=>[]) (λj=>j<=ns.length/\∀ s∈ns.take j,s∈A) (λj=>ns.length - j) 0 ⟨Ak _,by simp⟩ λj ⟨hj,hin⟩=>?_;dsimp only[Ac,Ae];rcases Ai j ns.length with hj2|hj2
 ·have hget:((ns++rest).map D.str)[0+j]? =some (.str ns[j]):=by rw[Es,Bp,En hj2,Ar hj2];rfl
  have c1:=ku4 gl A ns[j];by_cases hm:ns[j]∈A
  ·rw[Bm hm]at c1
   (repeat' first|apply Ca 14;(refine z_p (Ie (i:=j) rfl rfl rfl rfl rfl rfl hj2) ?_)|apply Ca 15;(refine z_q (jc8 rfl rfl rfl hget (by first|exact Fv.agg _|constructor) rfl) ?_)|apply Ca 16;refine Ch (hc:=c1) ?_;try refine Ce ?_ ?_<;>intro hb|refine yyp ?_;try refine Ce ?_ ?_<;>intro hb|refine yy ?_|apply ah;refine Cc Uz ?_|refine Cb λK hK=>?_|apply_assumption -exfalso -symm)
   refine⟨j+1,⟨by omega,λs hs=>?_⟩,by omega,v6⟩;rw[An hj2,Au,Bs]at hs;rcases hs with hs|rfl
   ·exact hin s hs
   ·exact hm
  ·rw[Bl hm]at c1
   (repeat' first|apply Ca 14;(refine z_p (Ie (i:=j) rfl rfl rfl rfl rfl rfl hj2) ?_)|apply Ca 15;(refine z_q (jc8 rfl rfl rfl hget (by first|exact Fv.agg _|constructor) rfl) ?_)|apply Ca 16;refine Ch (hc:=c1) ?_;try refine Ce ?_ ?_<;>intro hb|refine yyp ?_;try refine Ce ?_ ?_<;>intro hb|refine yy ?_|apply ah;refine Cc Uz ?_|refine Cb λK hK=>?_|apply_assumption -exfalso -symm)
   exact j1 (j8 ⟨(j:Nat),.inr ⟨j,rfl,hj2,λ_=>hm,hin⟩,rfl,rfl⟩)
 ·rw[Ba hj2]at hin
  (repeat' first|refine yyp ?_;try refine Ce ?_ ?_<;>intro hb|refine yy ?_|apply ah;refine Cc Uz ?_|refine Cb λK hK=>?_|apply_assumption -exfalso -symm)
  exact j1 (j8 ⟨-1,.inl ⟨rfl,hin⟩,rfl,rfl⟩)
theorem va9 (A ns rest:List ByteArray)(hn:ns.length<=1000000000):FnE prog gl 25 [.win 951 0 0 ns.length,.clo (.func 27) [] [.ptr 1007 0]] [(951,.row 9 1 false ((ns++rest).map .str) 0),(1007,.box [.d (.map (Dl A) (Dn A))])] (λv H1=>∃ L:List ByteArray,((je6 A ns).length<=L.length/\L.take (je6 A ns).length=je6 A ns)/\v=.win 951 0 0 (je6 A ns).length/\H1=[(951,.row 9 1 false (L.map .str) 0),(1007,.box [.d (.map (Dl A) (Dn A))])]):=by
 have c1:=rj5 gl A ns rest hn
 (refine j3 func25 ntmps25 results25 λw M E b0=>?_)
 ((repeat' first|apply Ca 10;(refine Fy (hc:=c1) ?_;rintro kx hkx)|apply Cg 2;refine halt ?_|refine yyp ?_;try refine Ce ?_ ?_<;>intro hb|refine yy ?_|apply ah;refine Cc Rz ?_|refine Cb λK hK=>?_|apply_assumption -exfalso -symm);all_goals try refine unhalt ?_)
 rcases hkx with ⟨rfl,hall⟩|⟨i0,rfl,hi0,hni,htk⟩
 ·(repeat' first|refine yyp ?_;try refine Ce ?_ ?_<;>intro hb|refine yy ?_|apply ah;refine Cc Rz ?_|refine Cb λK hK=>?_|apply_assumption -exfalso -symm)
  refine j1 (ja3 ⟨ns++rest,⟨?_,?_⟩,?_,rfl⟩)
  ·rw[jl0 hall];simp
  ·rw[jl0 hall];simp
  ·rw[jl0 hall];rfl
 ·have hst:=Rb.start rest hi0 (hni hi0) htk
  (repeat' first|refine yyp ?_;try refine Ce ?_ ?_<;>intro hb|refine yy ?_|apply ah;refine Cc Rz ?_|refine Cb λK hK=>?_|apply_assumption -exfalso -symm)
  refine k9 [5,6,7,16,17,18,19,20,21,22,23,24,25,26,27,28,29,30,31,32,33,34,35] [951] (λx:Nat × Nat × List ByteArray=>[(6,.d (.int .i64 x.1)),(5,.d (.int .i64 x.2.1))]) (λx=>[(951,.row 9 1 false (x.2.2.map .str) 0)]) (λx=>Rb A ns rest x.1 x.2.1 x.2.2) (λx=>ns.length - x.1) (i0+1,i0,ns++rest) hst λ⟨j,i,L⟩ hP=>?_;dsimp only[Ac,Ae]at hP ⊢;have q1:=hP.lt;have q2:=hP.le;have q3:=hP.len;rw[Ag]at q3;rcases Ai j ns.length with hj2|hj2
  ·have hget:(L.map D.str)[0+j]? =some (.str ns[j]):=by rw[Es,Bp,hP.get hj2];rfl
   have c2:=ku4 gl A ns[j];by_cases hm:ns[j]∈A
   ·rw[Bm hm]at c2
    (repeat' first|apply Ca 18;(refine z_p (je7 rfl rfl rfl) ?_)|apply Ca 24;(refine z_p (Ie (i:=j) rfl rfl rfl rfl rfl rfl hj2) ?_)|apply Ca 25;(refine z_q (jc8 rfl rfl rfl hget (by first|exact Fv.agg _|constructor) rfl) ?_)|apply Ca 28;refine Ch (hc:=c2) ?_;try refine Ce ?_ ?_<;>intro hb|apply Ca 33;(refine z_p (Ie (i:=i) rfl rfl rfl rfl rfl rfl (by omega)) ?_)|refine yyp ?_;try refine Ce ?_ ?_<;>intro hb|refine yy ?_|apply ah;refine Cc Rz ?_|refine Cb λK hK=>?_|apply_assumption -exfalso -symm)
    refine⟨(j+1,i+1,L.set i ns[j]),hP.yes hj2 hm,by dsimp only;omega,?_⟩;dsimp only;rw[List.map_set];simp only[Es];exact v6
   ·rw[Bl hm]at c2
    (repeat' first|apply Ca 18;(refine z_p (je7 rfl rfl rfl) ?_)|apply Ca 24;(refine z_p (Ie (i:=j) rfl rfl rfl rfl rfl rfl hj2) ?_)|apply Ca 25;(refine z_q (jc8 rfl rfl rfl hget (by first|exact Fv.agg _|constructor) rfl) ?_)|apply Ca 28;refine Ch (hc:=c2) ?_;try refine Ce ?_ ?_<;>intro hb|refine yyp ?_;try refine Ce ?_ ?_<;>intro hb|refine yy ?_|apply ah;refine Cc Rz ?_|refine Cb λK hK=>?_|apply_assumption -exfalso -symm)
    exact⟨(j+1,i,L),hP.no hj2 hm,by dsimp only;omega,v6⟩
  ·obtain rfl:j=ns.length:=by omega
   have ht:=hP.take;rw[Bv]at ht;have hil:i=(je6 A ns).length:=by rw[<-ht,Aq];omega
   (repeat' first|apply Ca 18;(refine z_p (je7 rfl rfl rfl) ?_)|apply Ca 38;(refine z_p (ms1 (l:=i) rfl rfl rfl rfl rfl rfl (by omega)) ?_)|refine ke4 3 ?_;(refine qu5 ?_ (hle:=by rw[Ab];omega))|apply Ca 41;(refine z_p (ms3 (l:=i) rfl rfl rfl rfl rfl rfl (by omega)) ?_)|refine yyp ?_;try refine Ce ?_ ?_<;>intro hb|refine yy ?_|apply ah;refine Cc Rz ?_|refine Cb λK hK=>?_|apply_assumption -exfalso -symm)
   have hrow:List.take (0+i) (List.map D.str L)++List.replicate (ns.length - i) (D.str ByteArray.empty)++List.drop (0+i+(ns.length - i)) (List.map D.str L)=(L.take i++List.replicate (ns.length - i) ByteArray.empty++L.drop (i+(ns.length - i))).map D.str:=by
    simp only[Es,Av,Fc,List.map_drop,List.map_replicate]
   rw[hrow];refine j1 (ja3 ⟨_,⟨?_,?_⟩,?_,rfl⟩)
   ·rw[<-hil];simp only[Ag,Aq];omega
   ·rw[<-hil,Eg,List.take_append_of_le_length (by rw[Aq];omega),List.take_take,Nat.min_self,ht]
   ·rw[<-hil];rfl
theorem qw1 (p:Pr)(h0:Gn p=0):FnD prog (glS mm) 9 [.d (dPr p)] (λv=>v=.d (.list 1 ((je6 (jt1 (z1 (w0 p) (Dg p)) (Dg p)) (Cy p)).map .str))):=by
 have na:=jy7 h0;have c1:=ma8 (mm:=mm) p h0;have c2:=λ(ω:Wd) (h:Rank ω.is)=>ma3 (glS mm) ω h (Dg p) (je8 na.mayq).1;have c3:=λA rest=>va9 (glS mm) A (Cy p) rest (ma7 na.may);simp only[v7]at c1 c2 ⊢;dsimp only[HA]at c1 c2
 (refine j4 func9 ntmps9 results9 λw M=>?_)
 (repeat' first|apply Ca 1;(refine Ck 1 ?_)|apply Ca 11;(refine Fy (hc:=c1) ?_;rintro⟨rest,ω⟩ ⟨hω,hR⟩)|apply Ca 4;(refine j2 4 ?_)|apply Ca 21;(refine Fy (hc:=c2 ω hR.rank) ?_;rintro⟨A,B⟩ ⟨hA,hB⟩)|apply Ca 8;(refine j2 1007 ?_)|apply Ca 26;(refine Fy (hc:=c3 _ _) ?_;rintro L ⟨hL1,hL2⟩)|refine yyp ?_|refine yy ?_|apply ah;refine Cc [0,1,2,3,4,5,6,8,17] ?_|refine Cb λK hK=>?_|apply_assumption -exfalso -symm)
 refine jl3 (ro1 2 rfl rfl (by rw[Ab];omega)) ?_;refine j1 (j7 ?_);have hAA:∀ s,s∈B↔s∈jt1 (z1 (w0 p) (Dg p)) (Dg p):=λs=>(hB s).trans (hω.wr _ s);rw[Ew,<-Fc,hL2,ku3 hAA];rfl
theorem qe4 (p:Pr)(h0:Gn p≠0):FnD prog (glS mm) 9 [.d (dPr p)] (λv=>v=.d (.list 1 [])):=by
 have c1:=kn7 (mm:=mm) p h0;simp only[v7]at c1 ⊢
 (refine j4 func9 ntmps9 results9 λw M=>?_)
 (repeat' first|apply Ca 1;(refine Ck 1 ?_)|apply Ca 11;refine Ch (hc:=c1) ?_|apply Ca 4;(refine j2 4 ?_)|refine yyp ?_;try refine Ce ?_ ?_<;>intro hb|refine yy ?_|apply ah;refine Cc [0,1,2,3,4,5,6,8,17] ?_|refine Cb λK hK=>?_|apply_assumption -exfalso -symm)
 all_goals first
  |(exfalso;omega)
  |(refine j1 (j7 ?_)
    rfl)
end Al
end
section
namespace Al
open Lx Sc
theorem jv1 {w v:Wd}(h:Sim w v)(l:List Ex):Ib w l=Ib v l:=by
 unfold Ib;rw[h.is]
theorem js3 {w v:Wd}(h:Sim w v)(sk:Int)(se:Ex)(a:Pr):Ik w sk se a=Ik v sk se a:=by
 unfold Ik;rw[jv1 h,jv1 h,jj4 (h.wr a),jj4 (h.wr a)];have:decide (se.s∈jb5 w a)=decide (se.s∈jb5 v a):=decide_eq_decide.2 (h.occ a se.s);rw[this]
theorem ku5 {w v:Wd}(h:Sim w v):∀ (fs:List Fo) (l:List Ex) (vars vals:List ByteArray),Iu w fs l vars vals=Iu v fs l vars vals
 |[],l,vars,vals=>by simp[Iu]
 |f::fs,[],vars,vals=>by simp[Iu]
 |f::fs,e::l,vars,vals=>by
  simp only[Iu,h.is,jv1 h,ku5 h fs l]
theorem jz1 {w v:Wd}(h:Sim w v)(name:ByteArray)(l:List Ex):Li w name l=Li v name l:=by
 unfold Li;have hs:=h.ay.at name;generalize at1 name w.ay=a at hs ⊢;generalize at1 name v.ay=b at hs ⊢;cases hs with
 |none=>rfl
 |@some a b hf ho hw=>
  dsimp only;rw[ku5 h,hf];cases Iu v b.ax l [] []with
  |none=>rfl
  |some x=>
   obtain⟨vars,vals⟩:=x;dsimp only;have h1:jb9 vars (a.occ.map (Db w.is))=jb9 vars (b.occ.map (Db v.is)):=by
    rw[Ej];unfold jb9;simp only[Ek,Br,h.is,ho]
   rw[h1,jj4 hw]
theorem jz2 {w v:Wd}(h:Sim w v):∀ (m:List ByteArray) (l:List Ex),Ih w m l=Ih v m l
 |m,[]=>by simp[Ih]
 |m,e::l=>by simp only[Ih,h.is,jz2 h _ l]
theorem kb9 {w v:Wd}(h:Sim w v)(l:List Ex):Mc w l=Mc v l:=by
 unfold Mc;rw[jz2 h]
theorem vk6 {w v:Wd}(h:Sim w v):∀ (n:Nat) (p:Pr),SizeOf.sizeOf p<=n->brB w p=brB v p:=by
 intro n
 induction n with
 |zero=>intro p h;cases p;simp only[Pr.mk.sizeOf_spec]at h;omega
 |succ n ih=>
  intro p hp;rw[Ej,mx2,mx2,js3 h,jz1 h,kb9 h];simp only[kb9 h];refine or_congr .rfl (or_congr .rfl (or_congr .rfl (or_congr .rfl ⟨?_,?_⟩)))
  ·rintro⟨q,hq,hs⟩;exact⟨q,hq,by rw[<-ih q (by have:=jb0 hq;omega)];exact hs⟩
  ·rintro⟨q,hq,hs⟩;exact⟨q,hq,by rw[ih q (by have:=jb0 hq;omega)];exact hs⟩
theorem Sim.br {w v:Wd}(h:Sim w v)(p:Pr):brB w p=brB v p:=vk6 h _ p (Ap _)
mutual
theorem rq5:∀ p:Pr,Hz p->kt2 p
 |.mk kind name av aj au rep ak l ay (.mk sk st sn se spp sf sb),h=>by
  have hp:=jm3 h;have f:=jd7 hp;simp only[Hz]at h;simp only[kt2];refine⟨λe he=>jr9 (f.aj e he),λhk=>?_,mb4 sb h.2.1,qw2 ak h.2.2.1 f.gus,mb4 l h.2.2.2⟩;by_cases h18:kind=18
  ·exact jr9 ((jy2 (f.spec h18).2).e hk)
  ·have:=f.none h18;simp only[Pr.spec,sp0,Sp.mk.injEq]at this;omega
theorem mb4:∀ l:List Pr,ja1 l->jj1 l
 |[],_=>by simp[jj1]
 |p::l,h=>by
  simp only[ja1]at h;simp only[jj1];exact⟨rq5 p h.1,mb4 l h.2⟩
theorem qw2:∀ l:List Gu,je2 l->(∀ g∈l,Jr g=true)->jo1 l
 |[],_,_=>by simp[jo1]
 |.mk kind name cond av aj values time body::l,h,hg=>by
  simp only[je2]at h;simp only[jo1];exact⟨λe he=>jr9 ((kf7 (hg _ Aw)).aj e he),mb4 body h.1,qw2 l h.2 λg hm=>hg g (Ax _ hm)⟩
end
noncomputable def jq3 (p:Pr):List ByteArray:=if Gn p=0 then je6 (jb5 (z1 (w0 p) (Dg p)) (Dg p)) (Cy p) else []
noncomputable def jl1 (p:Pr):List ByteArray:=if Gn p=0 then je6 (jt1 (z1 (w0 p) (Dg p)) (Dg p)) (Cy p) else []
noncomputable def jh1 (p:Pr):Int:=if Gn p=0 then (if brB (z1 (w0 p) (Dg p)) (Dg p)=true then 150 else 0) else Gn p
end Al
end
section
variable {mm:Int}
namespace Al
open Lx Sc
theorem ko2 (p:Pr):FnD prog (glS mm) 8 [.d (dPr p)] (λv=>v=.d (.list 1 ((jq3 p).map .str))):=by
 unfold jq3;by_cases h:Gn p=0
 ·rw[Ad h];exact rj4 p h
 ·rw[Af h];exact qw0 p h
theorem kc0 (p:Pr):FnD prog (glS mm) 9 [.d (dPr p)] (λv=>v=.d (.list 1 ((jl1 p).map .str))):=by
 unfold jl1;by_cases h:Gn p=0
 ·rw[Ad h];exact qw1 p h
 ·rw[Af h];exact qe4 p h
noncomputable def mk1 (p:Pr):Wd:=z1 (w0 p) (Dg p)
theorem vk7 {w v:Wd}(h:Sim w v){p q:Pr}{n:ByteArray}(k:Nm w p q n):Nm v p q n:=by
 induction k with
 |spec h1 hn=>exact .spec (by rwa [js3 h]at h1) hn
 |call h1 h2=>exact .call (by rwa [js3 h]at h1) (by rwa [jz1 h]at h2)
 |tgt h1 h2 h3 he=>exact .tgt (by rwa [js3 h]at h1) (by rwa [jz1 h]at h2) (by rwa [jz2 h]at h3) he
 |gu h1 h2 h3 hy hg e1 e2 e3 e4=>exact .gu (by rwa [js3 h]at h1) (by rwa [jz1 h]at h2) (by rwa [kb9 h]at h3) (λy hm=>by rw[<-h.br];exact hy y hm) (λj g hj hq=>by rw[<-kb9 h];exact hg j g hj hq) e1 (by rwa [jz2 h]at e2) e3 e4
 |part h1 h2 h3 hy hg e1 e2 hb _ ih=>exact .part (by rwa [js3 h]at h1) (by rwa [jz1 h]at h2) (by rwa [kb9 h]at h3) (λy hm=>by rw[<-h.br];exact hy y hm) (λj g hj hq=>by rw[<-kb9 h];exact hg j g hj hq) e1 e2 (by rw[<-h.br];exact hb) ih
theorem jm5 (p:Pr):FnD prog (glS mm) 13 [.d (dPr p)] (λv=>∃ n:ByteArray,((jh1 p=150->Gn p=0->Nm (mk1 p) p (Dg p) n)/\(jh1 p≠150->n=ByteArray.empty))/\v=.tup [.d (.str n),.d (.int .i64 (jh1 p))]):=by
 unfold jh1;by_cases h:Gn p=0
 ·rw[Ad h];refine(qu3 p h).mono ?_;rintro v ⟨n,ω,hω,hn,rfl⟩;rw[hω.br (Dg p)];by_cases hb:brB (z1 (w0 p) (Dg p)) (Dg p)=true
  ·rw[Ad hb,Ad hb];exact⟨n,⟨λ_ _=>vk7 hω (hn (by rw[hω.br];exact hb)),λh=>absurd rfl h⟩,rfl⟩
  ·rw[Af hb,Af hb];exact⟨ByteArray.empty,⟨λh=>absurd h (by decide),λ_=>rfl⟩,rfl⟩
 ·rw[Af h];refine(qd8 p h).mono ?_;rintro v rfl;exact⟨ByteArray.empty,⟨λ_ h2=>absurd h2 h,λ_=>rfl⟩,rfl⟩
end Al
end
section
namespace Al
attribute [local irreducible] TR TC
theorem qe5 (p:Pr):FnD prog gl 6 [.d (dPr p)] (λv=>v=.d (.bool (decide (120<IntKind.i64.wrap (Sc.Kb p))))):=by
 have c:=qp5 gl _ p (Ap _);rw[v7]at c ⊢
 (refine j4 func6 ntmps6 results6 λw M=>?_)
 (repeat' first|apply Ca 1;(refine Ck 1 ?_)|refine yyp ?_;try refine Ce ?_ ?_<;>intro hb|refine yy ?_|refine yy2 ?_ ?_<;>intro hcmp|apply Cf 21;refine Ci (hc:=c) ?_|apply ah;refine Cc [0,1,2,3,4,5] ?_|refine Cb λK hK=>?_|apply_assumption -exfalso -symm)
 all_goals
  (refine j1 (j7 ?_))
  simp[aF, *]
def Cv (s:ByteArray):Ex:=.mk 4 0 0 0 s []
theorem mk2 (s:ByteArray):FnD prog gl 22 [.d (.str s)] (λv=>v=.d (dEx (Cv s))):=by
 rw[r8]
 (refine j4 func22 ntmps22 results22 λw M=>?_)
 (repeat' first|apply Ca 2;(refine j2 2 ?_)|apply Ca 4;refine z_p Cu ?_|refine yyp ?_;try refine Ce ?_ ?_<;>intro hb|refine yy ?_|apply ah;refine Cc [0,2,3,4,28] ?_|refine Cb λK hK=>?_|apply_assumption -exfalso -symm)
 (refine j1 (j7 ?_))
 rfl
def Hl (x:ByteArray)(e:Ex):Pr:=.mk 3 ByteArray.empty ex0 [Cv x] [e] rp0 [] [] [] sp0
def Gx (kind:Int)(x:ByteArray)(e:Ex)(p:Pr):Pr:=.mk 18 ByteArray.empty ex0 [] [] rp0 [] [p] [] (.mk kind (.mk 1 0 0 ByteArray.empty) [x] e pt0 [] [])
theorem vk8 (x:ByteArray)(e:Ex):dP (Hl x e)=.agg ([.int .u8 3,.str ByteArray.empty,
 .int .u8 0,.int .u8 0,.int .u8 0,.int .i32 0,.str ByteArray.empty,.list 6 [],
 .list 6 [dE (Cv x)],.list 6 [dE e],
 .str ByteArray.empty,.int .u8 0,.int .u8 0,.int .u8 0,.int .i32 0,.str ByteArray.empty,.list 6 [],
 .int .u8 0,.int .u8 0,.int .u8 0,.int .i32 0,.str ByteArray.empty,.list 6 [],
 .list 23 [],.list 42 [],.list 1 [],
 .int .u8 0,.int .u8 0,.int .i64 0,.int .u8 0,.str ByteArray.empty,.list 1 [],
 .int .u8 0,.int .u8 0,.int .u8 0,.int .i32 0,.str ByteArray.empty,.list 6 [],
 .bool false,.list 2 [],.list 6 [],.list 42 []]):=by
 have h1:(Hl x e).aj.map dEx=[dE (Cv x)]:=by rw[r8];rfl
 have h2:(Hl x e).au.map dEx=[dE e]:=by rw[r8];rfl
 unfold dP;rw[h1,h2];rfl
theorem mq7 (x:ByteArray)(e:Ex):FnD prog gl 19 [.d (.str x),.d (dEx e)] (λv=>v=.d (dPr (Hl x e))):=by
 have c1:=mk2 gl x;rw[v7,vk8];rw[r8]at c1 ⊢
 (refine j4 func19 ntmps19 results19 λw M=>?_)
 (repeat' first|apply Ca 3;(refine Ck 3 ?_)|apply Ca 4;(refine j2 4 ?_)|refine yy ?_|apply ah;refine Cc [0,1,3,4,5,6,7,45] ?_|(apply Iz (x:=.region 1 _ _);focus ((apply Cg 1;refine j0 [6] q09 ?_);(repeat' (first|apply Ca 9;(refine Fu 9 ?_)|apply Ca 7;(refine Fu 7 ?_)|apply Ca 10;refine z_p Cu ?_|refine yyp ?_|refine yy ?_|apply Cf 22;refine Ci (hc:=c1) ?_|apply ah;refine Cc [0,1,3,4,5,6,7,45] ?_|refine qo9 ?_ ?_));(all_goals first|exact Wk.refl _ _|exact v6);done))|refine Cb λK hK=>?_|apply Cg 1;refine j0 [6] q09 ?_|apply_assumption -exfalso -symm)
 all_goals
  (refine j1 (j7 ?_))
  rfl
theorem vr7 (kind:Int)(x:ByteArray)(e:Ex)(p:Pr):dP (Gx kind x e p)=.agg ([.int .u8 18,.str ByteArray.empty,
 .int .u8 0,.int .u8 0,.int .u8 0,.int .i32 0,.str ByteArray.empty,.list 6 [],
 .list 6 [],.list 6 [],
 .str ByteArray.empty,.int .u8 0,.int .u8 0,.int .u8 0,.int .i32 0,.str ByteArray.empty,.list 6 [],
 .int .u8 0,.int .u8 0,.int .u8 0,.int .i32 0,.str ByteArray.empty,.list 6 [],
 .list 23 [],.list 42 [dP p],.list 1 [],
 .int .u8 kind,.int .u8 1,.int .i64 0,.int .u8 0,.str ByteArray.empty,.list 1 [.str x],
 .int .u8 e.kind,.int .u8 e.op,.int .u8 e.ty,.int .i32 e.n,.str e.s,.list 6 (e.l.map dEx),
 .bool false,.list 2 [],.list 6 [],.list 42 []]):=by
 have h:(Gx kind x e p).l.map dPr=[dP p]:=by rw[v7];rfl
 unfold dP;rw[h];rfl
theorem qw3 (kind:Int)(x:ByteArray)(e:Ex)(p:Pr):FnD prog gl 17 [.d (.int .u8 kind),.d (.str x),.d (dEx e),.d (dPr p)] (λv=>v=.d (dPr (Gx kind x e p))):=by
 simp only[v7];rw[vr7,show dEx e=dE e from congrFun r8 e]
 (refine j4 func17 ntmps17 results17 λw M=>?_)
 (repeat' first|apply Ca 6;(refine Ck 6 ?_)|apply Ca 7;(refine Ck 7 ?_)|apply Ca 8;(refine j2 8 ?_)|apply Ca 12;(refine Fu 12 ?_)|apply Ca 16;(refine Fu 16 ?_)|apply Ca 17;refine z_p Cu ?_|refine yyp ?_;try refine Ce ?_ ?_<;>intro hb|refine yy ?_|apply ah;refine Cc [0,1,2,3,6,7,8,9,45] ?_|refine Cb λK hK=>?_|apply_assumption -exfalso -symm)
 all_goals
  (refine j1 (j7 ?_))
  rfl
end Al
end
end Go.Proofs.YtklklgfpkpglgaaGreatDoor
