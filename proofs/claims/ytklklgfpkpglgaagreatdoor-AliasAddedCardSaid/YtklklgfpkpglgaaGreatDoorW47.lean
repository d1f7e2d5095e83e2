/- Parts. -/
import Derived.Test.YtklklgfpkpglgaaGreatDoorW46
set_option linter.all false
set_option maxRecDepth 100000
set_option maxHeartbeats 0
namespace Go.Proofs.YtklklgfpkpglgaaGreatDoor
open Go.RowKit Go.Proofs.Tryz
section
def Nz:List Nat:=[0,1,3,4,5,6,7,8,9,10,11,12,24,35,36,37,38,46,59,67,77,79,86]
def jr2:Plan:=lin [0,4,8,16,13,21,25,28,32,36,42,47,48]
namespace Al
attribute [local irreducible] TR TC
theorem rq3 (gl:List (Nat × List D))(ω:Wd)(hr:Rank ω.is)(p:Pr)(hl:Gb p.au<=10000):FnE prog gl 64 [.ptr 900 0,.d (dPr p)] (HA ω) (λv H1=>v=.d (.bool (Ow ω p.name p.au))/\H1=HA ω):=by
 have cb:=λs=>kx5 gl ω s hr;have cm:=λA l=>mt6 gl A l;have hll:=ja0 p.au;rw[v6];dsimp only[HA]at cb ⊢;unfold Ow
 (refine j2 func64 ntmps64 results64 λw M E b0=>?_)
 ((repeat' first|apply Ca 3;(refine Cm 3 ?_)|apply Ca 20;(refine km0 (λq hq=>?_) (λhq=>?_))|apply Ca 5;(refine j3 5 ?_)|apply Cf 2;refine halt ?_|refine yyp ?_;try refine Ce ?_ ?_<;>intro hb|refine yy ?_|apply ah;refine Cc Nz ?_|refine Cb λK hK=>?_|apply Cf 1;refine j0 [11] jr2 ?_|apply_assumption -exfalso -symm);all_goals try refine unhalt ?_)
 ·obtain⟨m,hm⟩:∃ m:Nat,(if ((q.ax.length:Nat):Int)<(p.au.length:Nat) then ((q.ax.length:Nat):Int) else (p.au.length:Nat))=(m:Nat)/\m<=p.au.length/\m<=q.ax.length/\(m=p.au.length\/m=q.ax.length):=by
   split
   ·exact⟨q.ax.length,rfl,by omega,by omega,.inr rfl⟩
   ·exact⟨p.au.length,rfl,by omega,by omega,.inl rfl⟩
  obtain⟨hm,hm1,hm2,hm3⟩:=hm
  ((repeat' first|apply Ca 25;(refine Iz 906 ?_)|apply Cf 6;refine halt ?_|refine yyp ?_;try refine Ce ?_ ?_<;>intro hb|refine yy ?_|apply ah;refine Cc Nz ?_|refine Cb λK hK=>?_|apply Cf 1;refine j0 [11] jr2 ?_|apply_assumption -exfalso -symm);all_goals try refine unhalt ?_)
  refine jq9 (t:=8) (e:=9) (sz:=1) 938 rfl rfl ?_;rw[k9]
  (repeat' first|apply Ca 34;(refine z_p vd1 ?_;simp only[Aa];rw[hm])|refine yyp ?_;try refine Ce ?_ ?_<;>intro hb|refine yy ?_|apply ah;refine Cc Nz ?_|refine Cb λK hK=>?_|apply Cf 1;refine j0 [11] jr2 ?_|apply_assumption -exfalso -symm)
  rw[show List.take (m - 0) (List.drop 0 (List.map dE p.au))=(p.au.take m).map dE from by simp,show((p.au.take m).map dE).length=m from by simp;omega];obtain⟨X,hX⟩:∃ X,X=p.au.take m:=⟨_,rfl⟩;have hXl:X.length=m:=by rw[hX];simp;omega
  rw[<-hX];refine j9 [4,8,9,10,11,37,38,39,40,41,42,43,44,45,46,47,48,49,50,51,52,53,54,55,56,57,58,59,60,61,62,63,64,65,66,67,68,69,70,71,72,73,74] [938,906] (λx:Nat × Nat × List ByteArray × List ByteArray=>[(37,.d (.int .i64 x.1)),(8,.own 938 x.2.1)]) (λx=>[(938,.row 9 1 true (x.2.2.2.map .str) x.2.1),(906,.map (Di x.2.2.1) (Dj x.2.2.1))]) (λx=>x.1<=m/\x.2.2.2.length<=Gb (p.au.take x.1)/\Le ω q.ax p.au [] []=Le ω (q.ax.drop x.1) (p.au.drop x.1) x.2.2.1 x.2.2.2) (λx=>m - x.1) (0,0,[],[]) ⟨Ai _,Ai _,rfl⟩ λ⟨j,kv,vars,vals⟩ ⟨hj,hvl,hgo⟩=>?_;dsimp only[Ac,Ad]at hj hvl hgo ⊢;rcases Ah j m with hj2|hj2
  ·have je:j<p.au.length:=by omega
   have jf:j<q.ax.length:=by omega
   have jx:j<X.length:=by omega
   have hge:X[j]=p.au[j]:=by simp only[hX];exact List.getElem_take
   have h1:=l8 p.au j je;have h3:=rp6 p.au (j+1);have h4:Gb (p.au.take (j+1))=Gb (p.au.take j)+exN p.au[j]:=by rw[Ao je,kg3];simp[Gb]
   rw[<-hge]at h1 h4;have c4:=cb X[j].s;have ce:=Ke gl X[j];have cs:=ky6 gl ω hr [X[j]] (by simp only[Gb];omega);have ca:=qn5 gl vars [Dq ω.is X[j].s];rw[show Ik vars [Dq ω.is X[j].s]=addN vars (Dq ω.is X[j].s) from rfl]at ca;simp only[Ap,Ba,k9]at ce cs ca;dsimp only[HA]at cs;have h5:=km4 ω [X[j]];simp only[Gb]at h5;rw[Bo jf,Bo je,<-hge]at hgo;simp only[Le]at hgo;by_cases hv:q.ax[j].val=true
   ·rw[Ae hv]at hgo
    (repeat' first|apply Ca 10;(refine j3 10 ?_)|apply Ca 45;refine Ch (hc:=c4) ?_|apply Ca 56;(refine Df 56 ?_)|apply Ca 57;refine Ch (hc:=cs) ?_|refine yyp ?_;try refine Ce ?_ ?_<;>intro hb|refine yy ?_|(apply Cw;first|(refine Da (λkv=>?_))|(refine ai (λsx sp kv hsx hsp hsl=>?_)))|apply ah;refine Cc Nz ?_|refine Cb λK hK=>?_|apply Cf 1;refine j0 [11] jr2 ?_|apply_assumption -exfalso -symm)
    all_goals first
     |(exfalso;simp_all;done)
     |(refine⟨(j+1,kv,vars,vals++Ir ω [X[j]]),⟨by dsimp only;omega,by dsimp only;rw[Ag];omega,hgo⟩,by dsimp only;omega,?_⟩
       dsimp only;rw[Ar];exact r9)
   ·rw[Af hv]at hgo;by_cases he:jg4 X[j]=true
    ·rw[Ae he]at hgo;rw[he]at ce;by_cases hin:Dq ω.is X[j].s∈vars
     ·rw[Ae hin]at hgo
      (repeat' first|apply Ca 10;(refine j3 10 ?_)|apply Ca 45;refine Ch (hc:=c4) ?_|apply Ca 65;(refine jy5 (λhin2=>?_) (λhin2=>?_))|refine yyp ?_;try refine Ce ?_ ?_<;>intro hb|refine yy ?_|apply Cg 74;refine Ci (hc:=ce) ?_;try refine Ce ?_ ?_<;>intro hb|apply ah;refine Cc Nz ?_|refine Cb λK hK=>?_|apply Cf 1;refine j0 [11] jr2 ?_|apply_assumption -exfalso -symm)
      all_goals first
       |(exfalso;simp_all;done)
       |((refine j1 (j6 ⟨?_,rfl⟩))
         rw[hq];dsimp only;rw[hgo];rfl)
     ·rw[Af hin]at hgo
      (repeat' first|apply Ca 10;(refine j3 10 ?_)|apply Ca 45;refine Ch (hc:=c4) ?_|apply Ca 65;(refine jy5 (λhin2=>?_) (λhin2=>?_))|apply Ca 72;(refine Df 72 ?_)|apply Ca 73;refine Ch (hc:=ca) ?_|refine yyp ?_;try refine Ce ?_ ?_<;>intro hb|refine yy ?_|apply Cg 74;refine Ci (hc:=ce) ?_;try refine Ce ?_ ?_<;>intro hb|apply ah;refine Cc Nz ?_|refine Cb λK hK=>?_|apply Cf 1;refine j0 [11] jr2 ?_|apply_assumption -exfalso -symm)
      all_goals first
       |(exfalso;simp_all;done)
       |exact⟨(j+1,kv,addN vars (Dq ω.is X[j].s),vals),⟨by dsimp only;omega,by dsimp only;omega,hgo⟩,by dsimp only;omega,r9⟩
    ·rw[Af he]at hgo;rw[show jg4 X[j]=false by simpa using he]at ce
     (repeat' first|apply Ca 10;(refine j3 10 ?_)|apply Ca 45;refine Ch (hc:=c4) ?_|refine yyp ?_;try refine Ce ?_ ?_<;>intro hb|refine yy ?_|apply Cg 74;refine Ci (hc:=ce) ?_;try refine Ce ?_ ?_<;>intro hb|apply ah;refine Cc Nz ?_|refine Cb λK hK=>?_|apply Cf 1;refine j0 [11] jr2 ?_|apply_assumption -exfalso -symm)
     all_goals first
      |(exfalso;simp_all;done)
      |exact⟨(j+1,kv,vars,vals),⟨by dsimp only;omega,by dsimp only;omega,hgo⟩,by dsimp only;omega,r9⟩
  ·obtain rfl:j=m:=by omega
   have hgo2:Le ω q.ax p.au [] []=some (vars,vals):=by
    rw[hgo];rcases hm3 with h|h
    ·rw[Br (l:=p.au) (by omega)];cases q.ax.drop j<;>simp[Le]
    ·rw[Br (l:=q.ax) (by omega)];simp[Le]
   have c5:=cm vars vals;have c6:=cm q.wr vals
   ((repeat' first|apply Cf 17;refine halt ?_|refine yyp ?_;try refine Ce ?_ ?_<;>intro hb|refine yy ?_|apply ah;refine Cc Nz ?_|refine Cb λK hK=>?_|apply Cf 1;refine j0 [11] jr2 ?_|apply_assumption -exfalso -symm);all_goals try refine unhalt ?_)
   refine mm8 7 906 rfl rfl (ns:=[906]) (by(repeat (first|exact Drop.nil|apply Drop.drop rfl|apply Drop.take rfl));fail_if_success intros) rfl rfl ?_;refine jm1 (ku3 8 rfl (ToD.own rfl)) ?_
   (repeat' first|apply Ca 77;(refine kx3 1077 ?_)|refine yyp ?_;try refine Ce ?_ ?_<;>intro hb|refine yy ?_|apply ah;refine Cc Nz ?_|refine Cb λK hK=>?_|apply Cf 1;refine j0 [11] jr2 ?_|apply_assumption -exfalso -symm)
   rw[show(Di q.occ).length=q.occ.length from Aa ..];refine j9 [4,12,78,79,80,81,82,83,84,85,86] [1077] (λ_:List Nat × Option Nat=>[]) (λx=>[(1077,.miter (Di q.occ) (Dj q.occ) x.1 x.2)]) (λx=>(∀ i∈x.1,i<q.occ.length)/\∀ i s,q.occ[i]? =some s->i∈x.1\/Dq ω.is s∉vars) (λx=>x.1.length) (List.range q.occ.length,none) ⟨λi hi=>Fg.1 hi,λi s hi=>.inl (Fg.2 (Bb.1 hi).1)⟩ λ⟨left,cur⟩ ⟨k1,k2⟩=>?_;dsimp only[Ac,Ad]at k1 k2 ⊢
   (repeat' first|apply Ca 78;(refine mm9 k1 (λi s hi hs=>?_) (λhl0=>?_))|apply Ca 80;(refine kx4 hs ?_)|apply Ca 85;refine Ch (hc:=cb _) ?_|apply Ca 86;(refine jn4 (λhin=>?_) (λhin=>?_))|refine yyp ?_;try refine Ce ?_ ?_<;>intro hb|refine yy ?_|apply Cg 104;refine Ci (hc:=(cm _ _)) ?_;try refine Ce ?_ ?_<;>intro hb|apply ah;refine Cc Nz ?_|refine Cb λK hK=>?_|apply Cf 1;refine j0 [11] jr2 ?_|apply_assumption -exfalso -symm)
   ·(refine j1 (j6 ⟨?_,rfl⟩))
    rw[hq];dsimp only;rw[hgo2];dsimp only;have:jd3 vars (q.occ.map (Dq ω.is))=true:=Et.2 ⟨Dq ω.is s,Bx.2 ⟨s,Bz hs,rfl⟩,by simpa using hin⟩;rw[this];rfl
   ·refine⟨(left.erase i,some i),⟨λj hj=>k1 j (List.mem_of_mem_erase hj),λj t hj=>?_⟩,?_,r9⟩
    ·rcases k2 j t hj with hm'|hm'
     ·by_cases hji:j=i
      ·subst hji;rw[hs]at hj;cases hj;exact .inr hin
      ·exact .inl ((List.mem_erase_of_ne hji).2 hm')
     ·exact .inr hm'
    ·have:=List.length_erase_of_mem hi;have:=List.length_pos_of_mem hi;dsimp only;omega
   all_goals
    have hocc:jd3 vars (q.occ.map (Dq ω.is))=false:=List.any_eq_false.2 λs hs=>by
     obtain⟨t,ht,rfl⟩:=Bx.1 hs;obtain⟨i,hi⟩:=List.getElem?_of_mem ht;rcases k2 i t hi with h|h
     ·rw[hl0]at h;cases h
     ·simpa using h
    (refine j1 (j6 ⟨?_,rfl⟩))
    rw[hq];dsimp only;rw[hgo2];dsimp only;rw[hocc];simp_all [aF]
 ·(repeat' first|refine yyp ?_;try refine Ce ?_ ?_<;>intro hb|refine yy ?_|apply ah;refine Cc Nz ?_|refine Cb λK hK=>?_|apply Cf 1;refine j0 [11] jr2 ?_|apply_assumption -exfalso -symm)
  (refine j1 (j6 ⟨?_,rfl⟩))
  rw[hq];rfl
end Al
end
section
namespace Al
open Lx Sc
def hdP:List Pr->Pr
 |b::_=>b
 |[]=>pr0
theorem mt8 {w:Wd}(p:Pr):brB w p=true↔(p.kind=18/\Ja w p.spec.kind p.spec.e (hdP p.l)=false)\/(p.kind=17/\Ow w p.name p.au=false)\/Nl w p.aj=true\/(∃ g∈p.ak,Nl w g.aj=true)\/∃ x∈aB p,brB w x=true:=by
 obtain⟨kind,name,av,aj,au,rep,ak,l,ay,⟨sk,st,sn,se,spp,sf,sb⟩⟩:=p;have h1:∀ l:List Pr,Um w l=true↔∃ q∈l,brB w q=true:=λl=>by
  induction l with
  |nil=>simp[Um]
  |cons x l ih=>simp[Um,ih]
 have h2:∀ l:List Gu,Vw w l=true↔(∃ g∈l,Nl w g.aj=true)\/∃ q∈l.flatMap (·.body),brB w q=true:=λl=>by
  induction l with
  |nil=>simp[Vw]
  |cons x l ih=>
   obtain⟨_,_,_,_,_,_,_,body⟩:=x;simp only[Vw,Bq,ih,h1,Em,Gu.body,Bi,Bg];constructor
   ·rintro((h|⟨q,hq,h⟩)|⟨g,hg,h⟩|⟨q,hq,h⟩)
    ·exact .inl ⟨_,.inl rfl,h⟩
    ·exact .inr ⟨q,.inl hq,h⟩
    ·exact .inl ⟨g,.inr hg,h⟩
    ·exact .inr ⟨q,.inr hq,h⟩
   ·rintro(⟨g,rfl|hg,h⟩|⟨q,hq|hq,h⟩)
    ·exact .inl (.inl h)
    ·exact .inr (.inl ⟨g,hg,h⟩)
    ·exact .inl (.inr ⟨q,hq,h⟩)
    ·exact .inr (.inr ⟨q,hq,h⟩)
 have h3:(match l with|a::_=>a|[]=>pr0)=hdP l:=by cases l<;>rfl
 simp only[brB,h3,Bq,Ab,Ee,Eb,h1,h2,aB,Bi,Pr.kind,Pr.spec,Sp.kind,Sp.e,Pr.l,Pr.name,Pr.au,Pr.aj,Pr.ak,Sp.body]
 grind
theorem mt9 (w:Wd)(l:List Ex):(0<=mz3 w l↔Nl w l=true)/\(Nl w l=true->∃ k:Nat,mz3 w l=k/\k<l.length):=by
 unfold mz3 Nl;cases h:Jm w [] l with
 |none=>simp
 |some k=>exact⟨by simp,λ_=>⟨k,rfl,qo2 h⟩⟩
theorem jo7:∀ {a c:List Pr},z6 a c->∀ {b d:List Pr},z6 b d->z6 (a++b) (c++d)
 |[],c,h,b,d,k=>by
  simp only[z6]at h;rw[h];exact k
 |x::a,c,h,b,d,k=>by
  simp only[z6]at h;obtain⟨q,r,rfl,h1,h2⟩:=h;simp only[Ac,z6];exact⟨q,r++d,rfl,h1,jo7 h2 k⟩
theorem km5:∀ {l m:List Pr},z6 l m->∀ (i:Nat) (h:i<l.length) (h':i<m.length),jl2 l[i] m[i]
 |x::l,m,h,i,hi,hm=>by
  simp only[z6]at h;obtain⟨q,r,rfl,h1,h2⟩:=h;cases i with
  |zero=>exact h1
  |succ i=>exact km5 h2 i (by simpa using hi) (by simpa using hm)
theorem ju2:∀ {l m:List Gu},p9 l m->z6 (l.flatMap (·.body)) (m.flatMap (·.body))
 |[],m,h=>by
  simp only[p9]at h;rw[h];simp[z6]
 |.mk kind name cond av aj values time body::l,m,h=>by
  simp only[p9]at h;obtain⟨k,r,rfl,h1,h2⟩:=h;simp only[jp0]at h1;simp only[Em,Gu.body];exact jo7 h1.2.2.2.2.2.2.2 (ju2 h2)
theorem Mx:∀ {l m:List Gu},p9 l m->m.length=l.length
 |[],m,h=>by simp only[p9]at h;rw[h]
 |e::l,m,h=>by
  simp only[p9]at h;obtain⟨f,r,rfl,_,h2⟩:=h;simp[Mx h2]
theorem Ku:∀ {l m:List Ex},Du l m->m.length=l.length
 |[],m,h=>by simp only[Du]at h;rw[h]
 |e::l,m,h=>by
  simp only[Du]at h;obtain⟨f,r,rfl,_,h2⟩:=h;simp[Ku h2]
theorem km6:∀ {l m:List Gu},p9 l m->∀ (i:Nat) (h:i<l.length) (h':i<m.length),m[i].aj.length=l[i].aj.length
 |.mk kind name cond av aj values time body::l,m,h,i,hi,hm=>by
  simp only[p9]at h;obtain⟨k,r,rfl,h1,h2⟩:=h;simp only[jp0]at h1;cases i with
  |zero=>exact Ku h1.2.2.2.2.1
  |succ i=>exact km6 h2 i (by simpa using hi) (by simpa using hm)
structure Alike (p q:Pr):Prop where
 kind:q.kind=p.kind
 aj:q.aj.length=p.aj.length
 ak:q.ak.length=p.ak.length
 body:q.spec.body.length=p.spec.body.length
 l:q.l.length=p.l.length
 gt:∀ (i:Nat) (h:i<p.ak.length) (h':i<q.ak.length),q.ak[i].aj.length=p.ak[i].aj.length
 parts:z6 (aB p) (aB q)
theorem va0 {p q:Pr}(h:jl2 p q):Alike p q:=by
 obtain⟨kind,name,av,aj,au,rep,ak,l,ay,⟨sk,st,sn,se,spp,sf,sb⟩⟩:=p;simp only[jl2]at h;obtain⟨h1,_,_,h2,_,_,h3,h4,_,_,_,_,_,_,_,h5⟩:=h;exact⟨h1,Ku h2,Mx h3,je0 h5,je0 h4,λi hi hi'=>km6 h3 i hi hi',jo7 (jo7 h5 (ju2 h3)) h4⟩
theorem mg5:∀ {l:List Gu},(∀ g∈l,∃ b,g.body=[b])->l.flatMap (·.body)=l.map λg=>hdP g.body
 |[],_=>rfl
 |g::l,h=>by
  obtain⟨b,hb⟩:=h g Be;rw[Em,mg5 λg hg=>h g (Bh _ hg),Ap,hb];rfl
def dG1 (g:Gu):D:=.agg [.int .u8 g.kind,.str g.name,
    .int .u8 g.cond.kind,.int .u8 g.cond.op,.int .u8 g.cond.ty,.int .i32 g.cond.n,.str g.cond.s,.list 6 (g.cond.l.map dEx),
    .int .u8 g.av.kind,.int .u8 g.av.op,.int .u8 g.av.ty,.int .i32 g.av.n,.str g.av.s,.list 6 (g.av.l.map dEx),
    .list 6 (g.aj.map dE),.list 6 (g.values.map dEx),
    .int .u8 g.time.kind,.int .u8 g.time.op,.int .u8 g.time.ty,.int .i32 g.time.n,.str g.time.s,.list 6 (g.time.l.map dEx),
    .list 42 [dP (hdP g.body)]]
theorem rh4 {l:List Gu}(h:∀ g∈l,∃ b,g.body=[b]):l.map dGu=l.map dG1:=by
 refine List.map_congr_left λg hg=>?_;obtain⟨b,hb⟩:=h g hg;rw[jb9];unfold dG dG1;rw[hb,v6,k9];rfl
theorem mu0 {p:Pr}(h:∀ g∈p.ak,∃ b,g.body=[b]):aB p=p.spec.body++(p.ak.map λg=>hdP g.body)++p.l:=by
 unfold aB;rw[mg5 h]
end Al
end
end Go.Proofs.YtklklgfpkpglgaaGreatDoor
