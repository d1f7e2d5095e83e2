/- Parts: A18, A19. -/
import Derived.Test.YtklklgfpkpglgaaGreatDoorP44
set_option linter.all false
set_option maxRecDepth 100000
set_option maxHeartbeats 16000000
namespace Go.Proofs.YtklklgfpkpglgaaGreatDoor
open Go.RowKit Go.Proofs.Tryz
section
def Nv:List Nat:=[0,1,3,4,5,6,7,8,9,10,11,12,24,35,36,37,38,46,59,67,77,79,86]
def jr1:Plan:=lin [0,4,8,16,13,21,25,28,32,36,42,47,48]
namespace Al
attribute [local irreducible] TR TC
theorem rp7 (gl:List (Nat × List D))(ω:Wd)(hr:Rank ω.is)(p:Pr)(hl:Gj p.exprs<=10000):FnE prog gl 64 [.ptr 900 0,.d (dPr p)] (HA ω) (fun v H1=>v=.d (.bool (Og ω p.name p.exprs))/\H1=HA ω):=by
 have cb:=fun s=>ky6 gl ω s hr;have cm:=fun A l=>mv7 gl A l;have hll:=n5 p.exprs;rw[j9];dsimp only[HA]at cb ⊢;unfold Og
 (refine j2 func64 ntmps64 results64 fun w M E b0=>?_)
 ((repeat' first|refine Ca 3 ?_;(refine Cq 3 ?_)|refine Ca 20 ?_;(refine kn4 (fun q hq=>?_) (fun hq=>?_))|refine Ca 5 ?_;(refine j3 5 ?_)|refine Cf 2 ?_;refine halt ?_|refine yyp ?_;try refine Ce ?_ ?_<;>intro hb|refine yy ?_|refine at_nil ?_;refine Cc Nv ?_|refine Cb fun K hK=>?_|refine Cf 1 ?_;refine j0 [11] jr1 ?_|apply_assumption -exfalso -symm);all_goals try refine unhalt ?_)
 ·obtain⟨m,hm⟩:∃ m:Nat,(if ((q.formals.length:Nat):Int)<(p.exprs.length:Nat) then ((q.formals.length:Nat):Int) else (p.exprs.length:Nat))=(m:Nat)/\m<=p.exprs.length/\m<=q.formals.length/\(m=p.exprs.length\/m=q.formals.length):=by
   split
   ·exact⟨q.formals.length,rfl,by omega,by omega,.inr rfl⟩
   ·exact⟨p.exprs.length,rfl,by omega,by omega,.inl rfl⟩
  obtain⟨hm,hm1,hm2,hm3⟩:=hm
  ((repeat' first|refine Ca 25 ?_;(refine Iz 906 ?_)|refine Cf 6 ?_;refine halt ?_|refine yyp ?_;try refine Ce ?_ ?_<;>intro hb|refine yy ?_|refine at_nil ?_;refine Cc Nv ?_|refine Cb fun K hK=>?_|refine Cf 1 ?_;refine j0 [11] jr1 ?_|apply_assumption -exfalso -symm);all_goals try refine unhalt ?_)
  refine jv6 (t:=8) (e:=9) (sz:=1) 938 rfl rfl ?_;rw[k9]
  (repeat' first|refine Ca 34 ?_;(refine z_p vb8 ?_;simp only[Ab];rw[hm])|refine yyp ?_;try refine Ce ?_ ?_<;>intro hb|refine yy ?_|refine at_nil ?_;refine Cc Nv ?_|refine Cb fun K hK=>?_|refine Cf 1 ?_;refine j0 [11] jr1 ?_|apply_assumption -exfalso -symm)
  rw[show List.take (m - 0) (List.drop 0 (List.map dE p.exprs))=(p.exprs.take m).map dE from by simp,show((p.exprs.take m).map dE).length=m from by simp;omega];obtain⟨X,hX⟩:∃ X,X=p.exprs.take m:=⟨_,rfl⟩;have hXl:X.length=m:=by rw[hX];simp;omega
  rw[<-hX];refine j6 [4,8,9,10,11,37,38,39,40,41,42,43,44,45,46,47,48,49,50,51,52,53,54,55,56,57,58,59,60,61,62,63,64,65,66,67,68,69,70,71,72,73,74] [938,906] (fun x:Nat × Nat × List ByteArray × List ByteArray=>[(37,.d (.int .i64 x.1)),(8,.own 938 x.2.1)]) (fun x=>[(938,.row 9 1 true (x.2.2.2.map .str) x.2.1),(906,.map (Dq x.2.2.1) (Dr x.2.2.1))]) (fun x=>x.1<=m/\x.2.2.2.length<=Gj (p.exprs.take x.1)/\Kr ω q.formals p.exprs [] []=Kr ω (q.formals.drop x.1) (p.exprs.drop x.1) x.2.2.1 x.2.2.2) (fun x=>m - x.1) (0,0,[],[]) ⟨Ai _,Ai _,rfl⟩ fun⟨j,kv,vars,vals⟩ ⟨hj,hvl,hgo⟩=>?_;dsimp only[Ac,Af]at hj hvl hgo ⊢;rcases Ah j m with hj2|hj2
  ·have je:j<p.exprs.length:=by omega
   have jf:j<q.formals.length:=by omega
   have jx:j<X.length:=by omega
   have hge:X[j]=p.exprs[j]:=by simp only[hX];exact List.getElem_take
   have h1:=z1 p.exprs j je;have h3:=ro9 p.exprs (j+1);have h4:Gj (p.exprs.take (j+1))=Gj (p.exprs.take j)+exN p.exprs[j]:=by rw[Ao je,kh5];simp[Gj]
   rw[<-hge]at h1 h4;have c4:=cb X[j].s;have ce:=Jv gl X[j];have cs:=kz7 gl ω hr [X[j]] (by simp only[Gj];omega);have ca:=qn8 gl vars [Dw ω.is X[j].s];rw[show Il vars [Dw ω.is X[j].s]=addN vars (Dw ω.is X[j].s) from rfl]at ca;simp only[Aq,Ax,k9]at ce cs ca;dsimp only[HA]at cs;have h5:=kn8 ω [X[j]];simp only[Gj]at h5;rw[By jf,By je,<-hge]at hgo;simp only[Kr]at hgo;by_cases hv:q.formals[j].val=true
   ·rw[Ad hv]at hgo
    (repeat' first|refine Ca 10 ?_;(refine j3 10 ?_)|refine Ca 45 ?_;refine Cg (hc:=c4) ?_|refine Ca 56 ?_;(refine Dn 56 ?_)|refine Ca 57 ?_;refine Cg (hc:=cs) ?_|refine yyp ?_;try refine Ce ?_ ?_<;>intro hb|refine yy ?_|(refine Da ?_;first|(refine Df (fun kv=>?_))|(refine z_append_suf (fun sx sp kv hsx hsp hsl=>?_)))|refine at_nil ?_;refine Cc Nv ?_|refine Cb fun K hK=>?_|refine Cf 1 ?_;refine j0 [11] jr1 ?_|apply_assumption -exfalso -symm)
    all_goals first
     |(exfalso;simp_all;done)
     |(refine⟨(j+1,kv,vars,vals++Jd ω [X[j]]),⟨by dsimp only;omega,by dsimp only;rw[Ag];omega,hgo⟩,by dsimp only;omega,?_⟩
       dsimp only;rw[As];exact k8)
   ·rw[Ae hv]at hgo;by_cases he:jc3 X[j]=true
    ·rw[Ad he]at hgo;rw[he]at ce;by_cases hin:Dw ω.is X[j].s∈vars
     ·rw[Ad hin]at hgo
      (repeat' first|refine Ca 10 ?_;(refine j3 10 ?_)|refine Ca 45 ?_;refine Cg (hc:=c4) ?_|refine Ca 65 ?_;(refine jz1 (fun hin2=>?_) (fun hin2=>?_))|refine yyp ?_;try refine Ce ?_ ?_<;>intro hb|refine yy ?_|refine Ch 74 ?_;refine Ck (hc:=ce) ?_;try refine Ce ?_ ?_<;>intro hb|refine at_nil ?_;refine Cc Nv ?_|refine Cb fun K hK=>?_|refine Cf 1 ?_;refine j0 [11] jr1 ?_|apply_assumption -exfalso -symm)
      all_goals first
       |(exfalso;simp_all;done)
       |((refine j1 (j4 ⟨?_,rfl⟩))
         rw[hq];dsimp only;rw[hgo];rfl)
     ·rw[Ae hin]at hgo
      (repeat' first|refine Ca 10 ?_;(refine j3 10 ?_)|refine Ca 45 ?_;refine Cg (hc:=c4) ?_|refine Ca 65 ?_;(refine jz1 (fun hin2=>?_) (fun hin2=>?_))|refine Ca 72 ?_;(refine Dn 72 ?_)|refine Ca 73 ?_;refine Cg (hc:=ca) ?_|refine yyp ?_;try refine Ce ?_ ?_<;>intro hb|refine yy ?_|refine Ch 74 ?_;refine Ck (hc:=ce) ?_;try refine Ce ?_ ?_<;>intro hb|refine at_nil ?_;refine Cc Nv ?_|refine Cb fun K hK=>?_|refine Cf 1 ?_;refine j0 [11] jr1 ?_|apply_assumption -exfalso -symm)
      all_goals first
       |(exfalso;simp_all;done)
       |exact⟨(j+1,kv,addN vars (Dw ω.is X[j].s),vals),⟨by dsimp only;omega,by dsimp only;omega,hgo⟩,by dsimp only;omega,k8⟩
    ·rw[Ae he]at hgo;rw[show jc3 X[j]=false by simpa using he]at ce
     (repeat' first|refine Ca 10 ?_;(refine j3 10 ?_)|refine Ca 45 ?_;refine Cg (hc:=c4) ?_|refine yyp ?_;try refine Ce ?_ ?_<;>intro hb|refine yy ?_|refine Ch 74 ?_;refine Ck (hc:=ce) ?_;try refine Ce ?_ ?_<;>intro hb|refine at_nil ?_;refine Cc Nv ?_|refine Cb fun K hK=>?_|refine Cf 1 ?_;refine j0 [11] jr1 ?_|apply_assumption -exfalso -symm)
     all_goals first
      |(exfalso;simp_all;done)
      |exact⟨(j+1,kv,vars,vals),⟨by dsimp only;omega,by dsimp only;omega,hgo⟩,by dsimp only;omega,k8⟩
  ·obtain rfl:j=m:=by omega
   have hgo2:Kr ω q.formals p.exprs [] []=some (vars,vals):=by
    rw[hgo];rcases hm3 with h|h
    ·rw[Bz (l:=p.exprs) (by omega)];cases q.formals.drop j<;>simp[Kr]
    ·rw[Bz (l:=q.formals) (by omega)];simp[Kr]
   have c5:=cm vars vals;have c6:=cm q.wr vals
   ((repeat' first|refine Cf 17 ?_;refine halt ?_|refine yyp ?_;try refine Ce ?_ ?_<;>intro hb|refine yy ?_|refine at_nil ?_;refine Cc Nv ?_|refine Cb fun K hK=>?_|refine Cf 1 ?_;refine j0 [11] jr1 ?_|apply_assumption -exfalso -symm);all_goals try refine unhalt ?_)
   refine mn7 7 906 rfl rfl (ns:=[906]) (by(repeat (first|exact Drop.nil|apply Drop.drop rfl|apply Drop.take rfl));fail_if_success intros) rfl rfl ?_;refine jm4 (kv0 8 rfl (ToD.own rfl)) ?_
   (repeat' first|refine Ca 77 ?_;(refine ky0 1077 ?_)|refine yyp ?_;try refine Ce ?_ ?_<;>intro hb|refine yy ?_|refine at_nil ?_;refine Cc Nv ?_|refine Cb fun K hK=>?_|refine Cf 1 ?_;refine j0 [11] jr1 ?_|apply_assumption -exfalso -symm)
   rw[show(Dq q.occ).length=q.occ.length from Ab ..];refine j6 [4,12,78,79,80,81,82,83,84,85,86] [1077] (fun _:List Nat × Option Nat=>[]) (fun x=>[(1077,.miter (Dq q.occ) (Dr q.occ) x.1 x.2)]) (fun x=>(∀ i∈x.1,i<q.occ.length)/\∀ i s,q.occ[i]? =some s->i∈x.1\/Dw ω.is s∉vars) (fun x=>x.1.length) (List.range q.occ.length,none) ⟨fun i hi=>Ew.1 hi,fun i s hi=>.inl (Ew.2 (Ay.1 hi).1)⟩ fun⟨left,cur⟩ ⟨k1,k2⟩=>?_;dsimp only[Ac,Af]at k1 k2 ⊢
   (repeat' first|refine Ca 78 ?_;(refine mn8 k1 (fun i s hi hs=>?_) (fun hl0=>?_))|refine Ca 80 ?_;(refine ky1 hs ?_)|refine Ca 85 ?_;refine Cg (hc:=cb _) ?_|refine Ca 86 ?_;(refine jn6 (fun hin=>?_) (fun hin=>?_))|refine yyp ?_;try refine Ce ?_ ?_<;>intro hb|refine yy ?_|refine Ch 104 ?_;refine Ck (hc:=(cm _ _)) ?_;try refine Ce ?_ ?_<;>intro hb|refine at_nil ?_;refine Cc Nv ?_|refine Cb fun K hK=>?_|refine Cf 1 ?_;refine j0 [11] jr1 ?_|apply_assumption -exfalso -symm)
   ·(refine j1 (j4 ⟨?_,rfl⟩))
    rw[hq];dsimp only;rw[hgo2];dsimp only;have:je4 vars (q.occ.map (Dw ω.is))=true:=Em.2 ⟨Dw ω.is s,Bl.2 ⟨s,Bu hs,rfl⟩,by simpa using hin⟩;rw[this];rfl
   ·refine⟨(left.erase i,some i),⟨fun j hj=>k1 j (List.mem_of_mem_erase hj),fun j t hj=>?_⟩,?_,k8⟩
    ·rcases k2 j t hj with hm'|hm'
     ·by_cases hji:j=i
      ·subst hji;rw[hs]at hj;cases hj;exact .inr hin
      ·exact .inl ((List.mem_erase_of_ne hji).2 hm')
     ·exact .inr hm'
    ·have:=List.length_erase_of_mem hi;have:=List.length_pos_of_mem hi;dsimp only;omega
   all_goals
    have hocc:je4 vars (q.occ.map (Dw ω.is))=false:=List.any_eq_false.2 fun s hs=>by
     obtain⟨t,ht,rfl⟩:=Bl.1 hs;obtain⟨i,hi⟩:=List.getElem?_of_mem ht;rcases k2 i t hi with h|h
     ·rw[hl0]at h;cases h
     ·simpa using h
    (refine j1 (j4 ⟨?_,rfl⟩))
    rw[hq];dsimp only;rw[hgo2];dsimp only;rw[hocc];simp_all [oneOf]
 ·(repeat' first|refine yyp ?_;try refine Ce ?_ ?_<;>intro hb|refine yy ?_|refine at_nil ?_;refine Cc Nv ?_|refine Cb fun K hK=>?_|refine Cf 1 ?_;refine j0 [11] jr1 ?_|apply_assumption -exfalso -symm)
  (refine j1 (j4 ⟨?_,rfl⟩))
  rw[hq];rfl
end Al
end
section
namespace Al
open Lx Sc
def hdP:List Pr->Pr
 |b::_=>b
 |[]=>pr0
theorem mv9 {w:Wd}(p:Pr):brB w p=true↔(p.kind=18/\Jj w p.spec.kind p.spec.e (hdP p.l)=false)\/(p.kind=17/\Og w p.name p.exprs=false)\/Ng w p.targets=true\/(∃ g∈p.guards,Ng w g.targets=true)\/∃ x∈partsOf p,brB w x=true:=by
 obtain⟨kind,name,chan,targets,exprs,rep,guards,l,procs,⟨sk,st,sn,se,spp,sf,sb⟩⟩:=p;have h1:∀ l:List Pr,Tk w l=true↔∃ q∈l,brB w q=true:=fun l=>by
  induction l with
  |nil=>simp[Tk]
  |cons x l ih=>simp[Tk,ih]
 have h2:∀ l:List Gu,Uq w l=true↔(∃ g∈l,Ng w g.targets=true)\/∃ q∈l.flatMap (·.body),brB w q=true:=fun l=>by
  induction l with
  |nil=>simp[Uq]
  |cons x l ih=>
   obtain⟨_,_,_,_,_,_,_,body⟩:=x;simp only[Uq,Bm,ih,h1,En,Gu.body,Ap,Bc];constructor
   ·rintro((h|⟨q,hq,h⟩)|⟨g,hg,h⟩|⟨q,hq,h⟩)
    ·exact .inl ⟨_,.inl rfl,h⟩
    ·exact .inr ⟨q,.inl hq,h⟩
    ·exact .inl ⟨g,.inr hg,h⟩
    ·exact .inr ⟨q,.inr hq,h⟩
   ·rintro(⟨g,rfl|hg,h⟩|⟨q,hq|hq,h⟩)
    ·exact .inl (.inl h)
    ·exact .inr (.inl ⟨g,hg,h⟩)
    ·exact .inl (.inr ⟨q,hq,h⟩)
    ·exact .inr (.inr ⟨q,hq,h⟩)
 have h3:(match l with|a::_=>a|[]=>pr0)=hdP l:=by cases l<;>rfl
 simp only[brB,h3,Bm,Aa,Bx,Bq,h1,h2,partsOf,Ap,Pr.kind,Pr.spec,Sp.kind,Sp.e,Pr.l,Pr.name,Pr.exprs,Pr.targets,Pr.guards,Sp.body]
 grind
theorem mw0 (w:Wd)(l:List Ex):(0<=qa6 w l↔Ng w l=true)/\(Ng w l=true->∃ k:Nat,qa6 w l=k/\k<l.length):=by
 unfold qa6 Ng;cases h:Jl w [] l with
 |none=>simp
 |some k=>exact⟨by simp,fun _=>⟨k,rfl,qo5 h⟩⟩
theorem jo9:∀ {a c:List Pr},x5 a c->∀ {b d:List Pr},x5 b d->x5 (a++b) (c++d)
 |[],c,h,b,d,k=>by
  simp only[x5]at h;rw[h];exact k
 |x::a,c,h,b,d,k=>by
  simp only[x5]at h;obtain⟨q,r,rfl,h1,h2⟩:=h;simp only[Ac,x5];exact⟨q,r++d,rfl,h1,jo9 h2 k⟩
theorem kn9:∀ {l m:List Pr},x5 l m->∀ (i:Nat) (h:i<l.length) (h':i<m.length),ji6 l[i] m[i]
 |x::l,m,h,i,hi,hm=>by
  simp only[x5]at h;obtain⟨q,r,rfl,h1,h2⟩:=h;cases i with
  |zero=>exact h1
  |succ i=>exact kn9 h2 i (by simpa using hi) (by simpa using hm)
theorem ju0:∀ {l m:List Gu},y9 l m->x5 (l.flatMap (·.body)) (m.flatMap (·.body))
 |[],m,h=>by
  simp only[y9]at h;rw[h];simp[x5]
 |.mk kind name cond chan targets values time body::l,m,h=>by
  simp only[y9]at h;obtain⟨k,r,rfl,h1,h2⟩:=h;simp only[jn2]at h1;simp only[En,Gu.body];exact jo9 h1.2.2.2.2.2.2.2 (ju0 h2)
theorem Ml:∀ {l m:List Gu},y9 l m->m.length=l.length
 |[],m,h=>by simp only[y9]at h;rw[h]
 |e::l,m,h=>by
  simp only[y9]at h;obtain⟨f,r,rfl,_,h2⟩:=h;simp[Ml h2]
theorem Kk:∀ {l m:List Ex},Fv l m->m.length=l.length
 |[],m,h=>by simp only[Fv]at h;rw[h]
 |e::l,m,h=>by
  simp only[Fv]at h;obtain⟨f,r,rfl,_,h2⟩:=h;simp[Kk h2]
theorem ko0:∀ {l m:List Gu},y9 l m->∀ (i:Nat) (h:i<l.length) (h':i<m.length),m[i].targets.length=l[i].targets.length
 |.mk kind name cond chan targets values time body::l,m,h,i,hi,hm=>by
  simp only[y9]at h;obtain⟨k,r,rfl,h1,h2⟩:=h;simp only[jn2]at h1;cases i with
  |zero=>exact Kk h1.2.2.2.2.1
  |succ i=>exact ko0 h2 i (by simpa using hi) (by simpa using hm)
structure Alike (p q:Pr):Prop where
 kind:q.kind=p.kind
 targets:q.targets.length=p.targets.length
 guards:q.guards.length=p.guards.length
 body:q.spec.body.length=p.spec.body.length
 l:q.l.length=p.l.length
 gt:∀ (i:Nat) (h:i<p.guards.length) (h':i<q.guards.length),q.guards[i].targets.length=p.guards[i].targets.length
 parts:x5 (partsOf p) (partsOf q)
theorem ry6 {p q:Pr}(h:ji6 p q):Alike p q:=by
 obtain⟨kind,name,chan,targets,exprs,rep,guards,l,procs,⟨sk,st,sn,se,spp,sf,sb⟩⟩:=p;simp only[ji6]at h;obtain⟨h1,_,_,h2,_,_,h3,h4,_,_,_,_,_,_,_,h5⟩:=h;exact⟨h1,Kk h2,Ml h3,jd3 h5,jd3 h4,fun i hi hi'=>ko0 h3 i hi hi',jo9 (jo9 h5 (ju0 h3)) h4⟩
theorem mh8:∀ {l:List Gu},(∀ g∈l,∃ b,g.body=[b])->l.flatMap (·.body)=l.map fun g=>hdP g.body
 |[],_=>rfl
 |g::l,h=>by
  obtain⟨b,hb⟩:=h g Az;rw[En,mh8 fun g hg=>h g (Bb _ hg),Aq,hb];rfl
def dG1 (g:Gu):D:=.agg [.int .u8 g.kind,.str g.name,
    .int .u8 g.cond.kind,.int .u8 g.cond.op,.int .u8 g.cond.ty,.int .i32 g.cond.n,.str g.cond.s,.list 6 (g.cond.l.map dEx),
    .int .u8 g.chan.kind,.int .u8 g.chan.op,.int .u8 g.chan.ty,.int .i32 g.chan.n,.str g.chan.s,.list 6 (g.chan.l.map dEx),
    .list 6 (g.targets.map dE),.list 6 (g.values.map dEx),
    .int .u8 g.time.kind,.int .u8 g.time.op,.int .u8 g.time.ty,.int .i32 g.time.n,.str g.time.s,.list 6 (g.time.l.map dEx),
    .list 42 [dP (hdP g.body)]]
theorem rh3 {l:List Gu}(h:∀ g∈l,∃ b,g.body=[b]):l.map dGu=l.map dG1:=by
 refine List.map_congr_left fun g hg=>?_;obtain⟨b,hb⟩:=h g hg;rw[jd7];unfold dG dG1;rw[hb,j9,k9];rfl
theorem mw1 {p:Pr}(h:∀ g∈p.guards,∃ b,g.body=[b]):partsOf p=p.spec.body++(p.guards.map fun g=>hdP g.body)++p.l:=by
 unfold partsOf;rw[mh8 h]
end Al
end
end Go.Proofs.YtklklgfpkpglgaaGreatDoor
