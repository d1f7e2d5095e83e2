/- Parts. -/
import Derived.Test.YtklklgfpkpglgaaGreatDoorW44
import Derived.Test.YtklklgfpkpglgaaGreatDoorW36
set_option linter.all false
set_option maxRecDepth 100000
set_option maxHeartbeats 0
namespace Go.Proofs.YtklklgfpkpglgaaGreatDoor
open Go.RowKit Go.Proofs.Tryz
variable (gl:List (Nat × List D))
section
namespace Al
open Lx Sc
theorem jt1 {q:Pr}:∀ {l:List Pr},jc3 l->q∈l->Iw q
 |x::l,h,hq=>by
  simp only[jc3]at h;rcases Bg.1 hq with rfl|hq
  ·exact h.1
  ·exact jt1 h.2 hq
theorem ks0 {q:Pr}:∀ {l:List Gu},ji4 l->q∈l.flatMap (·.body)->Iw q
 |.mk _ _ _ _ _ _ _ body::l,h,hq=>by
  simp only[ji4]at h;simp only[Em,Gu.body,Bi]at hq;rcases hq with hq|hq
  ·exact jt1 h.1 hq
  ·exact ks0 h.2 hq
theorem jr1 {p:Pr}(h:Iw p):Gv p=true:=by
 obtain⟨kind,name,av,aj,au,rep,ak,l,ay,⟨sk,st,sn,se,spp,sf,sb⟩⟩:=p;simp only[Iw]at h;exact h.1
theorem jk0 {p q:Pr}(h:Iw p)(hq:q∈aB p):Iw q:=by
 obtain⟨kind,name,av,aj,au,rep,ak,l,ay,⟨sk,st,sn,se,spp,sf,sb⟩⟩:=p;simp only[Iw]at h;simp only[aB,Bi,Pr.spec,Sp.body,Pr.ak,Pr.l]at hq;rcases hq with (hq|hq)|hq
 ·exact jt1 h.2.1 hq
 ·exact ks0 h.2.2.1 hq
 ·exact jt1 h.2.2.2 hq
theorem mt4 {q:Pr}:∀ {l:List Gu},q∈l.flatMap (·.body)->SizeOf.sizeOf q<SizeOf.sizeOf l
 |.mk _ _ _ _ _ _ _ body::l,hq=>by
  simp only[Em,Gu.body,Bi]at hq;simp only[List.cons.sizeOf_spec,Gu.mk.sizeOf_spec];rcases hq with hq|hq
  ·have:=Fm hq;omega
  ·have:=mt4 hq;omega
theorem jb6 {p q:Pr}(hq:q∈aB p):SizeOf.sizeOf q<SizeOf.sizeOf p:=by
 obtain⟨kind,name,av,aj,au,rep,ak,l,ay,⟨sk,st,sn,se,spp,sf,sb⟩⟩:=p;simp only[aB,Bi,Pr.spec,Sp.body,Pr.ak,Pr.l]at hq;simp only[Pr.mk.sizeOf_spec,Sp.mk.sizeOf_spec];rcases hq with (hq|hq)|hq
 ·have:=Fm hq;omega
 ·have:=mt4 hq;omega
 ·have:=Fm hq;omega
theorem kg3:∀ a b:List Ex,Gb (a++b)=Gb a+Gb b
 |[],b=>by simp[Gb]
 |e::a,b=>by
  have:=kg3 a b;simp only[Ac,Gb,this];omega
theorem ks1:∀ l:List Gu,(∀ g∈l,Jw g=true)->Gb (je8 l)<=14592 * l.length
 |[],_=>by simp[je8,Gb]
 |.mk kind name cond av aj values time body::l,h=>by
  have h1:=kw3 (h _ Be);have h2:=ks1 l λg hg=>h g (Bh _ hg);have h3:=h1.head;simp only[Gu.cond,Gu.av,Gu.time,Gu.aj,Gu.values,Gb]at h3;simp only[je8,vc9,kg3,Gb,An];omega
theorem ks2:∀ l:List Gu,(∀ g∈l,Jw g=true)->(l.flatMap (·.body)).length=l.length
 |[],_=>rfl
 |g::l,h=>by
  have h1:=(kw3 (h g Be)).body;have h2:=ks2 l λg hg=>h g (Bh _ hg);simp only[Em,Ag,h1,h2,An];omega
structure Lens (p:Pr):Prop where
 exs:p.aj.length<=6000/\p.au.length<=6000/\(je8 p.ak).length<=900000
 parts:(aB p).length<=3000
 ex:∀ known,∀ e∈qs9 known p.kind p.av p.rep.base p.rep.count p.spec.e p.aj p.au p.ak,exN e<=1000000000
theorem mt5 {p:Pr}(h:Gv p=true):p.spec.body.length<=1:=by
 have f:=jg2 h;by_cases hk:p.kind=18
 ·have hs:=kf6 (f.spec hk).2;by_cases h5:p.spec.kind=5
  ·rw[hs.body h5];omega
  ·rw[hs.other h5];simp
 ·rw[f.none hk];simp[sp0,Sp.body]
theorem lens {p:Pr}(h:Gv p=true):Lens p:=by
 have f:=jg2 h;have h1:=ks1 p.ak f.gus;have h2:=ja0 (je8 p.ak);have h3:=ks2 p.ak f.gus;have h4:=mt5 h;obtain⟨l1,l2,l3,l4⟩:=f.lens;obtain⟨e1,e2,e3⟩:=f.head;refine⟨⟨l1,l2,by omega⟩,by simp only[aB,Ag];omega,λknown e he=>?_⟩;unfold qs9 at he;simp only[Bi]at he;rcases he with ((he|he)|he)|he
 ·have:=ji5 he;omega
 ·have:=ji5 he;omega
 ·have:e∈p.au:=by
   unfold ke0 at he;split at he
   ·split at he
    ·rename_i hx;rw[hx];split at he
     ·exact Bh _ he
     ·exact he
    ·cases he
   ·exact he
  have:=ji5 this;omega
 ·have:=ji5 he;omega
theorem rp3 (ω:Wd):∀ (n:Nat) (p:Pr),SizeOf.sizeOf p<=n->Iw p->∀ Ks:List ByteArray,FnE prog gl 42 [.ptr 900 0,.d (dPr p),.map 904] (HA ω++[(904,.map (Di Ks) (Dj Ks))]) (λv H1=>∃ L:List ByteArray,(∀ s,s∈L↔s∈Ks\/s∈jc4 ω p)/\v=.tup []/\H1=HA ω++[(904,.map (Di L) (Dj L))]):=by
 intro n
 induction n with
 |zero=>intro p h;cases p;simp only[Pr.mk.sizeOf_spec]at h;omega
 |succ n ih=>
  intro p hp ha Ks;have hm:=jr1 ha;have hl:=lens hm;refine rp2 gl ω p Ks (jg2 hm).au hl.exs (by have:=hl.parts;omega) (hl.ex _) λq hq Ls=>ih q ?_ (jk0 ha hq) Ls;have:=jb6 hq;omega
theorem rz4 (ω:Wd)(p:Pr)(ha:Iw p)(Ks:List ByteArray):FnE prog gl 42 [.ptr 900 0,.d (dPr p),.map 904] (HA ω++[(904,.map (Di Ks) (Dj Ks))]) (λv H1=>∃ L:List ByteArray,(∀ s,s∈L↔s∈Ks\/s∈jc4 ω p)/\v=.tup []/\H1=HA ω++[(904,.map (Di L) (Dj L))]):=rp3 gl ω _ p (Au _) ha Ks
end Al
end
section
def Mh:List Nat:=[0,1,2,4,6,8,9,10,11,12,14,16,21,22,23,24,34,46,47,48,49,73,83,84,85,86,98,99,100,101]
def rh2:List Nat:=[6,11,12,48,49,50,51,52,53,54,55,56,57,58,59,60,61,62,63,64,65,66,67,68,69,70,71,72,73,74,75,76,77,78]
def jl8:Plan:=lin [0,4,8,16,13,21,25,28,32,36,42,47,48]
namespace Al
theorem km2 {q:Option Pc}{e:Ex}:∀ {l:List Ex} {fs:List Fo},e∈Ng q l fs↔∃ i:Nat,l[i]? =some e/\jg4 e=true/\(q.isNone=true\/Tc (fs.drop i)=true)
 |[],fs=>by simp[Ng]
 |x::l,fs=>by
  simp only[Ng,Bi,km2 (l:=l) (fs:=fs.drop 1),List.drop_drop];constructor
  ·rintro(h|⟨i,h1,h2,h3⟩)
   ·split at h
    ·rename_i hc;simp only[Bu]at h;subst h;simp only[Ab,Bq]at hc;exact⟨0,rfl,hc.1,hc.2⟩
    ·cases h
   ·exact⟨i+1,by simpa using h1,h2,by rw[Nat.add_comm];exact h3⟩
  ·rintro⟨i,h1,h2,h3⟩;cases i with
   |zero=>
    simp only[List.getElem?_cons_zero,Bl]at h1;subst h1;left;rw[Ae (by simp only[Ab,Bq];exact⟨h2,h3⟩)];simp
   |succ i=>exact .inr ⟨i,by simpa using h1,h2,by rw[Nat.add_comm]at h3;exact h3⟩
theorem ks3 {fs:List Fo}{i:Nat}:Tc (fs.drop i)=true↔∃ h:i<fs.length,vc8 fs[i]=true:=by
 rcases Ah i fs.length with h|h
 ·rw[Bo h];simp[Tc,h]
 ·rw[Br h];simp only[Tc];constructor
  ·intro h;cases h
  ·rintro⟨h2,_⟩;omega
theorem qo0 {w:Wd}{s:ByteArray}(p:Pr):s∈jv4 w p↔(∃ e,(e∈p.aj\/e∈jj0 p.ak\/(p.kind=17/\e∈Ng (at1 p.name w.ay) p.au (foO (at1 p.name w.ay))))/\s=Dq w.is e.s)\/(p.kind=17/\s∈wrO (at1 p.name w.ay))\/∃ q∈aB p,s∈jv4 w q:=by
 obtain⟨kind,name,av,aj,au,rep,ak,l,ay,⟨sk,st,sn,se,spp,sf,sb⟩⟩:=p;have h1:∀ l:List Pr,s∈kx2 w l↔∃ q∈l,s∈jv4 w q:=λl=>by
  induction l with
  |nil=>simp[kx2]
  |cons x l ih=>simp[kx2,ih]
 have h2:∀ l:List Gu,s∈mm7 w l↔∃ q∈l.flatMap (·.body),s∈jv4 w q:=λl=>by
  induction l with
  |nil=>simp[mm7]
  |cons x l ih=>
   obtain⟨_,_,_,_,_,_,_,body⟩:=x;simp only[mm7,Bi,ih,h1,Em,Gu.body]
   grind
 simp only[jv4,aB,Bi,Bx,h1,h2,Pr.kind,Pr.spec,Pr.aj,Pr.au,Pr.ak,Pr.name,Sp.body,Pr.l];split<;>grind
def rp4 (X:List Ex)(gs:List Gu):Nat->List Ex
 |0=>X
 |j+1=>X++jj0 (gs.take (j+1))
theorem ky2 (X:List Ex)(gs:List Gu)(j:Nat):rp4 X gs j=X++jj0 (gs.take j):=by
 cases j with
 |zero=>simp[rp4,jj0]
 |succ j=>rfl
theorem km3:∀ a b:List Gu,jj0 (a++b)=jj0 a++jj0 b
 |[],b=>rfl
 |.mk _ _ _ _ _ _ _ _::a,b=>by simp only[Ac,jj0,km3 a b,Ea]
theorem mz2 (gs:List Gu)(j:Nat)(h:j<gs.length):jj0 (gs.take (j+1))=jj0 (gs.take j)++gs[j].aj:=by
 rw[Ao h,km3];cases gs[j];simp[jj0,Gu.aj]
theorem rb2 (gs:List Gu):(jj0 gs).length<=(je8 gs).length:=by
 induction gs with
 |nil=>simp[jj0]
 |cons g gs ih=>
  obtain⟨_,_,_,_,_,_,_,_⟩:=g;simp only[jj0,je8,vc9,Ag];omega
theorem rh3 {Y Y0 l:List Ex}{j:Nat}{c:Nat->Ex->Prop}(hY:∀ e,e∈Y↔e∈Y0\/∃ i<j,l[i]? =some e/\c i e)(hj:j<l.length)(hc:c j l[j]):∀ e,e∈Y++[l[j]]↔e∈Y0\/∃ i<j+1,l[i]? =some e/\c i e:=λe=>by
 rw[Bi,hY,Bu,or_assoc];refine or_congr .rfl ⟨?_,?_⟩
 ·rintro(⟨i,h1,h2⟩|rfl)
  ·exact⟨i,by omega,h2⟩
  ·exact⟨j,by omega,Ax hj,hc⟩
 ·rintro⟨i,h1,h2,h3⟩;by_cases h:i<j
  ·exact .inl ⟨i,h,h2,h3⟩
  ·obtain rfl:i=j:=by omega
   rw[Ax hj]at h2;cases h2;exact .inr rfl
theorem rz5 {Y Y0 l:List Ex}{j:Nat}{c:Nat->Ex->Prop}(hY:∀ e,e∈Y↔e∈Y0\/∃ i<j,l[i]? =some e/\c i e)(hj:j<l.length)(hc:¬c j l[j]):∀ e,e∈Y↔e∈Y0\/∃ i<j+1,l[i]? =some e/\c i e:=λe=>by
 rw[hY];refine or_congr .rfl ⟨?_,?_⟩
 ·rintro⟨i,h1,h2⟩;exact⟨i,by omega,h2⟩
 ·rintro⟨i,h1,h2,h3⟩;by_cases h:i<j
  ·exact⟨i,h,h2,h3⟩
  ·obtain rfl:i=j:=by omega
   rw[Ax hj]at h2;cases h2;exact absurd h3 hc
attribute [local irreducible] TR TC
theorem rz6 (ω:Wd)(hr:Rank ω.is)(p:Pr)(Ks:List ByteArray)(hlen:p.aj.length<=6000/\p.au.length<=6000/\(je8 p.ak).length<=900000)(hpl:(aB p).length<=1000000)
 (hrec:∀ q∈aB p,∀ Ls:List ByteArray,FnE prog gl 43 [.ptr 900 0,.d (dPr q),.map 905] (HA ω++[(905,.map (Di Ls) (Dj Ls))]) (λv H1=>∃ L:List ByteArray,(∀ s,s∈L↔s∈Ls\/s∈jv4 ω q)/\v=.tup []/\H1=HA ω++[(905,.map (Di L) (Dj L))])):
 FnE prog gl 43 [.ptr 900 0,.d (dPr p),.map 905] (HA ω++[(905,.map (Di Ks) (Dj Ks))]) (λv H1=>∃ L:List ByteArray,(∀ s,s∈L↔s∈Ks\/s∈jv4 ω p)/\v=.tup []/\H1=HA ω++[(905,.map (Di L) (Dj L))]):=by
 have cp:=Rw gl p hpl;have c0:=kx7 gl (p.aj.map dEx) (by simp;omega);simp only[v6]at hrec cp;have cb:=λs=>kx5 gl ω s hr;rw[v6];dsimp only[HA,Ac,Ad]at hrec cb ⊢
 (refine j2 func43 ntmps43 results43 λw M E b0=>?_)
 (repeat' first|apply Ca 4;(refine Cm 4 ?_)|apply Ca 19;refine Ch (hc:=c0) ?_|refine yyp ?_;try refine Ce ?_ ?_<;>intro hb|refine yy ?_|apply ah;refine Cc Mh ?_|refine Cb λK hK=>?_|apply Cf 8;refine j0 [11] jl8 ?_|apply_assumption -exfalso -symm)
 rw[jb9];have hgm:∀ j,(jj0 (p.ak.take j)).length<=(jj0 p.ak).length:=λj=>by
  have:jj0 p.ak=jj0 (p.ak.take j)++jj0 (p.ak.drop j):=by rw[<-km3,List.take_append_drop]
  rw[this,Ag];omega
 have htl:=rb2 p.ak;refine k7 21 rfl λhsm=>?_;simp only[Aa]at hsm;refine j9 [6,8,23,24,25,26,27,28,29,30,31] [931] (λx:Nat × Nat=>[(23,.d (.int .i64 x.1)),(6,.own 931 x.2)]) (λx=>[(931,.row 28 6 true ((rp4 p.aj p.ak x.1).map dEx) x.2)]) (λx=>x.1<=p.ak.length) (λx=>p.ak.length - x.1) (0,0) (Ai _) λ⟨j,kv⟩ hj=>?_;dsimp only[Ac,Ad]at hj ⊢;rcases Ah j p.ak.length with hj2|hj2
 ·have hst:=mz2 p.ak j hj2;have hm1:=hgm (j+1);rw[hst,Ag]at hm1;rw[ky2 _ _ j]
  (repeat' first|apply Ca 8;(refine j3 8 ?_)|refine yyp ?_;try refine Ce ?_ ?_<;>intro hb|refine yy ?_|(apply Cw;first|(refine Da (λkv=>?_))|(refine ai (λsx sp kv hsx hsp hsl=>?_)))|apply ah;refine Cc Mh ?_|refine Cb λK hK=>?_|apply Cf 8;refine j0 [11] jl8 ?_|apply_assumption -exfalso -symm)
  refine⟨(j+1,kv),by dsimp only;omega,by dsimp only;omega,?_⟩;dsimp only;rw[ky2 _ _ (j+1),hst];simp only[Ar,Ea];exact r9
 obtain rfl:j=p.ak.length:=by omega
 rw[ky2,Bk,<-jb9];obtain⟨Y0,hY0⟩:∃ Y0,Y0=p.aj++jj0 p.ak:=⟨_,rfl⟩;have hY0l:Y0.length<=906000:=by rw[hY0,Ag];omega
 rw[<-hY0]
 ((repeat' first|refine jy6 7 ?_;refine halt ?_|refine yyp ?_;try refine Ce ?_ ?_<;>intro hb|refine yy ?_|apply ah;refine Cc Mh ?_|refine Cb λK hK=>?_|apply Cf 8;refine j0 [11] jl8 ?_|apply_assumption -exfalso -symm);all_goals try refine unhalt ?_)
 rw[k9];refine jp1 [6] [931,905] (λx:List Ex × Nat × List ByteArray=>[(6,.own 931 x.2.1)]) (λx=>[(931,.row 28 6 true (x.1.map dE) x.2.1),(905,.map (Di x.2.2) (Dj x.2.2))]) (λx=>x.1.length<=1000000/\(∀ e,e∈x.1↔e∈Y0\/(p.kind=17/\e∈Ng (at1 p.name ω.ay) p.au (foO (at1 p.name ω.ay))))/\∀ s,s∈x.2.2↔s∈Ks\/(p.kind=17/\s∈wrO (at1 p.name ω.ay))) ?_ ?_
 ·by_cases hk:p.kind=17
  ·(repeat' first|apply Ca 42;(refine km0 (λq hq=>?_) (λhq=>?_))|apply Ca 9;(refine j3 9 ?_)|refine yyp ?_;try refine Ce ?_ ?_<;>intro hb|refine yy ?_|apply ah;refine Cc Mh ?_|refine Cb λK hK=>?_|apply Cf 8;refine j0 [11] jl8 ?_|apply_assumption -exfalso -symm)
   ·skip
    refine k7 46 rfl λhsm2=>?_;simp only[Aa]at hsm2;refine j9 rh2 [931] (λx:Nat × Nat × List Ex=>[(48,.d (.int .i64 x.1)),(6,.own 931 x.2.1)]) (λx=>[(931,.row 28 6 true (x.2.2.map dE) x.2.1)]) (λx=>x.1<=p.au.length/\x.2.2.length<=906000+x.1/\∀ e,e∈x.2.2↔e∈Y0\/∃ i<x.1,p.au[i]? =some e/\jg4 e=true/\Tc (q.ax.drop i)=true) (λx=>p.au.length - x.1) (0,kv,Y0) ⟨Ai _,hY0l,λe=>by simp⟩ λ⟨j,kv,Y⟩ ⟨hj,hYl,hY⟩=>?_;dsimp only[Ac,Ad]at hj hYl hY ⊢;rcases Ah j p.au.length with hj2|hj2
    ·have ce:=Ke gl p.au[j];simp only[k9]at ce
     (repeat' first|apply Ca 12;(refine j3 12 ?_)|apply Ca 76;(refine Df 76 ?_)|refine yyp ?_;try refine Ce ?_ ?_<;>intro hb|refine yy ?_|refine yy2 ?_ ?_<;>intro hcmp|apply Cg 74;refine Ci (hc:=ce) ?_;try refine Ce ?_ ?_<;>intro hb|apply Cg 75;refine Ci (hc:=(rz1 gl (q.ax[j]'(by omega)))) ?_;try refine Ce ?_ ?_<;>intro hb|(apply Cw;first|(refine Da (λkv=>?_))|(refine ai (λsx sp kv hsx hsp hsl=>?_)))|apply ah;refine Cc Mh ?_|refine Cb λK hK=>?_|apply Cf 8;refine j0 [11] jl8 ?_|apply_assumption -exfalso -symm)
     all_goals first
      |(refine⟨(j+1,kv,Y++[p.au[j]]),⟨by dsimp only;omega,by dsimp only;simp only[Ag,An,Av];omega,rh3 (c:=λi e=>jg4 e=true/\Tc (q.ax.drop i)=true) hY hj2 ?_⟩,by dsimp only;omega,?_⟩
        ·exact⟨by assumption,ks3.2 ⟨by omega,by assumption⟩⟩
        ·dsimp only;simp only[Ar,Ap,Ba];exact r9)
      |(refine⟨(j+1,kv,Y),⟨by dsimp only;omega,by dsimp only;omega,rz5 (c:=λi e=>jg4 e=true/\Tc (q.ax.drop i)=true) hY hj2 ?_⟩,by dsimp only;omega,r9⟩
        rw[ks3];grind)
    obtain rfl:j=p.au.length:=by omega
    (repeat' first|apply Ca 82;(refine Ga (hc:=my8 gl _ _) ?_;rintro L1 hL1)|refine yyp ?_;try refine Ce ?_ ?_<;>intro hb|refine yy ?_|apply ah;refine Cc Mh ?_|refine Cb λK hK=>?_|apply Cf 8;refine j0 [11] jl8 ?_|apply_assumption -exfalso -symm)
    refine⟨(Y,kv,L1),⟨by dsimp only;omega,λe=>?_,λs=>?_⟩,r9⟩
    ·dsimp only;rw[hY,km2,hq];simp only[foO,Option.isNone_some,Az,false_or,hk,true_and];refine or_congr .rfl ⟨λ⟨i,_,h1,h2⟩=>⟨i,h1,h2⟩,λ⟨i,h1,h2⟩=>⟨i,(Bb.1 h1).1,h1,h2⟩⟩
    ·dsimp only;rw[hL1,hq];simp[hk,wrO]
   ·skip
    refine k7 46 rfl λhsm2=>?_;simp only[Aa]at hsm2;refine j9 rh2 [931] (λx:Nat × Nat × List Ex=>[(48,.d (.int .i64 x.1)),(6,.own 931 x.2.1)]) (λx=>[(931,.row 28 6 true (x.2.2.map dE) x.2.1)]) (λx=>x.1<=p.au.length/\x.2.2.length<=906000+x.1/\∀ e,e∈x.2.2↔e∈Y0\/∃ i<x.1,p.au[i]? =some e/\jg4 e=true) (λx=>p.au.length - x.1) (0,kv,Y0) ⟨Ai _,hY0l,λe=>by simp⟩ λ⟨j,kv,Y⟩ ⟨hj,hYl,hY⟩=>?_;dsimp only[Ac,Ad]at hj hYl hY ⊢;rcases Ah j p.au.length with hj2|hj2
    ·have ce:=Ke gl p.au[j];simp only[k9]at ce
     (repeat' first|apply Ca 12;(refine j3 12 ?_)|apply Ca 76;(refine Df 76 ?_)|refine yyp ?_;try refine Ce ?_ ?_<;>intro hb|refine yy ?_|apply Cg 74;refine Ci (hc:=ce) ?_;try refine Ce ?_ ?_<;>intro hb|(apply Cw;first|(refine Da (λkv=>?_))|(refine ai (λsx sp kv hsx hsp hsl=>?_)))|apply ah;refine Cc Mh ?_|refine Cb λK hK=>?_|apply Cf 8;refine j0 [11] jl8 ?_|apply_assumption -exfalso -symm)
     all_goals first
      |(refine⟨(j+1,kv,Y++[p.au[j]]),⟨by dsimp only;omega,by dsimp only;simp only[Ag,An,Av];omega,rh3 (c:=λi e=>jg4 e=true) hY hj2 ?_⟩,by dsimp only;omega,?_⟩
        ·assumption
        ·dsimp only;simp only[Ar,Ap,Ba];exact r9)
      |(refine⟨(j+1,kv,Y),⟨by dsimp only;omega,by dsimp only;omega,rz5 (c:=λi e=>jg4 e=true) hY hj2 ?_⟩,by dsimp only;omega,r9⟩
        simp_all)
    obtain rfl:j=p.au.length:=by omega
    (repeat' first|apply Ca 82;(refine Ch (hc:=mn1 gl _) ?_)|refine yyp ?_;try refine Ce ?_ ?_<;>intro hb|refine yy ?_|apply ah;refine Cc Mh ?_|refine Cb λK hK=>?_|apply Cf 8;refine j0 [11] jl8 ?_|apply_assumption -exfalso -symm)
    refine⟨(Y,kv,Ks),⟨by dsimp only;omega,λe=>?_,λs=>?_⟩,r9⟩
    ·dsimp only;rw[hY,km2,hq];simp only[Option.isNone_none,true_or,and_true,hk,true_and];refine or_congr .rfl ⟨λ⟨i,_,h1,h2⟩=>⟨i,h1,h2⟩,λ⟨i,h1,h2⟩=>⟨i,(Bb.1 h1).1,h1,h2⟩⟩
    ·dsimp only;rw[hq];simp[wrO]
  ·(repeat' first|refine yyp ?_;try refine Ce ?_ ?_<;>intro hb|refine yy ?_|apply ah;refine Cc Mh ?_|refine Cb λK hK=>?_|apply Cf 8;refine j0 [11] jl8 ?_|apply_assumption -exfalso -symm)
   refine⟨(Y0,kv,Ks),⟨by dsimp only;omega,λe=>?_,λs=>?_⟩,r9⟩
   ·simp[hk]
   ·simp[hk]
 rintro⟨Y,kw,L⟩ ⟨hYl,hY,hL⟩;dsimp only[Ac,Ad]at hYl hY hL ⊢;refine jm1 (ku3 6 rfl (ToD.own rfl)) ?_
 (repeat' first|refine yyp ?_;try refine Ce ?_ ?_<;>intro hb|refine yy ?_|apply ah;refine Cc Mh ?_|refine Cb λK hK=>?_|apply Cf 8;refine j0 [11] jl8 ?_|apply_assumption -exfalso -symm)
 refine j9 [14,85,86,87,88,89,90,91,92,93,94,95,96] [905] (λj:Nat=>[(85,.d (.int .i64 j))]) (λj=>[(905,.map (Di (Ik L ((Y.take j).map λe=>Dq ω.is e.s))) (Dj (Ik L ((Y.take j).map λe=>Dq ω.is e.s))))]) (λj=>j<=Y.length) (λj=>Y.length - j) 0 (Ai _) λj hj=>?_;dsimp only[Ac,Ad];rcases Ah j Y.length with hj2|hj2
 ·have c4:=cb Y[j].s;have c5:=qn4 gl (Ik L ((Y.take j).map λe=>Dq ω.is e.s)) [Dq ω.is Y[j].s];rw[ky1,show((Y.take j).map λe=>Dq ω.is e.s)++[Dq ω.is Y[j].s]=(Y.take (j+1)).map λe=>Dq ω.is e.s by rw[Ao hj2,Ar];rfl]at c5;simp only[Ap,Ba]at c5
  (repeat' first|apply Ca 14;(refine j3 14 ?_)|apply Ca 93;refine Ch (hc:=c4) ?_|apply Ca 94;(refine Df 94 ?_)|apply Ca 95;refine Ch (hc:=c5) ?_|refine yyp ?_;try refine Ce ?_ ?_<;>intro hb|refine yy ?_|apply ah;refine Cc Mh ?_|refine Cb λK hK=>?_|apply Cf 8;refine j0 [11] jl8 ?_|apply_assumption -exfalso -symm)
  exact⟨j+1,by omega,by omega,r9⟩
 obtain rfl:j=Y.length:=by omega
 rw[Bk,<-k9];obtain⟨L0,hL0⟩:∃ L0,L0=Ik L (Y.map λe=>Dq ω.is e.s):=⟨_,rfl⟩;rw[<-hL0]
 (repeat' first|refine yyp ?_;try refine Ce ?_ ?_<;>intro hb|refine yy ?_|apply Cg 72;refine Ci (hc:=cp) ?_|apply ah;refine Cc Mh ?_|refine Cb λK hK=>?_|apply Cf 8;refine j0 [11] jl8 ?_|apply_assumption -exfalso -symm)
 refine j9 [16,100,101,102,103,104,105,106,107,108] [905] (λx:Nat × List ByteArray=>[(100,.d (.int .i64 x.1))]) (λx=>[(905,.map (Di x.2) (Dj x.2))]) (λx=>x.1<=(aB p).length/\∀ s,s∈x.2↔s∈L0\/∃ q∈(aB p).take x.1,s∈jv4 ω q) (λx=>(aB p).length - x.1) (0,L0) ⟨Ai _,λs=>by simp⟩ λ⟨j,L2⟩ ⟨hj,hL2⟩=>?_;dsimp only[Ac,Ad]at hj hL2 ⊢;rcases Ah j (aB p).length with hj2|hj2
 ·have hone:=hrec (aB p)[j] (At hj2) L2
  (repeat' first|apply Ca 16;(refine j3 16 ?_)|apply Ca 107;(refine Ga (hc:=hone) ?_;rintro L3 hL3)|refine yyp ?_;try refine Ce ?_ ?_<;>intro hb|refine yy ?_|apply ah;refine Cc Mh ?_|refine Cb λK hK=>?_|apply Cf 8;refine j0 [11] jl8 ?_|apply_assumption -exfalso -symm)
  refine⟨(j+1,L3),⟨by dsimp only;omega,λs=>?_⟩,by dsimp only;omega,r9⟩;dsimp only;rw[hL3,hL2,Ao hj2];simp only[Bi,Bu]
  grind
 ·rw[Am hj2]at hL2
  (repeat' first|refine yyp ?_;try refine Ce ?_ ?_<;>intro hb|refine yy ?_|apply ah;refine Cc Mh ?_|refine Cb λK hK=>?_|apply Cf 8;refine j0 [11] jl8 ?_|apply_assumption -exfalso -symm)
  exact n9 ⟨L2,λs=>by
   rw[hL2,hL0,kg0,hL,qo0 p,Bx];simp only[hY,hY0,Bi]
   grind,rfl,rfl⟩
open Lx Sc
theorem rz7 (ω:Wd)(hr:Rank ω.is):∀ (n:Nat) (p:Pr),SizeOf.sizeOf p<=n->Iw p->∀ Ks:List ByteArray,FnE prog gl 43 [.ptr 900 0,.d (dPr p),.map 905] (HA ω++[(905,.map (Di Ks) (Dj Ks))]) (λv H1=>∃ L:List ByteArray,(∀ s,s∈L↔s∈Ks\/s∈jv4 ω p)/\v=.tup []/\H1=HA ω++[(905,.map (Di L) (Dj L))]):=by
 intro n
 induction n with
 |zero=>intro p h;cases p;simp only[Pr.mk.sizeOf_spec]at h;omega
 |succ n ih=>
  intro p hp ha Ks;have hm:=jr1 ha;have hl:=lens hm;refine rz6 gl ω hr p Ks hl.exs (by have:=hl.parts;omega) λq hq Ls=>ih q ?_ (jk0 ha hq) Ls;have:=jb6 hq;omega
theorem vf0 (ω:Wd)(hr:Rank ω.is)(p:Pr)(ha:Iw p)(Ks:List ByteArray):FnE prog gl 43 [.ptr 900 0,.d (dPr p),.map 905] (HA ω++[(905,.map (Di Ks) (Dj Ks))]) (λv H1=>∃ L:List ByteArray,(∀ s,s∈L↔s∈Ks\/s∈jv4 ω p)/\v=.tup []/\H1=HA ω++[(905,.map (Di L) (Dj L))]):=rz7 gl ω hr _ p (Au _) ha Ks
theorem ky3 (ω:Wd)(hr:Rank ω.is)(p:Pr)(ha:Iw p):FnE prog gl 24 [.ptr 900 0,.d (dPr p)] (HA ω) (λv H1=>∃ L:List ByteArray × List ByteArray,((∀ s,s∈L.1↔s∈jc4 ω p)/\∀ s,s∈L.2↔s∈jv4 ω p)/\v=.tup [.d (.map (Di L.1) (Dj L.1)),.d (.map (Di L.2) (Dj L.2))]/\H1=HA ω):=by
 have c1:=rz4 gl ω p ha [];have c2:=vf0 gl ω hr p ha [];rw[v6]at c1 c2 ⊢;dsimp only[HA,Ac,Ad,Di,Dj,Ba]at c1 c2 ⊢
 (refine j2 func24 ntmps24 results24 λw M E b0=>?_)
 (repeat' first|apply Ca 3;(refine Cm 3 ?_)|apply Ca 6;(refine Iz 904 ?_)|apply Ca 7;(refine Iz 905 ?_)|apply Ca 11;(refine Ga (hc:=c1) ?_;rintro L1 hL1)|apply Ca 15;(refine Ga (hc:=c2) ?_;rintro L2 hL2)|refine yyp ?_;try refine Ce ?_ ?_<;>intro hb|refine yy ?_|apply ah;refine Cc [0,1,3,4,5,6,7] ?_|refine Cb λK hK=>?_|apply_assumption -exfalso -symm)
 refine mm8 4 904 rfl rfl (ns:=[904]) (by(repeat (first|exact Drop.nil|apply Drop.drop rfl|apply Drop.take rfl));fail_if_success intros) rfl rfl ?_;refine mm8 5 905 rfl rfl (ns:=[905]) (by(repeat (first|exact Drop.nil|apply Drop.drop rfl|apply Drop.take rfl));fail_if_success intros) rfl rfl ?_;refine j1 (j6 ⟨(L1,L2),⟨λs=>?_,λs=>?_⟩,?_,rfl⟩)
 ·dsimp only;rw[hL1];simp
 ·dsimp only;rw[hL2];simp
 ·rfl
end Al
end
section
namespace Al
def SimC (a b:ByteArray × Pc):Prop:=a.1=b.1/\a.2.ax=b.2.ax/\(∀ s,s∈a.2.occ↔s∈b.2.occ)/\∀ s,s∈a.2.wr↔s∈b.2.wr
def Pg:List (ByteArray × Pc)->List (ByteArray × Pc)->Prop
 |[],[]=>True
 |a::l,b::m=>SimC a b/\Pg l m
 |_,_=>False
structure Sim (w v:Wd):Prop where
 known:w.known=v.known
 is:w.is=v.is
 ay:Pg w.ay v.ay
theorem SimC.refl (a:ByteArray × Pc):SimC a a:=⟨rfl,rfl,λ_=>.rfl,λ_=>.rfl⟩
theorem Pg.refl:∀ l,Pg l l
 |[]=>trivial
 |a::l=>⟨SimC.refl a,Pg.refl l⟩
theorem Pg.trans:∀ {l m n},Pg l m->Pg m n->Pg l n
 |[],[],[],_,_=>trivial
 |a::l,b::m,c::n,⟨⟨h1,h2,h3,h4⟩,h5⟩,⟨⟨k1,k2,k3,k4⟩,k5⟩=>⟨⟨h1.trans k1,h2.trans k2,λs=>(h3 s).trans (k3 s),λs=>(h4 s).trans (k4 s)⟩,Pg.trans h5 k5⟩
 |[],[],_::_,_,h=>h.elim
 |[],_::_,_,h,_=>h.elim
 |_::_,[],_,h,_=>h.elim
 |_::_,_::_,[],_,h=>h.elim
theorem Sim.refl (w:Wd):Sim w w:=⟨rfl,rfl,Pg.refl _⟩
theorem Sim.trans {w v u:Wd}(h:Sim w v)(k:Sim v u):Sim w u:=⟨h.known.trans k.known,h.is.trans k.is,h.ay.trans k.ay⟩
inductive Uj:Option Pc->Option Pc->Prop
 |none:Uj Option.none Option.none
 |some {a b:Pc} (hf:a.ax=b.ax) (ho:∀ s,s∈a.occ↔s∈b.occ) (hw:∀ s,s∈a.wr↔s∈b.wr):Uj (Option.some a) (Option.some b)
theorem Pg.at:∀ {l m:List (ByteArray × Pc)},Pg l m->∀ s,Uj (at1 s l) (at1 s m)
 |[],[],_,s=>.none
 |(x,a)::l,(y,b)::m,⟨⟨h1,h2,h3,h4⟩,h5⟩,s=>by
  simp only at h1;subst h1;simp only[at1];split
  ·exact .some h2 h3 h4
  ·exact Pg.at h5 s
 |[],_::_,h,_=>h.elim
 |_::_,[],h,_=>h.elim
theorem Pg.up {s:ByteArray}{a b:Pc}(hf:a.ax=b.ax)(ho:∀ s,s∈a.occ↔s∈b.occ)(hw:∀ s,s∈a.wr↔s∈b.wr):∀ {l m:List (ByteArray × Pc)},Pg l m->Pg (up1 s a l) (up1 s b m)
 |[],[],_=>⟨⟨rfl,hf,ho,hw⟩,trivial⟩
 |(x,c)::l,(y,d)::m,⟨⟨h1,h2,h3,h4⟩,h5⟩=>by
  simp only at h1;subst h1;simp only[up1];split
  ·exact⟨⟨rfl,hf,ho,hw⟩,h5⟩
  ·exact⟨⟨rfl,h2,h3,h4⟩,Pg.up hf ho hw h5⟩
 |[],_::_,h=>h.elim
 |_::_,[],h=>h.elim
theorem Uj.occ {a b:Option Pc}(h:Uj a b)(s:ByteArray):s∈ro8 a↔s∈ro8 b:=by
 cases h with
 |none=>rfl
 |some _ ho _=>exact ho s
theorem Uj.wr {a b:Option Pc}(h:Uj a b)(s:ByteArray):s∈wrO a↔s∈wrO b:=by
 cases h with
 |none=>rfl
 |some _ _ hw=>exact hw s
theorem Uj.callE {a b:Option Pc}(h:Uj a b)(l:List Ex):Ng a l (foO a)=Ng b l (foO b):=by
 cases h with
 |none=>rfl
 |@some a b hf _ _=>
  have:∀ (l:List Ex) (fs:List Fo),Al.Ng (Option.some a) l fs=Al.Ng (Option.some b) l fs:=λl=>by
   induction l with
   |nil=>intro fs;rfl
   |cons e l ih=>intro fs;simp only[Al.Ng,ih,Option.isNone_some]
  simp only[foO,hf];exact this _ _
theorem rp5 {w v:Wd}(h:Sim w v):∀ (n:Nat) (p:Pr),SizeOf.sizeOf p<=n->∀ s,s∈jc4 w p↔s∈jc4 v p:=by
 intro n
 induction n with
 |zero=>intro p h;cases p;simp only[Pr.mk.sizeOf_spec]at h;omega
 |succ n ih=>
  intro p hp s;rw[mn3,mn3,h.known,(h.ay.at p.name).occ s];refine or_congr .rfl (or_congr .rfl ⟨?_,?_⟩)
  ·rintro⟨q,hq,hs⟩;exact⟨q,hq,(ih q (by have:=jb6 hq;omega) s).1 hs⟩
  ·rintro⟨q,hq,hs⟩;exact⟨q,hq,(ih q (by have:=jb6 hq;omega) s).2 hs⟩
theorem Sim.occ {w v:Wd}(h:Sim w v)(p:Pr)(s:ByteArray):s∈jc4 w p↔s∈jc4 v p:=rp5 h _ p (Au _) s
end Al
end
section
namespace Al
theorem rz8 {w v:Wd}(h:Sim w v):∀ (n:Nat) (p:Pr),SizeOf.sizeOf p<=n->∀ s,s∈jv4 w p↔s∈jv4 v p:=by
 intro n
 induction n with
 |zero=>intro p h;cases p;simp only[Pr.mk.sizeOf_spec]at h;omega
 |succ n ih=>
  intro p hp s;have hs:=h.ay.at p.name;rw[qo0,qo0,h.is,hs.wr s,hs.callE p.au];refine or_congr .rfl (or_congr .rfl ⟨?_,?_⟩)
  ·rintro⟨q,hq,hs⟩;exact⟨q,hq,(ih q (by have:=jb6 hq;omega) s).1 hs⟩
  ·rintro⟨q,hq,hs⟩;exact⟨q,hq,(ih q (by have:=jb6 hq;omega) s).2 hs⟩
theorem Sim.wr {w v:Wd}(h:Sim w v)(p:Pr)(s:ByteArray):s∈jv4 w p↔s∈jv4 v p:=rz8 h _ p (Au _) s
theorem Sim.Mg {w v:Wd}(h:Sim w v)(rep:ByteArray)(sk:Int)(sn:List ByteArray)(se:ByteArray)(sf:List Fo):Sim (Mg w rep sk sn se sf) (Mg v rep sk sn se sf):=by
 unfold Al.Mg;dsimp only;rw[h.known];split
 ·split
  ·exact⟨rfl,by dsimp only;rw[h.is],h.ay⟩
  ·exact⟨rfl,h.is,h.ay⟩
 ·exact⟨rfl,h.is,h.ay⟩
theorem Sim.Lf {w v:Wd}(h:Sim w v)(sk:Int)(sn:List ByteArray)(sf:List Fo){occ wr occ' wr':List ByteArray}(ho:∀ s,s∈occ↔s∈occ')(hw:∀ s,s∈wr↔s∈wr'):Sim (Lf w sk sn sf occ wr) (Lf v sk sn sf occ' wr'):=by
 unfold Al.Lf;split
 ·split
  ·exact⟨h.known,h.is,Pg.up (a:=⟨sf,occ,wr⟩) (b:=⟨sf,occ',wr'⟩) rfl ho hw h.ay⟩
  ·exact h
 ·exact h
noncomputable def vd0 (w:Wd):List Pr->List ByteArray
 |b::_=>jc4 w b
 |[]=>[]
noncomputable def wrB (w:Wd):List Pr->List ByteArray
 |b::_=>jv4 w b
 |[]=>[]
theorem kc2 (w:Wd)(p:Pr):n5 w p=Gf (Ho (Lf (Gf (Mg w p.rep.name p.spec.kind p.spec.names p.spec.e.s p.spec.ax) p.spec.body) p.spec.kind p.spec.names p.spec.ax (vd0 (Gf (Mg w p.rep.name p.spec.kind p.spec.names p.spec.e.s p.spec.ax) p.spec.body) p.spec.body) (wrB (Gf (Mg w p.rep.name p.spec.kind p.spec.names p.spec.e.s p.spec.ax) p.spec.body) p.spec.body)) p.ak) p.l:=by
 obtain⟨kind,name,av,aj,au,rep,ak,l,ay,⟨sk,st,sn,se,spp,sf,sb⟩⟩:=p;simp only[n5,Pr.rep,Pr.spec,Sp.kind,Sp.names,Sp.e,Sp.ax,Sp.body,Pr.ak,Pr.l];cases sb<;>rfl
mutual
theorem jy7:∀ (p:Pr) {w v:Wd},Sim w v->Sim (n5 w p) (n5 v p)
 |.mk kind name av aj au rep ak l ay (.mk sk st sn se spp sf sb),w,v,h=>by
  have h1:=jt2 sb (h.Mg rep.name sk sn se.s sf);rw[kc2,kc2];simp only[Pr.rep,Pr.spec,Sp.kind,Sp.names,Sp.e,Sp.ax,Sp.body,Pr.ak,Pr.l];refine jt2 l (ks4 ak (h1.Lf sk sn sf (λs=>?_) λs=>?_))
  ·cases sb with
   |nil=>rfl
   |cons b r=>exact h1.occ b s
  ·cases sb with
   |nil=>rfl
   |cons b r=>exact h1.wr b s
theorem jt2:∀ (l:List Pr) {w v:Wd},Sim w v->Sim (Gf w l) (Gf v l)
 |[],w,v,h=>by simpa [Gf]using h
 |p::l,w,v,h=>by
  simp only[Gf];exact jt2 l (jy7 p h)
theorem ks4:∀ (l:List Gu) {w v:Wd},Sim w v->Sim (Ho w l) (Ho v l)
 |[],w,v,h=>by simpa [Ho]using h
 |.mk _ _ _ _ _ _ _ body::l,w,v,h=>by
  simp only[Ho];exact ks4 l (jt2 body h)
end
theorem mg2 (w:Wd):∀ (a b:List Pr),Gf w (a++b)=Gf (Gf w a) b:=by
 intro a
 induction a generalizing w with
 |nil=>intro b;simp[Gf]
 |cons p a ih=>intro b;simp only[Ac,Gf,ih]
theorem jy8 (w:Wd)(l:List Pr)(j:Nat)(h:j<l.length):Gf w (l.take (j+1))=n5 (Gf w (l.take j)) l[j]:=by
 rw[Ao h,mg2];simp[Gf]
theorem mg3 (w:Wd):∀ (a b:List Gu),Ho w (a++b)=Ho (Ho w a) b:=by
 intro a
 induction a generalizing w with
 |nil=>intro b;simp[Ho]
 |cons p a ih=>intro b;cases p;simp only[Ac,Ho,ih]
theorem ky4 (w:Wd)(l:List Gu)(j:Nat)(h:j<l.length){b:Pr}(hb:l[j].body=[b]):Ho w (l.take (j+1))=n5 (Ho w (l.take j)) b:=by
 rw[Ao h,mg3];generalize l[j]=g at hb;obtain⟨_,_,_,_,_,_,_,body⟩:=g;simp only[Gu.body]at hb;subst hb;simp[Ho,Gf]
end Al
end
end Go.Proofs.YtklklgfpkpglgaaGreatDoor
