/- Parts: A12, A13, A14. -/
import Derived.Test.YtklklgfpkpglgaaGreatDoorP42
set_option linter.all false
set_option maxRecDepth 100000
set_option maxHeartbeats 16000000
namespace Go.Proofs.YtklklgfpkpglgaaGreatDoor
open Go.RowKit Go.Proofs.Tryz
section
def Lu:List Nat:=[0,1,2,4,6,8,9,10,11,12,14,16,21,22,23,24,34,46,47,48,49,73,83,84,85,86,98,99,100,101]
def rh1:List Nat:=[6,11,12,48,49,50,51,52,53,54,55,56,57,58,59,60,61,62,63,64,65,66,67,68,69,70,71,72,73,74,75,76,77,78]
def jm1:Plan:=lin [0,4,8,16,13,21,25,28,32,36,42,47,48]
namespace Al
theorem kn6 {q:Option Pc}{e:Ex}:∀ {l:List Ex} {fs:List Fo},e∈Ky q l fs↔∃ i:Nat,l[i]? =some e/\jc3 e=true/\(q.isNone=true\/Rx (fs.drop i)=true)
 |[],fs=>by simp[Ky]
 |x::l,fs=>by
  simp only[Ky,Ap,kn6 (l:=l) (fs:=fs.drop 1),List.drop_drop];constructor
  ·rintro(h|⟨i,h1,h2,h3⟩)
   ·split at h
    ·rename_i hc;simp only[Bn]at h;subst h;simp only[Aa,Bm]at hc;exact⟨0,rfl,hc.1,hc.2⟩
    ·cases h
   ·exact⟨i+1,by simpa using h1,h2,by rw[Nat.add_comm];exact h3⟩
  ·rintro⟨i,h1,h2,h3⟩;cases i with
   |zero=>
    simp only[List.getElem?_cons_zero,Bf]at h1;subst h1;left;rw[Ad (by simp only[Aa,Bm];exact⟨h2,h3⟩)];simp
   |succ i=>exact .inr ⟨i,by simpa using h1,h2,by rw[Nat.add_comm]at h3;exact h3⟩
theorem kt0 {fs:List Fo}{i:Nat}:Rx (fs.drop i)=true↔∃ h:i<fs.length,vb6 fs[i]=true:=by
 rcases Ah i fs.length with h|h
 ·rw[By h];simp[Rx,h]
 ·rw[Bz h];simp only[Rx];constructor
  ·intro h;cases h
  ·rintro⟨h2,_⟩;omega
theorem qo3 {w:Wd}{s:ByteArray}(p:Pr):s∈ka7 w p↔(∃ e,(e∈p.targets\/e∈jh7 p.guards\/(p.kind=17/\e∈Ky (at1 p.name w.procs) p.exprs (foO (at1 p.name w.procs))))/\s=Dw w.is e.s)\/(p.kind=17/\s∈wrO (at1 p.name w.procs))\/∃ q∈partsOf p,s∈ka7 w q:=by
 obtain⟨kind,name,chan,targets,exprs,rep,guards,l,procs,⟨sk,st,sn,se,spp,sf,sb⟩⟩:=p;have h1:∀ l:List Pr,s∈km9 w l↔∃ q∈l,s∈ka7 w q:=fun l=>by
  induction l with
  |nil=>simp[km9]
  |cons x l ih=>simp[km9,ih]
 have h2:∀ l:List Gu,s∈kx9 w l↔∃ q∈l.flatMap (·.body),s∈ka7 w q:=fun l=>by
  induction l with
  |nil=>simp[kx9]
  |cons x l ih=>
   obtain⟨_,_,_,_,_,_,_,body⟩:=x;simp only[kx9,Ap,ih,h1,En,Gu.body]
   grind
 simp only[ka7,partsOf,Ap,Bl,h1,h2,Pr.kind,Pr.spec,Pr.targets,Pr.exprs,Pr.guards,Pr.name,Sp.body,Pr.l];split<;>grind
def ro7 (X:List Ex)(gs:List Gu):Nat->List Ex
 |0=>X
 |j+1=>X++jh7 (gs.take (j+1))
theorem kz3 (X:List Ex)(gs:List Gu)(j:Nat):ro7 X gs j=X++jh7 (gs.take j):=by
 cases j with
 |zero=>simp[ro7,jh7]
 |succ j=>rfl
theorem kn7:∀ a b:List Gu,jh7 (a++b)=jh7 a++jh7 b
 |[],b=>rfl
 |.mk _ _ _ _ _ _ _ _::a,b=>by simp only[Ac,jh7,kn7 a b,Bv]
theorem qa5 (gs:List Gu)(j:Nat)(h:j<gs.length):jh7 (gs.take (j+1))=jh7 (gs.take j)++gs[j].targets:=by
 rw[Ao h,kn7];cases gs[j];simp[jh7,Gu.targets]
theorem rb5 (gs:List Gu):(jh7 gs).length<=(jd4 gs).length:=by
 induction gs with
 |nil=>simp[jh7]
 |cons g gs ih=>
  obtain⟨_,_,_,_,_,_,_,_⟩:=g;simp only[jh7,jd4,rx2,Ag];omega
theorem rh2 {Y Y0 l:List Ex}{j:Nat}{c:Nat->Ex->Prop}(hY:∀ e,e∈Y↔e∈Y0\/∃ i<j,l[i]? =some e/\c i e)(hj:j<l.length)(hc:c j l[j]):∀ e,e∈Y++[l[j]]↔e∈Y0\/∃ i<j+1,l[i]? =some e/\c i e:=fun e=>by
 rw[Ap,hY,Bn,or_assoc];refine or_congr .rfl ⟨?_,?_⟩
 ·rintro(⟨i,h1,h2⟩|rfl)
  ·exact⟨i,by omega,h2⟩
  ·exact⟨j,by omega,At hj,hc⟩
 ·rintro⟨i,h1,h2,h3⟩;by_cases h:i<j
  ·exact .inl ⟨i,h,h2,h3⟩
  ·obtain rfl:i=j:=by omega
   rw[At hj]at h2;cases h2;exact .inr rfl
theorem ry1 {Y Y0 l:List Ex}{j:Nat}{c:Nat->Ex->Prop}(hY:∀ e,e∈Y↔e∈Y0\/∃ i<j,l[i]? =some e/\c i e)(hj:j<l.length)(hc:¬c j l[j]):∀ e,e∈Y↔e∈Y0\/∃ i<j+1,l[i]? =some e/\c i e:=fun e=>by
 rw[hY];refine or_congr .rfl ⟨?_,?_⟩
 ·rintro⟨i,h1,h2⟩;exact⟨i,by omega,h2⟩
 ·rintro⟨i,h1,h2,h3⟩;by_cases h:i<j
  ·exact⟨i,h,h2,h3⟩
  ·obtain rfl:i=j:=by omega
   rw[At hj]at h2;cases h2;exact absurd h3 hc
attribute [local irreducible] TR TC
theorem ry2 (gl:List (Nat × List D))(ω:Wd)(hr:Rank ω.is)(p:Pr)(Ks:List ByteArray)(hlen:p.targets.length<=6000/\p.exprs.length<=6000/\(jd4 p.guards).length<=900000)(hpl:(partsOf p).length<=1000000)
 (hrec:∀ q∈partsOf p,∀ Ls:List ByteArray,FnE prog gl 43 [.ptr 900 0,.d (dPr q),.map 905] (HA ω++[(905,.map (Dq Ls) (Dr Ls))]) (fun v H1=>∃ L:List ByteArray,(∀ s,s∈L↔s∈Ls\/s∈ka7 ω q)/\v=.tup []/\H1=HA ω++[(905,.map (Dq L) (Dr L))])):
 FnE prog gl 43 [.ptr 900 0,.d (dPr p),.map 905] (HA ω++[(905,.map (Dq Ks) (Dr Ks))]) (fun v H1=>∃ L:List ByteArray,(∀ s,s∈L↔s∈Ks\/s∈ka7 ω p)/\v=.tup []/\H1=HA ω++[(905,.map (Dq L) (Dr L))]):=by
 have cp:=Rc gl p hpl;have c0:=ky8 gl (p.targets.map dEx) (by simp;omega);simp only[j9]at hrec cp;have cb:=fun s=>ky6 gl ω s hr;rw[j9];dsimp only[HA,Ac,Af]at hrec cb ⊢
 (refine j2 func43 ntmps43 results43 fun w M E b0=>?_)
 (repeat' first|refine Ca 4 ?_;(refine Cq 4 ?_)|refine Ca 19 ?_;refine Cg (hc:=c0) ?_|refine yyp ?_;try refine Ce ?_ ?_<;>intro hb|refine yy ?_|refine at_nil ?_;refine Cc Lu ?_|refine Cb fun K hK=>?_|refine Cf 8 ?_;refine j0 [11] jm1 ?_|apply_assumption -exfalso -symm)
 rw[jd7];have hgm:∀ j,(jh7 (p.guards.take j)).length<=(jh7 p.guards).length:=fun j=>by
  have:jh7 p.guards=jh7 (p.guards.take j)++jh7 (p.guards.drop j):=by rw[<-kn7,List.take_append_drop]
  rw[this,Ag];omega
 have htl:=rb5 p.guards;refine j8 21 rfl fun hsm=>?_;simp only[Ab]at hsm;refine j6 [6,8,23,24,25,26,27,28,29,30,31] [931] (fun x:Nat × Nat=>[(23,.d (.int .i64 x.1)),(6,.own 931 x.2)]) (fun x=>[(931,.row 28 6 true ((ro7 p.targets p.guards x.1).map dEx) x.2)]) (fun x=>x.1<=p.guards.length) (fun x=>p.guards.length - x.1) (0,0) (Ai _) fun⟨j,kv⟩ hj=>?_;dsimp only[Ac,Af]at hj ⊢;rcases Ah j p.guards.length with hj2|hj2
 ·have hst:=qa5 p.guards j hj2;have hm1:=hgm (j+1);rw[hst,Ag]at hm1;rw[kz3 _ _ j]
  (repeat' first|refine Ca 8 ?_;(refine j3 8 ?_)|refine yyp ?_;try refine Ce ?_ ?_<;>intro hb|refine yy ?_|(refine Da ?_;first|(refine Df (fun kv=>?_))|(refine z_append_suf (fun sx sp kv hsx hsp hsl=>?_)))|refine at_nil ?_;refine Cc Lu ?_|refine Cb fun K hK=>?_|refine Cf 8 ?_;refine j0 [11] jm1 ?_|apply_assumption -exfalso -symm)
  refine⟨(j+1,kv),by dsimp only;omega,by dsimp only;omega,?_⟩;dsimp only;rw[kz3 _ _ (j+1),hst];simp only[As,Bv];exact k8
 obtain rfl:j=p.guards.length:=by omega
 rw[kz3,Bg,<-jd7];obtain⟨Y0,hY0⟩:∃ Y0,Y0=p.targets++jh7 p.guards:=⟨_,rfl⟩;have hY0l:Y0.length<=906000:=by rw[hY0,Ag];omega
 rw[<-hY0]
 ((repeat' first|refine kf3 7 ?_;refine halt ?_|refine yyp ?_;try refine Ce ?_ ?_<;>intro hb|refine yy ?_|refine at_nil ?_;refine Cc Lu ?_|refine Cb fun K hK=>?_|refine Cf 8 ?_;refine j0 [11] jm1 ?_|apply_assumption -exfalso -symm);all_goals try refine unhalt ?_)
 rw[k9];refine jq9 [6] [931,905] (fun x:List Ex × Nat × List ByteArray=>[(6,.own 931 x.2.1)]) (fun x=>[(931,.row 28 6 true (x.1.map dE) x.2.1),(905,.map (Dq x.2.2) (Dr x.2.2))]) (fun x=>x.1.length<=1000000/\(∀ e,e∈x.1↔e∈Y0\/(p.kind=17/\e∈Ky (at1 p.name ω.procs) p.exprs (foO (at1 p.name ω.procs))))/\∀ s,s∈x.2.2↔s∈Ks\/(p.kind=17/\s∈wrO (at1 p.name ω.procs))) ?_ ?_
 ·by_cases hk:p.kind=17
  ·(repeat' first|refine Ca 42 ?_;(refine kn4 (fun q hq=>?_) (fun hq=>?_))|refine Ca 9 ?_;(refine j3 9 ?_)|refine yyp ?_;try refine Ce ?_ ?_<;>intro hb|refine yy ?_|refine at_nil ?_;refine Cc Lu ?_|refine Cb fun K hK=>?_|refine Cf 8 ?_;refine j0 [11] jm1 ?_|apply_assumption -exfalso -symm)
   ·skip
    refine j8 46 rfl fun hsm2=>?_;simp only[Ab]at hsm2;refine j6 rh1 [931] (fun x:Nat × Nat × List Ex=>[(48,.d (.int .i64 x.1)),(6,.own 931 x.2.1)]) (fun x=>[(931,.row 28 6 true (x.2.2.map dE) x.2.1)]) (fun x=>x.1<=p.exprs.length/\x.2.2.length<=906000+x.1/\∀ e,e∈x.2.2↔e∈Y0\/∃ i<x.1,p.exprs[i]? =some e/\jc3 e=true/\Rx (q.formals.drop i)=true) (fun x=>p.exprs.length - x.1) (0,kv,Y0) ⟨Ai _,hY0l,fun e=>by simp⟩ fun⟨j,kv,Y⟩ ⟨hj,hYl,hY⟩=>?_;dsimp only[Ac,Af]at hj hYl hY ⊢;rcases Ah j p.exprs.length with hj2|hj2
    ·have ce:=Jv gl p.exprs[j];simp only[k9]at ce
     (repeat' first|refine Ca 12 ?_;(refine j3 12 ?_)|refine Ca 76 ?_;(refine Dn 76 ?_)|refine yyp ?_;try refine Ce ?_ ?_<;>intro hb|refine yy ?_|refine yy2 ?_ ?_<;>intro hcmp|refine Ch 74 ?_;refine Ck (hc:=ce) ?_;try refine Ce ?_ ?_<;>intro hb|refine Ch 75 ?_;refine Ck (hc:=(rx7 gl (q.formals[j]'(by omega)))) ?_;try refine Ce ?_ ?_<;>intro hb|(refine Da ?_;first|(refine Df (fun kv=>?_))|(refine z_append_suf (fun sx sp kv hsx hsp hsl=>?_)))|refine at_nil ?_;refine Cc Lu ?_|refine Cb fun K hK=>?_|refine Cf 8 ?_;refine j0 [11] jm1 ?_|apply_assumption -exfalso -symm)
     all_goals first
      |(refine⟨(j+1,kv,Y++[p.exprs[j]]),⟨by dsimp only;omega,by dsimp only;simp only[Ag,An,Av];omega,rh2 (c:=fun i e=>jc3 e=true/\Rx (q.formals.drop i)=true) hY hj2 ?_⟩,by dsimp only;omega,?_⟩
        ·exact⟨by assumption,kt0.2 ⟨by omega,by assumption⟩⟩
        ·dsimp only;simp only[As,Aq,Ax];exact k8)
      |(refine⟨(j+1,kv,Y),⟨by dsimp only;omega,by dsimp only;omega,ry1 (c:=fun i e=>jc3 e=true/\Rx (q.formals.drop i)=true) hY hj2 ?_⟩,by dsimp only;omega,k8⟩
        rw[kt0];grind)
    obtain rfl:j=p.exprs.length:=by omega
    (repeat' first|refine Ca 82 ?_;(refine Gi (hc:=qa1 gl _ _) ?_;rintro L1 hL1)|refine yyp ?_;try refine Ce ?_ ?_<;>intro hb|refine yy ?_|refine at_nil ?_;refine Cc Lu ?_|refine Cb fun K hK=>?_|refine Cf 8 ?_;refine j0 [11] jm1 ?_|apply_assumption -exfalso -symm)
    refine⟨(Y,kv,L1),⟨by dsimp only;omega,fun e=>?_,fun s=>?_⟩,k8⟩
    ·dsimp only;rw[hY,kn6,hq];simp only[foO,Option.isNone_some,Ba,false_or,hk,true_and];refine or_congr .rfl ⟨fun⟨i,_,h1,h2⟩=>⟨i,h1,h2⟩,fun⟨i,h1,h2⟩=>⟨i,(Ay.1 h1).1,h1,h2⟩⟩
    ·dsimp only;rw[hL1,hq];simp[hk,wrO]
   ·skip
    refine j8 46 rfl fun hsm2=>?_;simp only[Ab]at hsm2;refine j6 rh1 [931] (fun x:Nat × Nat × List Ex=>[(48,.d (.int .i64 x.1)),(6,.own 931 x.2.1)]) (fun x=>[(931,.row 28 6 true (x.2.2.map dE) x.2.1)]) (fun x=>x.1<=p.exprs.length/\x.2.2.length<=906000+x.1/\∀ e,e∈x.2.2↔e∈Y0\/∃ i<x.1,p.exprs[i]? =some e/\jc3 e=true) (fun x=>p.exprs.length - x.1) (0,kv,Y0) ⟨Ai _,hY0l,fun e=>by simp⟩ fun⟨j,kv,Y⟩ ⟨hj,hYl,hY⟩=>?_;dsimp only[Ac,Af]at hj hYl hY ⊢;rcases Ah j p.exprs.length with hj2|hj2
    ·have ce:=Jv gl p.exprs[j];simp only[k9]at ce
     (repeat' first|refine Ca 12 ?_;(refine j3 12 ?_)|refine Ca 76 ?_;(refine Dn 76 ?_)|refine yyp ?_;try refine Ce ?_ ?_<;>intro hb|refine yy ?_|refine Ch 74 ?_;refine Ck (hc:=ce) ?_;try refine Ce ?_ ?_<;>intro hb|(refine Da ?_;first|(refine Df (fun kv=>?_))|(refine z_append_suf (fun sx sp kv hsx hsp hsl=>?_)))|refine at_nil ?_;refine Cc Lu ?_|refine Cb fun K hK=>?_|refine Cf 8 ?_;refine j0 [11] jm1 ?_|apply_assumption -exfalso -symm)
     all_goals first
      |(refine⟨(j+1,kv,Y++[p.exprs[j]]),⟨by dsimp only;omega,by dsimp only;simp only[Ag,An,Av];omega,rh2 (c:=fun i e=>jc3 e=true) hY hj2 ?_⟩,by dsimp only;omega,?_⟩
        ·assumption
        ·dsimp only;simp only[As,Aq,Ax];exact k8)
      |(refine⟨(j+1,kv,Y),⟨by dsimp only;omega,by dsimp only;omega,ry1 (c:=fun i e=>jc3 e=true) hY hj2 ?_⟩,by dsimp only;omega,k8⟩
        simp_all)
    obtain rfl:j=p.exprs.length:=by omega
    (repeat' first|refine Ca 82 ?_;(refine Cg (hc:=mo4 gl _) ?_)|refine yyp ?_;try refine Ce ?_ ?_<;>intro hb|refine yy ?_|refine at_nil ?_;refine Cc Lu ?_|refine Cb fun K hK=>?_|refine Cf 8 ?_;refine j0 [11] jm1 ?_|apply_assumption -exfalso -symm)
    refine⟨(Y,kv,Ks),⟨by dsimp only;omega,fun e=>?_,fun s=>?_⟩,k8⟩
    ·dsimp only;rw[hY,kn6,hq];simp only[Option.isNone_none,true_or,and_true,hk,true_and];refine or_congr .rfl ⟨fun⟨i,_,h1,h2⟩=>⟨i,h1,h2⟩,fun⟨i,h1,h2⟩=>⟨i,(Ay.1 h1).1,h1,h2⟩⟩
    ·dsimp only;rw[hq];simp[wrO]
  ·(repeat' first|refine yyp ?_;try refine Ce ?_ ?_<;>intro hb|refine yy ?_|refine at_nil ?_;refine Cc Lu ?_|refine Cb fun K hK=>?_|refine Cf 8 ?_;refine j0 [11] jm1 ?_|apply_assumption -exfalso -symm)
   refine⟨(Y0,kv,Ks),⟨by dsimp only;omega,fun e=>?_,fun s=>?_⟩,k8⟩
   ·simp[hk]
   ·simp[hk]
 rintro⟨Y,kw,L⟩ ⟨hYl,hY,hL⟩;dsimp only[Ac,Af]at hYl hY hL ⊢;refine jm4 (kv0 6 rfl (ToD.own rfl)) ?_
 (repeat' first|refine yyp ?_;try refine Ce ?_ ?_<;>intro hb|refine yy ?_|refine at_nil ?_;refine Cc Lu ?_|refine Cb fun K hK=>?_|refine Cf 8 ?_;refine j0 [11] jm1 ?_|apply_assumption -exfalso -symm)
 refine j6 [14,85,86,87,88,89,90,91,92,93,94,95,96] [905] (fun j:Nat=>[(85,.d (.int .i64 j))]) (fun j=>[(905,.map (Dq (Il L ((Y.take j).map fun e=>Dw ω.is e.s))) (Dr (Il L ((Y.take j).map fun e=>Dw ω.is e.s))))]) (fun j=>j<=Y.length) (fun j=>Y.length - j) 0 (Ai _) fun j hj=>?_;dsimp only[Ac,Af];rcases Ah j Y.length with hj2|hj2
 ·have c4:=cb Y[j].s;have c5:=qn7 gl (Il L ((Y.take j).map fun e=>Dw ω.is e.s)) [Dw ω.is Y[j].s];rw[kz2,show((Y.take j).map fun e=>Dw ω.is e.s)++[Dw ω.is Y[j].s]=(Y.take (j+1)).map fun e=>Dw ω.is e.s by rw[Ao hj2,As];rfl]at c5;simp only[Aq,Ax]at c5
  (repeat' first|refine Ca 14 ?_;(refine j3 14 ?_)|refine Ca 93 ?_;refine Cg (hc:=c4) ?_|refine Ca 94 ?_;(refine Dn 94 ?_)|refine Ca 95 ?_;refine Cg (hc:=c5) ?_|refine yyp ?_;try refine Ce ?_ ?_<;>intro hb|refine yy ?_|refine at_nil ?_;refine Cc Lu ?_|refine Cb fun K hK=>?_|refine Cf 8 ?_;refine j0 [11] jm1 ?_|apply_assumption -exfalso -symm)
  exact⟨j+1,by omega,by omega,k8⟩
 obtain rfl:j=Y.length:=by omega
 rw[Bg,<-k9];obtain⟨L0,hL0⟩:∃ L0,L0=Il L (Y.map fun e=>Dw ω.is e.s):=⟨_,rfl⟩;rw[<-hL0]
 (repeat' first|refine yyp ?_;try refine Ce ?_ ?_<;>intro hb|refine yy ?_|refine Ch 72 ?_;refine Ck (hc:=cp) ?_|refine at_nil ?_;refine Cc Lu ?_|refine Cb fun K hK=>?_|refine Cf 8 ?_;refine j0 [11] jm1 ?_|apply_assumption -exfalso -symm)
 refine j6 [16,100,101,102,103,104,105,106,107,108] [905] (fun x:Nat × List ByteArray=>[(100,.d (.int .i64 x.1))]) (fun x=>[(905,.map (Dq x.2) (Dr x.2))]) (fun x=>x.1<=(partsOf p).length/\∀ s,s∈x.2↔s∈L0\/∃ q∈(partsOf p).take x.1,s∈ka7 ω q) (fun x=>(partsOf p).length - x.1) (0,L0) ⟨Ai _,fun s=>by simp⟩ fun⟨j,L2⟩ ⟨hj,hL2⟩=>?_;dsimp only[Ac,Af]at hj hL2 ⊢;rcases Ah j (partsOf p).length with hj2|hj2
 ·have hone:=hrec (partsOf p)[j] (Aw hj2) L2
  (repeat' first|refine Ca 16 ?_;(refine j3 16 ?_)|refine Ca 107 ?_;(refine Gi (hc:=hone) ?_;rintro L3 hL3)|refine yyp ?_;try refine Ce ?_ ?_<;>intro hb|refine yy ?_|refine at_nil ?_;refine Cc Lu ?_|refine Cb fun K hK=>?_|refine Cf 8 ?_;refine j0 [11] jm1 ?_|apply_assumption -exfalso -symm)
  refine⟨(j+1,L3),⟨by dsimp only;omega,fun s=>?_⟩,by dsimp only;omega,k8⟩;dsimp only;rw[hL3,hL2,Ao hj2];simp only[Ap,Bn]
  grind
 ·rw[Am hj2]at hL2
  (repeat' first|refine yyp ?_;try refine Ce ?_ ?_<;>intro hb|refine yy ?_|refine at_nil ?_;refine Cc Lu ?_|refine Cb fun K hK=>?_|refine Cf 8 ?_;refine j0 [11] jm1 ?_|apply_assumption -exfalso -symm)
  exact g8 ⟨L2,fun s=>by
   rw[hL2,hL0,kg8,hL,qo3 p,Bl];simp only[hY,hY0,Ap]
   grind,rfl,rfl⟩
open Lx Sc
theorem ry3 (gl:List (Nat × List D))(ω:Wd)(hr:Rank ω.is):∀ (n:Nat) (p:Pr),SizeOf.sizeOf p<=n->Ik p->∀ Ks:List ByteArray,FnE prog gl 43 [.ptr 900 0,.d (dPr p),.map 905] (HA ω++[(905,.map (Dq Ks) (Dr Ks))]) (fun v H1=>∃ L:List ByteArray,(∀ s,s∈L↔s∈Ks\/s∈ka7 ω p)/\v=.tup []/\H1=HA ω++[(905,.map (Dq L) (Dr L))]):=by
 intro n
 induction n with
 |zero=>intro p h;cases p;simp only[Pr.mk.sizeOf_spec]at h;omega
 |succ n ih=>
  intro p hp ha Ks;have hm:=jn7 ha;have hl:=lens hm;refine ry2 gl ω hr p Ks hl.exs (by have:=hl.parts;omega) fun q hq Ls=>ih q ?_ (jk2 ha hq) Ls;have:=ja9 hq;omega
theorem ve5 (gl:List (Nat × List D))(ω:Wd)(hr:Rank ω.is)(p:Pr)(ha:Ik p)(Ks:List ByteArray):FnE prog gl 43 [.ptr 900 0,.d (dPr p),.map 905] (HA ω++[(905,.map (Dq Ks) (Dr Ks))]) (fun v H1=>∃ L:List ByteArray,(∀ s,s∈L↔s∈Ks\/s∈ka7 ω p)/\v=.tup []/\H1=HA ω++[(905,.map (Dq L) (Dr L))]):=ry3 gl ω hr _ p (Au _) ha Ks
theorem kz4 (gl:List (Nat × List D))(ω:Wd)(hr:Rank ω.is)(p:Pr)(ha:Ik p):FnE prog gl 24 [.ptr 900 0,.d (dPr p)] (HA ω) (fun v H1=>∃ L:List ByteArray × List ByteArray,((∀ s,s∈L.1↔s∈n0 ω p)/\∀ s,s∈L.2↔s∈ka7 ω p)/\v=.tup [.d (.map (Dq L.1) (Dr L.1)),.d (.map (Dq L.2) (Dr L.2))]/\H1=HA ω):=by
 have c1:=ry0 gl ω p ha [];have c2:=ve5 gl ω hr p ha [];rw[j9]at c1 c2 ⊢;dsimp only[HA,Ac,Af,Dq,Dr,Ax]at c1 c2 ⊢
 (refine j2 func24 ntmps24 results24 fun w M E b0=>?_)
 (repeat' first|refine Ca 3 ?_;(refine Cq 3 ?_)|refine Ca 6 ?_;(refine Iz 904 ?_)|refine Ca 7 ?_;(refine Iz 905 ?_)|refine Ca 11 ?_;(refine Gi (hc:=c1) ?_;rintro L1 hL1)|refine Ca 15 ?_;(refine Gi (hc:=c2) ?_;rintro L2 hL2)|refine yyp ?_;try refine Ce ?_ ?_<;>intro hb|refine yy ?_|refine at_nil ?_;refine Cc [0,1,3,4,5,6,7] ?_|refine Cb fun K hK=>?_|apply_assumption -exfalso -symm)
 refine mn7 4 904 rfl rfl (ns:=[904]) (by(repeat (first|exact Drop.nil|apply Drop.drop rfl|apply Drop.take rfl));fail_if_success intros) rfl rfl ?_;refine mn7 5 905 rfl rfl (ns:=[905]) (by(repeat (first|exact Drop.nil|apply Drop.drop rfl|apply Drop.take rfl));fail_if_success intros) rfl rfl ?_;refine j1 (j4 ⟨(L1,L2),⟨fun s=>?_,fun s=>?_⟩,?_,rfl⟩)
 ·dsimp only;rw[hL1];simp
 ·dsimp only;rw[hL2];simp
 ·rfl
end Al
end
section
namespace Al
def SimC (a b:ByteArray × Pc):Prop:=a.1=b.1/\a.2.formals=b.2.formals/\(∀ s,s∈a.2.occ↔s∈b.2.occ)/\∀ s,s∈a.2.wr↔s∈b.2.wr
def Oo:List (ByteArray × Pc)->List (ByteArray × Pc)->Prop
 |[],[]=>True
 |a::l,b::m=>SimC a b/\Oo l m
 |_,_=>False
structure Sim (w v:Wd):Prop where
 known:w.known=v.known
 is:w.is=v.is
 procs:Oo w.procs v.procs
theorem SimC.refl (a:ByteArray × Pc):SimC a a:=⟨rfl,rfl,fun _=>.rfl,fun _=>.rfl⟩
theorem Oo.refl:∀ l,Oo l l
 |[]=>trivial
 |a::l=>⟨SimC.refl a,Oo.refl l⟩
theorem Oo.trans:∀ {l m n},Oo l m->Oo m n->Oo l n
 |[],[],[],_,_=>trivial
 |a::l,b::m,c::n,⟨⟨h1,h2,h3,h4⟩,h5⟩,⟨⟨k1,k2,k3,k4⟩,k5⟩=>⟨⟨h1.trans k1,h2.trans k2,fun s=>(h3 s).trans (k3 s),fun s=>(h4 s).trans (k4 s)⟩,Oo.trans h5 k5⟩
 |[],[],_::_,_,h=>h.elim
 |[],_::_,_,h,_=>h.elim
 |_::_,[],_,h,_=>h.elim
 |_::_,_::_,[],_,h=>h.elim
theorem Sim.refl (w:Wd):Sim w w:=⟨rfl,rfl,Oo.refl _⟩
theorem Sim.trans {w v u:Wd}(h:Sim w v)(k:Sim v u):Sim w u:=⟨h.known.trans k.known,h.is.trans k.is,h.procs.trans k.procs⟩
inductive Ti:Option Pc->Option Pc->Prop
 |none:Ti Option.none Option.none
 |some {a b:Pc} (hf:a.formals=b.formals) (ho:∀ s,s∈a.occ↔s∈b.occ) (hw:∀ s,s∈a.wr↔s∈b.wr):Ti (Option.some a) (Option.some b)
theorem Oo.at:∀ {l m:List (ByteArray × Pc)},Oo l m->∀ s,Ti (at1 s l) (at1 s m)
 |[],[],_,s=>.none
 |(x,a)::l,(y,b)::m,⟨⟨h1,h2,h3,h4⟩,h5⟩,s=>by
  simp only at h1;subst h1;simp only[at1];split
  ·exact .some h2 h3 h4
  ·exact Oo.at h5 s
 |[],_::_,h,_=>h.elim
 |_::_,[],h,_=>h.elim
theorem Oo.up {s:ByteArray}{a b:Pc}(hf:a.formals=b.formals)(ho:∀ s,s∈a.occ↔s∈b.occ)(hw:∀ s,s∈a.wr↔s∈b.wr):∀ {l m:List (ByteArray × Pc)},Oo l m->Oo (up1 s a l) (up1 s b m)
 |[],[],_=>⟨⟨rfl,hf,ho,hw⟩,trivial⟩
 |(x,c)::l,(y,d)::m,⟨⟨h1,h2,h3,h4⟩,h5⟩=>by
  simp only at h1;subst h1;simp only[up1];split
  ·exact⟨⟨rfl,hf,ho,hw⟩,h5⟩
  ·exact⟨⟨rfl,h2,h3,h4⟩,Oo.up hf ho hw h5⟩
 |[],_::_,h=>h.elim
 |_::_,[],h=>h.elim
theorem Ti.occ {a b:Option Pc}(h:Ti a b)(s:ByteArray):s∈rg7 a↔s∈rg7 b:=by
 cases h with
 |none=>rfl
 |some _ ho _=>exact ho s
theorem Ti.wr {a b:Option Pc}(h:Ti a b)(s:ByteArray):s∈wrO a↔s∈wrO b:=by
 cases h with
 |none=>rfl
 |some _ _ hw=>exact hw s
theorem Ti.callE {a b:Option Pc}(h:Ti a b)(l:List Ex):Ky a l (foO a)=Ky b l (foO b):=by
 cases h with
 |none=>rfl
 |@some a b hf _ _=>
  have:∀ (l:List Ex) (fs:List Fo),Al.Ky (Option.some a) l fs=Al.Ky (Option.some b) l fs:=fun l=>by
   induction l with
   |nil=>intro fs;rfl
   |cons e l ih=>intro fs;simp only[Al.Ky,ih,Option.isNone_some]
  simp only[foO,hf];exact this _ _
theorem ro8 {w v:Wd}(h:Sim w v):∀ (n:Nat) (p:Pr),SizeOf.sizeOf p<=n->∀ s,s∈n0 w p↔s∈n0 v p:=by
 intro n
 induction n with
 |zero=>intro p h;cases p;simp only[Pr.mk.sizeOf_spec]at h;omega
 |succ n ih=>
  intro p hp s;rw[mo6,mo6,h.known,(h.procs.at p.name).occ s];refine or_congr .rfl (or_congr .rfl ⟨?_,?_⟩)
  ·rintro⟨q,hq,hs⟩;exact⟨q,hq,(ih q (by have:=ja9 hq;omega) s).1 hs⟩
  ·rintro⟨q,hq,hs⟩;exact⟨q,hq,(ih q (by have:=ja9 hq;omega) s).2 hs⟩
theorem Sim.occ {w v:Wd}(h:Sim w v)(p:Pr)(s:ByteArray):s∈n0 w p↔s∈n0 v p:=ro8 h _ p (Au _) s
end Al
end
section
namespace Al
theorem ry4 {w v:Wd}(h:Sim w v):∀ (n:Nat) (p:Pr),SizeOf.sizeOf p<=n->∀ s,s∈ka7 w p↔s∈ka7 v p:=by
 intro n
 induction n with
 |zero=>intro p h;cases p;simp only[Pr.mk.sizeOf_spec]at h;omega
 |succ n ih=>
  intro p hp s;have hs:=h.procs.at p.name;rw[qo3,qo3,h.is,hs.wr s,hs.callE p.exprs];refine or_congr .rfl (or_congr .rfl ⟨?_,?_⟩)
  ·rintro⟨q,hq,hs⟩;exact⟨q,hq,(ih q (by have:=ja9 hq;omega) s).1 hs⟩
  ·rintro⟨q,hq,hs⟩;exact⟨q,hq,(ih q (by have:=ja9 hq;omega) s).2 hs⟩
theorem Sim.wr {w v:Wd}(h:Sim w v)(p:Pr)(s:ByteArray):s∈ka7 w p↔s∈ka7 v p:=ry4 h _ p (Au _) s
theorem Sim.Kt {w v:Wd}(h:Sim w v)(rep:ByteArray)(sk:Int)(sn:List ByteArray)(se:ByteArray)(sf:List Fo):Sim (Kt w rep sk sn se sf) (Kt v rep sk sn se sf):=by
 unfold Al.Kt;dsimp only;rw[h.known];split
 ·split
  ·exact⟨rfl,by dsimp only;rw[h.is],h.procs⟩
  ·exact⟨rfl,h.is,h.procs⟩
 ·exact⟨rfl,h.is,h.procs⟩
theorem Sim.Kb {w v:Wd}(h:Sim w v)(sk:Int)(sn:List ByteArray)(sf:List Fo){occ wr occ' wr':List ByteArray}(ho:∀ s,s∈occ↔s∈occ')(hw:∀ s,s∈wr↔s∈wr'):Sim (Kb w sk sn sf occ wr) (Kb v sk sn sf occ' wr'):=by
 unfold Al.Kb;split
 ·split
  ·exact⟨h.known,h.is,Oo.up (a:=⟨sf,occ,wr⟩) (b:=⟨sf,occ',wr'⟩) rfl ho hw h.procs⟩
  ·exact h
 ·exact h
noncomputable def vb7 (w:Wd):List Pr->List ByteArray
 |b::_=>n0 w b
 |[]=>[]
noncomputable def wrB (w:Wd):List Pr->List ByteArray
 |b::_=>ka7 w b
 |[]=>[]
theorem kd5 (w:Wd)(p:Pr):x7 w p=Gb (Gz (Kb (Gb (Kt w p.rep.name p.spec.kind p.spec.names p.spec.e.s p.spec.formals) p.spec.body) p.spec.kind p.spec.names p.spec.formals (vb7 (Gb (Kt w p.rep.name p.spec.kind p.spec.names p.spec.e.s p.spec.formals) p.spec.body) p.spec.body) (wrB (Gb (Kt w p.rep.name p.spec.kind p.spec.names p.spec.e.s p.spec.formals) p.spec.body) p.spec.body)) p.guards) p.l:=by
 obtain⟨kind,name,chan,targets,exprs,rep,guards,l,procs,⟨sk,st,sn,se,spp,sf,sb⟩⟩:=p;simp only[x7,Pr.rep,Pr.spec,Sp.kind,Sp.names,Sp.e,Sp.formals,Sp.body,Pr.guards,Pr.l];cases sb<;>rfl
mutual
theorem jz4:∀ (p:Pr) {w v:Wd},Sim w v->Sim (x7 w p) (x7 v p)
 |.mk kind name chan targets exprs rep guards l procs (.mk sk st sn se spp sf sb),w,v,h=>by
  have h1:=jt1 sb (h.Kt rep.name sk sn se.s sf);rw[kd5,kd5];simp only[Pr.rep,Pr.spec,Sp.kind,Sp.names,Sp.e,Sp.formals,Sp.body,Pr.guards,Pr.l];refine jt1 l (kt1 guards (h1.Kb sk sn sf (fun s=>?_) fun s=>?_))
  ·cases sb with
   |nil=>rfl
   |cons b r=>exact h1.occ b s
  ·cases sb with
   |nil=>rfl
   |cons b r=>exact h1.wr b s
theorem jt1:∀ (l:List Pr) {w v:Wd},Sim w v->Sim (Gb w l) (Gb v l)
 |[],w,v,h=>by simpa [Gb]using h
 |p::l,w,v,h=>by
  simp only[Gb];exact jt1 l (jz4 p h)
theorem kt1:∀ (l:List Gu) {w v:Wd},Sim w v->Sim (Gz w l) (Gz v l)
 |[],w,v,h=>by simpa [Gz]using h
 |.mk _ _ _ _ _ _ _ body::l,w,v,h=>by
  simp only[Gz];exact kt1 l (jt1 body h)
end
theorem mh5 (w:Wd):∀ (a b:List Pr),Gb w (a++b)=Gb (Gb w a) b:=by
 intro a
 induction a generalizing w with
 |nil=>intro b;simp[Gb]
 |cons p a ih=>intro b;simp only[Ac,Gb,ih]
theorem jz5 (w:Wd)(l:List Pr)(j:Nat)(h:j<l.length):Gb w (l.take (j+1))=x7 (Gb w (l.take j)) l[j]:=by
 rw[Ao h,mh5];simp[Gb]
theorem mh6 (w:Wd):∀ (a b:List Gu),Gz w (a++b)=Gz (Gz w a) b:=by
 intro a
 induction a generalizing w with
 |nil=>intro b;simp[Gz]
 |cons p a ih=>intro b;cases p;simp only[Ac,Gz,ih]
theorem kz5 (w:Wd)(l:List Gu)(j:Nat)(h:j<l.length){b:Pr}(hb:l[j].body=[b]):Gz w (l.take (j+1))=x7 (Gz w (l.take j)) b:=by
 rw[Ao h,mh6];generalize l[j]=g at hb;obtain⟨_,_,_,_,_,_,_,body⟩:=g;simp only[Gu.body]at hb;subst hb;simp[Gz,Gb]
end Al
end
end Go.Proofs.YtklklgfpkpglgaaGreatDoor
