/- Parts: A10, A11. -/
import Derived.Test.YtklklgfpkpglgaaGreatDoorP41
set_option linter.all false
set_option maxRecDepth 100000
set_option maxHeartbeats 16000000
namespace Go.Proofs.YtklklgfpkpglgaaGreatDoor
open Go.RowKit Go.Proofs.Tryz
section
def Mx:List Nat:=[0,1,2,4,6,7,9,11,13,37,58,59,60,61,79,80,81,82,92,104,105,106,107]
def jp3:Plan:=lin [0,5,8,12,16,20,24,29,32,36,40,44,48,52,60,64,68,57,73,77,80,84]
def jr0:Plan:=lin [0,4,8,12,20,17,25,29,32,38]
section
variable {E:Set}{Q:Exit->Sd->Prop}{ops:Array Oper}{draw:Bool}{rest:Todo}{way:Jh}{ty:TypeId}{pos:String}{af:Array Edge}{gd:Option (Nat × Bool)}{d:Nat}
variable {env:List (Nat × V)}{H:List (Nat × Ob)}{gl:List (Nat × List D)}{t k e n:Nat}{x y:Operand}{s:ByteArray}{l:List (ByteArray × Al.Pc)}
theorem qa2 [ht:TMap E.P t k e][hkk:TKey E.P k .str][hz:Jp E.P e (.d (.agg [.list 6 [],.raw (.map none),.raw (.map none)]))]
 (h1:∀ q,Al.at1 s l=some q->TR E draw ops Q rest ⟨(d,.d (.agg [.list 6 (q.formals.map dFo),.map (Al.Dq q.occ) (Al.Dr q.occ),.map (Al.Dq q.wr) (Al.Dr q.wr)]))::env,H,gl⟩) (h2:Al.at1 s l=none->TR E draw ops Q rest ⟨(d,.d (.agg [.list 6 [],.raw (.map none),.raw (.map none)]))::env,H,gl⟩)
 (hx:Sd.ev ⟨env,H,gl⟩ x=some (.map n):=by exact rfl) (hox:Cn x=true:=by exact rfl) (hl:look n H=some (.map (Al.Md l) (Al.Mw Al.dPc l)):=by exact rfl) (hy:Sd.ev ⟨env,H,gl⟩ y=some (.d (.str s)):=by exact rfl) (hoy:Cn y=true:=by exact rfl)
 (hd:d<E.C.nt:=by exact ltd rfl) (hg:Sd.gd ⟨env,H,gl⟩ ops ⟨some d,.lookup t x y false,ty,pos,af,gd⟩=some true:=by exact rfl) (hw:way.known=false:=by exact rfl):
 TR E draw ops Q (.step ⟨some d,.lookup t x y false,ty,pos,af,gd⟩ way rest) ⟨env,H,gl⟩:=Al.Rv (f:=Al.dPc) h1 h2 hx hox hl hy hoy hd hg hw
theorem kn4 [ht:TMap E.P t k e][hkk:TKey E.P k .str][hz:Jp E.P e (.d (.agg [.list 6 [],.raw (.map none),.raw (.map none)]))]
 (h1:∀ q,Al.at1 s l=some q->TR E draw ops Q rest ⟨(d,.tup [.d (.agg [.list 6 (q.formals.map dFo),.map (Al.Dq q.occ) (Al.Dr q.occ),.map (Al.Dq q.wr) (Al.Dr q.wr)]),.d (.bool true)])::env,H,gl⟩) (h2:Al.at1 s l=none->TR E draw ops Q rest ⟨(d,.tup [.d (.agg [.list 6 [],.raw (.map none),.raw (.map none)]),.d (.bool false)])::env,H,gl⟩)
 (hx:Sd.ev ⟨env,H,gl⟩ x=some (.map n):=by exact rfl) (hox:Cn x=true:=by exact rfl) (hl:look n H=some (.map (Al.Md l) (Al.Mw Al.dPc l)):=by exact rfl) (hy:Sd.ev ⟨env,H,gl⟩ y=some (.d (.str s)):=by exact rfl) (hoy:Cn y=true:=by exact rfl)
 (hd:d<E.C.nt:=by exact ltd rfl) (hg:Sd.gd ⟨env,H,gl⟩ ops ⟨some d,.lookup t x y true,ty,pos,af,gd⟩=some true:=by exact rfl) (hw:way.known=false:=by exact rfl):
 TR E draw ops Q (.step ⟨some d,.lookup t x y true,ty,pos,af,gd⟩ way rest) ⟨env,H,gl⟩:=Al.Rv (f:=Al.dPc) h1 h2 hx hox hl hy hoy hd hg hw
end
namespace Al
theorem mo6 {w:Wd}{s:ByteArray}(p:Pr):s∈n0 w p↔s∈jc6 (mk2 w.known p.kind p.chan p.rep.base p.rep.count p.spec.e p.targets p.exprs p.guards)\/(p.kind=17/\s∈rg7 (at1 p.name w.procs))\/∃ q∈partsOf p,s∈n0 w q:=by
 obtain⟨kind,name,chan,targets,exprs,rep,guards,l,procs,⟨sk,st,sn,se,spp,sf,sb⟩⟩:=p;have h1:∀ l:List Pr,s∈je3 w l↔∃ q∈l,s∈n0 w q:=fun l=>by
  induction l with
  |nil=>simp[je3]
  |cons x l ih=>simp[je3,ih]
 have h2:∀ l:List Gu,s∈ji7 w l↔∃ q∈l.flatMap (·.body),s∈n0 w q:=fun l=>by
  induction l with
  |nil=>simp[ji7]
  |cons x l ih=>
   obtain⟨_,_,_,_,_,_,_,body⟩:=x;simp only[ji7,Ap,ih,h1,En,Gu.body]
   grind
 simp only[n0,partsOf,Ap,h1,h2,Pr.kind,Pr.chan,Pr.rep,Pr.spec,Sp.e,Pr.targets,Pr.exprs,Pr.guards,Pr.name,Sp.body,Pr.l];split<;>grind
noncomputable def ro4 (known:List ByteArray)(p:Pr):List Ex:=jt9 known p.kind p.exprs
def qa3 (X:List Ex)(gs:List Gu):Nat->List Ex
 |0=>X
 |j+1=>X++jd4 (gs.take (j+1))
theorem kh4 (X:List Ex)(gs:List Gu)(j:Nat):qa3 X gs j=X++jd4 (gs.take j):=by
 cases j with
 |zero=>simp[qa3,jd4]
 |succ j=>rfl
theorem kn5:∀ a b:List Gu,jd4 (a++b)=jd4 a++jd4 b
 |[],b=>rfl
 |.mk _ _ _ _ _ _ _ _::a,b=>by simp only[Ac,jd4,kn5 a b,Bv]
theorem qa4 (gs:List Gu)(j:Nat)(h:j<gs.length):jd4 (gs.take (j+1))=jd4 (gs.take j)++([gs[j].cond,gs[j].chan,gs[j].time]++gs[j].targets++gs[j].values):=by
 rw[Ao h,kn5];cases gs[j];simp[jd4,rx2,Gu.cond,Gu.chan,Gu.time,Gu.targets,Gu.values]
theorem kz2 (K a b:List ByteArray):Il (Il K a) b=Il K (a++b):=by
 unfold Il;rw[List.foldl_append]
theorem ks6 (X:List Ex)(j:Nat)(h:j<X.length):jc6 (X.take (j+1))=jc6 (X.take j)++jy9 X[j]:=by
 rw[je2,je2,Ao h,List.flatMap_append];simp
attribute [local irreducible] TR TC
theorem ro5 (gl:List (Nat × List D))(ω:Wd)(p:Pr)(Ks:List ByteArray)(h5:p.kind=5->p.exprs≠[])(hlen:p.targets.length<=6000/\p.exprs.length<=6000/\(jd4 p.guards).length<=900000)(hpl:(partsOf p).length<=1000000)
 (hex:∀ e∈mk2 ω.known p.kind p.chan p.rep.base p.rep.count p.spec.e p.targets p.exprs p.guards,exN e<=1000000000)
 (hrec:∀ q∈partsOf p,∀ Ls:List ByteArray,FnE prog gl 42 [.ptr 900 0,.d (dPr q),.map 904] (HA ω++[(904,.map (Dq Ls) (Dr Ls))]) (fun v H1=>∃ L:List ByteArray,(∀ s,s∈L↔s∈Ls\/s∈n0 ω q)/\v=.tup []/\H1=HA ω++[(904,.map (Dq L) (Dr L))])):
 FnE prog gl 42 [.ptr 900 0,.d (dPr p),.map 904] (HA ω++[(904,.map (Dq Ks) (Dr Ks))]) (fun v H1=>∃ L:List ByteArray,(∀ s,s∈L↔s∈Ks\/s∈n0 ω p)/\v=.tup []/\H1=HA ω++[(904,.map (Dq L) (Dr L))]):=by
 have cp:=Rc gl p hpl;simp only[j9]at hrec cp;rw[show dP p=dPx p by rw[<-j9,qg3]]at cp;rw[qg3];dsimp only[HA,Ac,Af]at hrec ⊢
 (refine j2 func42 ntmps42 results42 fun w M E b0=>?_)
 ((repeat' first|refine Ca 4 ?_;(refine Cq 4 ?_)|refine kf3 2 ?_;refine halt ?_|refine yyp ?_;try refine Ce ?_ ?_<;>intro hb|refine yy ?_|refine at_nil ?_;refine Cc Mx ?_|refine Cb fun K hK=>?_|refine Cf 2 ?_;refine j0 [] jp3 ?_|refine Cf 16 ?_;refine j0 [] jr0 ?_|apply_assumption -exfalso -symm);all_goals try refine unhalt ?_)
 refine jq9 [6] [] (fun l:List Ex=>[(6,.d (.list 6 (l.map dE)))]) (fun _=>[]) (fun l=>l=ro4 ω.known p) ?_ ?_
 ·unfold ro4 jt9;by_cases hk:p.kind=5
  ·have hne:=h5 hk;obtain⟨e,l,hx⟩:∃ e l,p.exprs=e::l:=by
    cases hx:p.exprs with
    |nil=>exact absurd hx hne
    |cons e l=>exact⟨e,l,rfl⟩
   rw[Ad hk,hx];dsimp only
   (repeat' first|refine Ca 35 ?_;(refine jz1 (fun hin=>?_) (fun hin=>?_))|refine yyp ?_;try refine Ce ?_ ?_<;>intro hb|refine yy ?_|refine yy2 ?_ ?_<;>intro hcmp|refine at_nil ?_;refine Cc Mx ?_|refine Cb fun K hK=>?_|refine Cf 2 ?_;refine j0 [] jp3 ?_|refine Cf 16 ?_;refine j0 [] jr0 ?_|apply_assumption -exfalso -symm)
   ·refine⟨e::l,?_,k8⟩;rw[Ae fun h=>h.2 hin]
   ·refine⟨l,?_,?_⟩
    ·rw[Ad ⟨hcmp,hin⟩]
    ·rw[show List.take ((List.map dE (e::l)).length - 1) (List.drop 1 (List.map dE (e::l)))=List.map dE l from by rw[Aq,List.drop_succ_cons,Ev];exact Am (by simp)];exact k8
   ·refine⟨e::l,?_,k8⟩;rw[Ae fun h=>hcmp h.1]
  ·rw[Ae hk]
   (repeat' first|refine yyp ?_;try refine Ce ?_ ?_<;>intro hb|refine yy ?_|refine at_nil ?_;refine Cc Mx ?_|refine Cb fun K hK=>?_|refine Cf 2 ?_;refine j0 [] jp3 ?_|refine Cf 16 ?_;refine j0 [] jr0 ?_|apply_assumption -exfalso -symm)
   refine⟨p.exprs,rfl,?_⟩;exact k8
 rintro l hl;have hll:l.length<=p.exprs.length:=by
  rw[hl];unfold ro4 jt9;split
  ·split
   ·split<;>simp_all
   ·simp_all
  ·exact Au _
 obtain⟨X0,hX0⟩:∃ X0,X0=[p.chan,p.rep.base,p.rep.count,p.spec.e]++p.targets++l:=⟨_,rfl⟩;have hX0l:X0.length<=12004:=by rw[hX0];simp;omega
 have c1:=mh4 gl [[dE p.chan,dE p.rep.base,dE p.rep.count,dE p.spec.e],p.targets.map dEx,l.map dE] (by simp;omega);rw[show[[dE p.chan,dE p.rep.base,dE p.rep.count,dE p.spec.e],p.targets.map dEx,l.map dE].flatten=X0.map dE by rw[hX0,k9];simp]at c1;simp only[Aq,Ax]at c1;dsimp only[Ac,Af]
 (repeat' first|refine Ca 51 ?_;(refine Dn 51 ?_)|refine Ca 55 ?_;(refine Dn 55 ?_)|refine yyp ?_;try refine Ce ?_ ?_<;>intro hb|refine yy ?_|refine Ch 69 ?_;refine Ck (hc:=c1) ?_|refine at_nil ?_;refine Cc Mx ?_|refine Cb fun K hK=>?_|refine Cf 2 ?_;refine j0 [] jp3 ?_|refine Cf 16 ?_;refine j0 [] jr0 ?_|apply_assumption -exfalso -symm)
 rw[jd7];have hgm:∀ j,(jd4 (p.guards.take j)).length<=(jd4 p.guards).length:=fun j=>by
  have:jd4 p.guards=jd4 (p.guards.take j)++jd4 (p.guards.drop j):=by rw[<-kn5,List.take_append_drop]
  rw[this,Ag];omega
 refine j8 58 rfl fun hsm=>?_;simp only[Ab]at hsm;refine j6 [7,9,60,61,62,63,64,65,66,67,68,69,70,71,72,73,74,75,76,77,78] [] (fun j:Nat=>[(60,.d (.int .i64 j)),(7,.d (.list 6 ((qa3 X0 p.guards j).map dE)))]) (fun _=>[]) (fun j=>j<=p.guards.length) (fun j=>p.guards.length - j) 0 (Ai _) fun j hj=>?_;dsimp only[Ac,Af];rcases Ah j p.guards.length with hj2|hj2
 ·have hst:=qa4 p.guards j hj2;have hm1:=hgm (j+1);have c2:=mh4 gl [(qa3 X0 p.guards j).map dE,[dE p.guards[j].cond,dE p.guards[j].chan,dE p.guards[j].time],p.guards[j].targets.map dEx,p.guards[j].values.map dEx] (by
   rw[hst]at hm1;rw[kh4];simp only[List.flatten_cons,List.flatten_nil,Ag,Ab,An,Av]at hm1 ⊢;omega)
  rw[show[(qa3 X0 p.guards j).map dE,[dE p.guards[j].cond,dE p.guards[j].chan,dE p.guards[j].time],p.guards[j].targets.map dEx,p.guards[j].values.map dEx].flatten=(qa3 X0 p.guards (j+1)).map dE by rw[kh4,kh4,hst,k9];simp]at c2;simp only[Aq,Ax]at c2
  (repeat' first|refine Ca 9 ?_;(refine j3 9 ?_)|refine Ca 71 ?_;(refine Dn 71 ?_)|refine Ca 76 ?_;(refine Dn 76 ?_)|refine yyp ?_;try refine Ce ?_ ?_<;>intro hb|refine yy ?_|refine Ch 69 ?_;refine Ck (hc:=c2) ?_|refine at_nil ?_;refine Cc Mx ?_|refine Cb fun K hK=>?_|refine Cf 2 ?_;refine j0 [] jp3 ?_|refine Cf 16 ?_;refine j0 [] jr0 ?_|apply_assumption -exfalso -symm)
  exact⟨j+1,by omega,by omega,k8⟩
 obtain rfl:j=p.guards.length:=by omega
 rw[kh4,Bg];obtain⟨X,hX⟩:∃ X,X=X0++jd4 p.guards:=⟨_,rfl⟩;have hXl:X.length<=1000000:=by rw[hX,Ag];omega
 have hXm:∀ e∈X,exN e<=1000000000:=fun e he=>hex e (by
  rw[hX,hX0,hl]at he;unfold mk2;exact he)
 have hXe:mk2 ω.known p.kind p.chan p.rep.base p.rep.count p.spec.e p.targets p.exprs p.guards=X:=by
  rw[hX,hX0,hl];rfl
 rw[<-hX,<-jd7]
 (repeat' first|refine yyp ?_;try refine Ce ?_ ?_<;>intro hb|refine yy ?_|refine at_nil ?_;refine Cc Mx ?_|refine Cb fun K hK=>?_|refine Cf 2 ?_;refine j0 [] jp3 ?_|refine Cf 16 ?_;refine j0 [] jr0 ?_|apply_assumption -exfalso -symm)
 refine j6 [11,81,82,83,84,85,86,87,88,89] [904] (fun j:Nat=>[(81,.d (.int .i64 j))]) (fun j=>[(904,.map (Dq (Il Ks (jc6 (X.take j)))) (Dr (Il Ks (jc6 (X.take j)))))]) (fun j=>j<=X.length) (fun j=>X.length - j) 0 (Ai _) fun j hj=>?_;dsimp only[Ac,Af];rcases Ah j X.length with hj2|hj2
 ·have c3:=mv4 gl X[j] (hXm _ (Aw hj2));have c4:=qn6 gl (Il Ks (jc6 (X.take j))) (jy9 X[j]);rw[kz2,<-ks6 X j hj2]at c4;simp only[k9]at c3
  (repeat' first|refine Ca 11 ?_;(refine j3 11 ?_)|refine Ca 88 ?_;refine Cg (hc:=c4) ?_|refine yyp ?_;try refine Ce ?_ ?_<;>intro hb|refine yy ?_|refine Ch 70 ?_;refine Ck (hc:=c3) ?_|refine at_nil ?_;refine Cc Mx ?_|refine Cb fun K hK=>?_|refine Cf 2 ?_;refine j0 [] jp3 ?_|refine Cf 16 ?_;refine j0 [] jr0 ?_|apply_assumption -exfalso -symm)
  exact⟨j+1,by omega,by omega,k8⟩
 obtain rfl:j=X.length:=by omega
 rw[Bg]
 ((repeat' first|refine kf3 15 ?_;refine halt ?_|refine yyp ?_;try refine Ce ?_ ?_<;>intro hb|refine yy ?_|refine at_nil ?_;refine Cc Mx ?_|refine Cb fun K hK=>?_|refine Cf 2 ?_;refine j0 [] jp3 ?_|refine Cf 16 ?_;refine j0 [] jr0 ?_|apply_assumption -exfalso -symm);all_goals try refine unhalt ?_)
 refine jq9 [] [904] (fun _:List ByteArray=>[]) (fun L=>[(904,.map (Dq L) (Dr L))]) (fun L=>∀ s,s∈L↔s∈Ks\/s∈jc6 X\/(p.kind=17/\s∈rg7 (at1 p.name ω.procs))) ?_ ?_
 ·(repeat' first|refine Ca 100 ?_;(refine qa2 (fun q hq=>?_) (fun hq=>?_))|refine Ca 102 ?_;(first|(refine Gi (hc:=qa0 gl _ _) ?_;rintro L1 hL1)|(refine Cg (hc:=mo3 gl _) ?_))|refine yyp ?_;try refine Ce ?_ ?_<;>intro hb|refine yy ?_|refine yy2 ?_ ?_<;>intro hcmp|refine at_nil ?_;refine Cc Mx ?_|refine Cb fun K hK=>?_|refine Cf 2 ?_;refine j0 [] jp3 ?_|refine Cf 16 ?_;refine j0 [9] (lin [0,4,8,12,20,17,25,29,32,39]) ?_|apply_assumption -exfalso -symm)
  ·refine⟨L1,fun s=>?_,k8⟩;rw[hL1,kg8,hq,or_assoc];simp[hcmp,rg7]
  ·refine⟨_,fun s=>?_,k8⟩;rw[kg8,hq];simp[rg7]
  ·refine⟨_,fun s=>?_,k8⟩;rw[kg8];simp[hcmp]
 intro L hL;dsimp only[Ac,Af]
 (repeat' first|refine yyp ?_;try refine Ce ?_ ?_<;>intro hb|refine yy ?_|refine Ch 72 ?_;refine Ck (hc:=cp) ?_|refine at_nil ?_;refine Cc Mx ?_|refine Cb fun K hK=>?_|refine Cf 2 ?_;refine j0 [] jp3 ?_|refine Cf 16 ?_;refine j0 [] jr0 ?_|apply_assumption -exfalso -symm)
 refine j6 [13,106,107,108,109,110,111,112,113,114] [904] (fun x:Nat × List ByteArray=>[(106,.d (.int .i64 x.1))]) (fun x=>[(904,.map (Dq x.2) (Dr x.2))]) (fun x=>x.1<=(partsOf p).length/\∀ s,s∈x.2↔s∈L\/∃ q∈(partsOf p).take x.1,s∈n0 ω q) (fun x=>(partsOf p).length - x.1) (0,L) ⟨Ai _,fun s=>by simp⟩ fun⟨j,L2⟩ ⟨hj,hL2⟩=>?_;dsimp only[Ac,Af]at hj hL2 ⊢;rcases Ah j (partsOf p).length with hj2|hj2
 ·have hone:=hrec (partsOf p)[j] (Aw hj2) L2
  (repeat' first|refine Ca 13 ?_;(refine j3 13 ?_)|refine Ca 113 ?_;(refine Gi (hc:=hone) ?_;rintro L3 hL3)|refine yyp ?_;try refine Ce ?_ ?_<;>intro hb|refine yy ?_|refine at_nil ?_;refine Cc Mx ?_|refine Cb fun K hK=>?_|refine Cf 2 ?_;refine j0 [] jp3 ?_|refine Cf 16 ?_;refine j0 [] jr0 ?_|apply_assumption -exfalso -symm)
  refine⟨(j+1,L3),⟨by dsimp only;omega,fun s=>?_⟩,by dsimp only;omega,k8⟩;dsimp only;rw[hL3,hL2,Ao hj2];simp only[Ap,Bn]
  grind
 ·rw[Am hj2]at hL2
  (repeat' first|refine yyp ?_;try refine Ce ?_ ?_<;>intro hb|refine yy ?_|refine at_nil ?_;refine Cc Mx ?_|refine Cb fun K hK=>?_|refine Cf 2 ?_;refine j0 [] jp3 ?_|refine Cf 16 ?_;refine j0 [] jr0 ?_|apply_assumption -exfalso -symm)
  exact g8 ⟨L2,fun s=>by
   rw[hL2,hL,mo6 p,hXe]
   grind,rfl,rfl⟩
end Al
end
section
namespace Al
open Lx Sc
theorem jt0 {q:Pr}:∀ {l:List Pr},ja1 l->q∈l->Ik q
 |x::l,h,hq=>by
  simp only[ja1]at h;rcases Bc.1 hq with rfl|hq
  ·exact h.1
  ·exact jt0 h.2 hq
theorem ks7 {q:Pr}:∀ {l:List Gu},je1 l->q∈l.flatMap (·.body)->Ik q
 |.mk _ _ _ _ _ _ _ body::l,h,hq=>by
  simp only[je1]at h;simp only[En,Gu.body,Ap]at hq;rcases hq with hq|hq
  ·exact jt0 h.1 hq
  ·exact ks7 h.2 hq
theorem jn7 {p:Pr}(h:Ik p):Gq p=true:=by
 obtain⟨kind,name,chan,targets,exprs,rep,guards,l,procs,⟨sk,st,sn,se,spp,sf,sb⟩⟩:=p;simp only[Ik]at h;exact h.1
theorem jk2 {p q:Pr}(h:Ik p)(hq:q∈partsOf p):Ik q:=by
 obtain⟨kind,name,chan,targets,exprs,rep,guards,l,procs,⟨sk,st,sn,se,spp,sf,sb⟩⟩:=p;simp only[Ik]at h;simp only[partsOf,Ap,Pr.spec,Sp.body,Pr.guards,Pr.l]at hq;rcases hq with (hq|hq)|hq
 ·exact jt0 h.2.1 hq
 ·exact ks7 h.2.2.1 hq
 ·exact jt0 h.2.2.2 hq
theorem mv5 {q:Pr}:∀ {l:List Gu},q∈l.flatMap (·.body)->SizeOf.sizeOf q<SizeOf.sizeOf l
 |.mk _ _ _ _ _ _ _ body::l,hq=>by
  simp only[En,Gu.body,Ap]at hq;simp only[List.cons.sizeOf_spec,Gu.mk.sizeOf_spec];rcases hq with hq|hq
  ·have:=Fr hq;omega
  ·have:=mv5 hq;omega
theorem ja9 {p q:Pr}(hq:q∈partsOf p):SizeOf.sizeOf q<SizeOf.sizeOf p:=by
 obtain⟨kind,name,chan,targets,exprs,rep,guards,l,procs,⟨sk,st,sn,se,spp,sf,sb⟩⟩:=p;simp only[partsOf,Ap,Pr.spec,Sp.body,Pr.guards,Pr.l]at hq;simp only[Pr.mk.sizeOf_spec,Sp.mk.sizeOf_spec];rcases hq with (hq|hq)|hq
 ·have:=Fr hq;omega
 ·have:=mv5 hq;omega
 ·have:=Fr hq;omega
theorem kh5:∀ a b:List Ex,Gj (a++b)=Gj a+Gj b
 |[],b=>by simp[Gj]
 |e::a,b=>by
  have:=kh5 a b;simp only[Ac,Gj,this];omega
theorem ks8:∀ l:List Gu,(∀ g∈l,Le g=true)->Gj (jd4 l)<=14592 * l.length
 |[],_=>by simp[jd4,Gj]
 |.mk kind name cond chan targets values time body::l,h=>by
  have h1:=kh2 (h _ Az);have h2:=ks8 l fun g hg=>h g (Bb _ hg);have h3:=h1.head;simp only[Gu.cond,Gu.chan,Gu.time,Gu.targets,Gu.values,Gj]at h3;simp only[jd4,rx2,kh5,Gj,An];omega
theorem ks9:∀ l:List Gu,(∀ g∈l,Le g=true)->(l.flatMap (·.body)).length=l.length
 |[],_=>rfl
 |g::l,h=>by
  have h1:=(kh2 (h g Az)).body;have h2:=ks9 l fun g hg=>h g (Bb _ hg);simp only[En,Ag,h1,h2,An];omega
structure Lens (p:Pr):Prop where
 exs:p.targets.length<=6000/\p.exprs.length<=6000/\(jd4 p.guards).length<=900000
 parts:(partsOf p).length<=3000
 ex:∀ known,∀ e∈mk2 known p.kind p.chan p.rep.base p.rep.count p.spec.e p.targets p.exprs p.guards,exN e<=1000000000
theorem mv6 {p:Pr}(h:Gq p=true):p.spec.body.length<=1:=by
 have f:=jd5 h;by_cases hk:p.kind=18
 ·have hs:=jz3 (f.spec hk).2;by_cases h5:p.spec.kind=5
  ·rw[hs.body h5];omega
  ·rw[hs.other h5];simp
 ·rw[f.none hk];simp[sp0,Sp.body]
theorem lens {p:Pr}(h:Gq p=true):Lens p:=by
 have f:=jd5 h;have h1:=ks8 p.guards f.gus;have h2:=n5 (jd4 p.guards);have h3:=ks9 p.guards f.gus;have h4:=mv6 h;obtain⟨l1,l2,l3,l4⟩:=f.lens;obtain⟨e1,e2,e3⟩:=f.head;refine⟨⟨l1,l2,by omega⟩,by simp only[partsOf,Ag];omega,fun known e he=>?_⟩;unfold mk2 at he;simp only[Ap]at he;rcases he with ((he|he)|he)|he
 ·have:=jo0 he;omega
 ·have:=jo0 he;omega
 ·have:e∈p.exprs:=by
   unfold jt9 at he;split at he
   ·split at he
    ·rename_i hx;rw[hx];split at he
     ·exact Bb _ he
     ·exact he
    ·cases he
   ·exact he
  have:=jo0 this;omega
 ·have:=jo0 he;omega
theorem ro6 (gl:List (Nat × List D))(ω:Wd):∀ (n:Nat) (p:Pr),SizeOf.sizeOf p<=n->Ik p->∀ Ks:List ByteArray,FnE prog gl 42 [.ptr 900 0,.d (dPr p),.map 904] (HA ω++[(904,.map (Dq Ks) (Dr Ks))]) (fun v H1=>∃ L:List ByteArray,(∀ s,s∈L↔s∈Ks\/s∈n0 ω p)/\v=.tup []/\H1=HA ω++[(904,.map (Dq L) (Dr L))]):=by
 intro n
 induction n with
 |zero=>intro p h;cases p;simp only[Pr.mk.sizeOf_spec]at h;omega
 |succ n ih=>
  intro p hp ha Ks;have hm:=jn7 ha;have hl:=lens hm;refine ro5 gl ω p Ks (jd5 hm).exprs hl.exs (by have:=hl.parts;omega) (hl.ex _) fun q hq Ls=>ih q ?_ (jk2 ha hq) Ls;have:=ja9 hq;omega
theorem ry0 (gl:List (Nat × List D))(ω:Wd)(p:Pr)(ha:Ik p)(Ks:List ByteArray):FnE prog gl 42 [.ptr 900 0,.d (dPr p),.map 904] (HA ω++[(904,.map (Dq Ks) (Dr Ks))]) (fun v H1=>∃ L:List ByteArray,(∀ s,s∈L↔s∈Ks\/s∈n0 ω p)/\v=.tup []/\H1=HA ω++[(904,.map (Dq L) (Dr L))]):=ro6 gl ω _ p (Au _) ha Ks
end Al
end
end Go.Proofs.YtklklgfpkpglgaaGreatDoor
