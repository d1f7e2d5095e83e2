/- Parts. -/
import Derived.Test.YtklklgfpkpglgaaGreatDoorQ45
set_option linter.all false
set_option maxRecDepth 100000
set_option maxHeartbeats 0
namespace Go.Proofs.YtklklgfpkpglgaaGreatDoor
open Go.RowKit Go.Proofs.Tryz
variable (gl:List (Nat × List D))
section
def Mw:List Nat:=[0,1,2,4,6,7,9,11,13,37,58,59,60,61,79,80,81,82,92,104,105,106,107]
def jo0:Plan:=lin [0,5,8,12,16,20,24,29,32,36,40,44,48,52,60,64,68,57,73,77,80,84]
def jq0:Plan:=lin [0,4,8,12,20,17,25,29,32,38]
section
variable {E:Set}{Q:Exit->Sd->Prop}{ops:Array Oper}{draw:Bool}{rest:Todo}{way:Ji}{ty:TypeId}{pos:String}{af:Array Edge}{gd:Option (Nat × Bool)}{d:Nat}
variable {env:List (Nat × V)}{H:List (Nat × Ob)}{gl:List (Nat × List D)}{t k e n:Nat}{x y:Operand}{s:ByteArray}{l:List (ByteArray × Al.Pc)}
theorem qd3 [ht:TMap E.P t k e][hkk:TKey E.P k .str][hz:Jo E.P e (.d (.agg [.list 6 [],.raw (.map none),.raw (.map none)]))]
 (h1:∀ q,Al.at1 s l=some q->TR E draw ops Q rest ⟨(d,.d (.agg [.list 6 (q.ax.map dFo),.map (Al.Dl q.occ) (Al.Dn q.occ),.map (Al.Dl q.wr) (Al.Dn q.wr)]))::env,H,gl⟩) (h2:Al.at1 s l=none->TR E draw ops Q rest ⟨(d,.d (.agg [.list 6 [],.raw (.map none),.raw (.map none)]))::env,H,gl⟩)
 (hx:Sd.ev ⟨env,H,gl⟩ x=some (.map n):=by exact rfl) (hox:Cm x=true:=by exact rfl) (hl:look n H=some (.map (Al.Me l) (Al.Mt Al.dPc l)):=by exact rfl) (hy:Sd.ev ⟨env,H,gl⟩ y=some (.d (.str s)):=by exact rfl) (hoy:Cm y=true:=by exact rfl)
 (hd:d<E.C.nt:=by exact ltd rfl) (hg:Sd.gd ⟨env,H,gl⟩ ops ⟨some d,.lookup t x y false,ty,pos,af,gd⟩=some true:=by exact rfl) (hw:way.known=false:=by exact rfl):
 TR E draw ops Q (.step ⟨some d,.lookup t x y false,ty,pos,af,gd⟩ way rest) ⟨env,H,gl⟩:=Al.Sv (f:=Al.dPc) h1 h2 hx hox hl hy hoy hd hg hw
theorem km9 [ht:TMap E.P t k e][hkk:TKey E.P k .str][hz:Jo E.P e (.d (.agg [.list 6 [],.raw (.map none),.raw (.map none)]))]
 (h1:∀ q,Al.at1 s l=some q->TR E draw ops Q rest ⟨(d,.tup [.d (.agg [.list 6 (q.ax.map dFo),.map (Al.Dl q.occ) (Al.Dn q.occ),.map (Al.Dl q.wr) (Al.Dn q.wr)]),.d (.bool true)])::env,H,gl⟩) (h2:Al.at1 s l=none->TR E draw ops Q rest ⟨(d,.tup [.d (.agg [.list 6 [],.raw (.map none),.raw (.map none)]),.d (.bool false)])::env,H,gl⟩)
 (hx:Sd.ev ⟨env,H,gl⟩ x=some (.map n):=by exact rfl) (hox:Cm x=true:=by exact rfl) (hl:look n H=some (.map (Al.Me l) (Al.Mt Al.dPc l)):=by exact rfl) (hy:Sd.ev ⟨env,H,gl⟩ y=some (.d (.str s)):=by exact rfl) (hoy:Cm y=true:=by exact rfl)
 (hd:d<E.C.nt:=by exact ltd rfl) (hg:Sd.gd ⟨env,H,gl⟩ ops ⟨some d,.lookup t x y true,ty,pos,af,gd⟩=some true:=by exact rfl) (hw:way.known=false:=by exact rfl):
 TR E draw ops Q (.step ⟨some d,.lookup t x y true,ty,pos,af,gd⟩ way rest) ⟨env,H,gl⟩:=Al.Sv (f:=Al.dPc) h1 h2 hx hox hl hy hoy hd hg hw
end
namespace Al
theorem mp8 {w:Wd}{s:ByteArray}(p:Pr):s∈jb5 w p↔s∈Ii (qf7 w.known p.kind p.av p.rep.base p.rep.count p.spec.e p.aj p.au p.ak)\/(p.kind=17/\s∈ri3 (at1 p.name w.ay))\/∃ q∈aB p,s∈jb5 w q:=by
 obtain⟨kind,name,av,aj,au,rep,ak,l,ay,⟨sk,st,sn,se,spp,sf,sb⟩⟩:=p;have h1:∀ l:List Pr,s∈jm1 w l↔∃ q∈l,s∈jb5 w q:=λl=>by
  induction l with
  |nil=>simp[jm1]
  |cons x l ih=>simp[jm1,ih]
 have h2:∀ l:List Gu,s∈jp8 w l↔∃ q∈l.flatMap (·.body),s∈jb5 w q:=λl=>by
  induction l with
  |nil=>simp[jp8]
  |cons x l ih=>
   obtain⟨_,_,_,_,_,_,_,body⟩:=x;simp only[jp8,Au,ih,h1,El,Gu.body]
   grind
 simp only[jb5,aB,Au,h1,h2,Pr.kind,Pr.av,Pr.rep,Pr.spec,Sp.e,Pr.aj,Pr.au,Pr.ak,Pr.name,Sp.body,Pr.l];split<;>grind
noncomputable def ry7 (known:List ByteArray)(p:Pr):List Ex:=jt4 known p.kind p.au
def qd4 (X:List Ex)(gs:List Gu):Nat->List Ex
 |0=>X
 |j+1=>X++jb4 (gs.take (j+1))
theorem kf9 (X:List Ex)(gs:List Gu)(j:Nat):qd4 X gs j=X++jb4 (gs.take j):=by
 cases j with
 |zero=>simp[qd4,jb4]
 |succ j=>rfl
theorem kn0:∀ a b:List Gu,jb4 (a++b)=jb4 a++jb4 b
 |[],b=>rfl
 |.mk _ _ _ _ _ _ _ _::a,b=>by simp only[Ac,jb4,kn0 a b,Eg]
theorem qd5 (gs:List Gu)(j:Nat)(h:j<gs.length):jb4 (gs.take (j+1))=jb4 (gs.take j)++([gs[j].cond,gs[j].av,gs[j].time]++gs[j].aj++gs[j].values):=by
 rw[An h,kn0];cases gs[j];simp[jb4,ve3,Gu.cond,Gu.av,Gu.time,Gu.aj,Gu.values]
theorem ma1 (K a b:List ByteArray):Ic (Ic K a) b=Ic K (a++b):=by
 unfold Ic;rw[List.foldl_append]
theorem kt6 (X:List Ex)(j:Nat)(h:j<X.length):Ii (X.take (j+1))=Ii (X.take j)++Kg X[j]:=by
 rw[je4,je4,An h,List.flatMap_append];simp
attribute [local irreducible] TR TC
theorem ry8 (ω:Wd)(p:Pr)(Ks:List ByteArray)(h5:p.kind=5->p.au≠[])(hlen:p.aj.length<=6000/\p.au.length<=6000/\(jb4 p.ak).length<=900000)(hpl:(aB p).length<=1000000)
 (hex:∀ e∈qf7 ω.known p.kind p.av p.rep.base p.rep.count p.spec.e p.aj p.au p.ak,exN e<=1000000000)
 (hrec:∀ q∈aB p,∀ Ls:List ByteArray,FnE prog gl 42 [.ptr 900 0,.d (dPr q),.map 904] (HA ω++[(904,.map (Dl Ls) (Dn Ls))]) (λv H1=>∃ L:List ByteArray,(∀ s,s∈L↔s∈Ls\/s∈jb5 ω q)/\v=.tup []/\H1=HA ω++[(904,.map (Dl L) (Dn L))])):
 FnE prog gl 42 [.ptr 900 0,.d (dPr p),.map 904] (HA ω++[(904,.map (Dl Ks) (Dn Ks))]) (λv H1=>∃ L:List ByteArray,(∀ s,s∈L↔s∈Ks\/s∈jb5 ω p)/\v=.tup []/\H1=HA ω++[(904,.map (Dl L) (Dn L))]):=by
 have cp:=Rn gl p hpl;simp only[v7]at hrec cp;rw[show dP p=dPx p by rw[<-v7,qk7]]at cp;rw[qk7];dsimp only[HA,Ac,Ae]at hrec ⊢
 (refine j3 func42 ntmps42 results42 λw M E b0=>?_)
 ((repeat' first|apply Ca 4;(refine Ck 4 ?_)|refine ke1 2 ?_;refine halt ?_|refine yyp ?_;try refine Ce ?_ ?_<;>intro hb|refine yy ?_|apply ah;refine Cc Mw ?_|refine Cb λK hK=>?_|apply Cg 2;refine j0 [] jo0 ?_|apply Cg 16;refine j0 [] jq0 ?_|apply_assumption -exfalso -symm);all_goals try refine unhalt ?_)
 refine jp9 [6] [] (λl:List Ex=>[(6,.d (.list 6 (l.map dE)))]) (λ_=>[]) (λl=>l=ry7 ω.known p) ?_ ?_
 ·unfold ry7 jt4;by_cases hk:p.kind=5
  ·have hne:=h5 hk;obtain⟨e,l,hx⟩:∃ e l,p.au=e::l:=by
    cases hx:p.au with
    |nil=>exact absurd hx hne
    |cons e l=>exact⟨e,l,rfl⟩
   rw[Ad hk,hx];dsimp only
   (repeat' first|apply Ca 35;(refine jx9 (λhin=>?_) (λhin=>?_))|refine yyp ?_;try refine Ce ?_ ?_<;>intro hb|refine yy ?_|refine yy2 ?_ ?_<;>intro hcmp|apply ah;refine Cc Mw ?_|refine Cb λK hK=>?_|apply Cg 2;refine j0 [] jo0 ?_|apply Cg 16;refine j0 [] jq0 ?_|apply_assumption -exfalso -symm)
   ·refine⟨e::l,?_,v6⟩;rw[Af λh=>h.2 hin]
   ·refine⟨l,?_,?_⟩
    ·rw[Ad ⟨hcmp,hin⟩]
    ·rw[show List.take ((List.map dE (e::l)).length - 1) (List.drop 1 (List.map dE (e::l)))=List.map dE l from by rw[List.map_cons,List.drop_succ_cons,Ew];exact Ba (by simp)];exact v6
   ·refine⟨e::l,?_,v6⟩;rw[Af λh=>hcmp h.1]
  ·rw[Af hk]
   (repeat' first|refine yyp ?_;try refine Ce ?_ ?_<;>intro hb|refine yy ?_|apply ah;refine Cc Mw ?_|refine Cb λK hK=>?_|apply Cg 2;refine j0 [] jo0 ?_|apply Cg 16;refine j0 [] jq0 ?_|apply_assumption -exfalso -symm)
   refine⟨p.au,rfl,?_⟩;exact v6
 rintro l hl;have hll:l.length<=p.au.length:=by
  rw[hl];unfold ry7 jt4;split
  ·split
   ·split<;>simp_all
   ·simp_all
  ·exact Ap _
 obtain⟨X0,hX0⟩:∃ X0,X0=[p.av,p.rep.base,p.rep.count,p.spec.e]++p.aj++l:=⟨_,rfl⟩;have hX0l:X0.length<=12004:=by rw[hX0];simp;omega
 have c1:=mj1 gl [[dE p.av,dE p.rep.base,dE p.rep.count,dE p.spec.e],p.aj.map dEx,l.map dE] (by simp;omega);rw[show[[dE p.av,dE p.rep.base,dE p.rep.count,dE p.spec.e],p.aj.map dEx,l.map dE].flatten=X0.map dE by rw[hX0,r8];simp]at c1;simp only[List.map_cons,Bj]at c1;dsimp only[Ac,Ae]
 (repeat' first|apply Ca 51;(refine Fu 51 ?_)|apply Ca 55;(refine Fu 55 ?_)|refine yyp ?_;try refine Ce ?_ ?_<;>intro hb|refine yy ?_|apply Cf 69;refine Ci (hc:=c1) ?_|apply ah;refine Cc Mw ?_|refine Cb λK hK=>?_|apply Cg 2;refine j0 [] jo0 ?_|apply Cg 16;refine j0 [] jq0 ?_|apply_assumption -exfalso -symm)
 rw[jb7];have hgm:∀ j,(jb4 (p.ak.take j)).length<=(jb4 p.ak).length:=λj=>by
  have:jb4 p.ak=jb4 (p.ak.take j)++jb4 (p.ak.drop j):=by rw[<-kn0,List.take_append_drop]
  rw[this,Ag];omega
 refine k7 58 rfl λhsm=>?_;simp only[Ab]at hsm;refine k9 [7,9,60,61,62,63,64,65,66,67,68,69,70,71,72,73,74,75,76,77,78] [] (λj:Nat=>[(60,.d (.int .i64 j)),(7,.d (.list 6 ((qd4 X0 p.ak j).map dE)))]) (λ_=>[]) (λj=>j<=p.ak.length) (λj=>p.ak.length - j) 0 (Ak _) λj hj=>?_;dsimp only[Ac,Ae];rcases Ai j p.ak.length with hj2|hj2
 ·have hst:=qd5 p.ak j hj2;have hm1:=hgm (j+1);have c2:=mj1 gl [(qd4 X0 p.ak j).map dE,[dE p.ak[j].cond,dE p.ak[j].av,dE p.ak[j].time],p.ak[j].aj.map dEx,p.ak[j].values.map dEx] (by
   rw[hst]at hm1;rw[kf9];simp only[List.flatten_cons,List.flatten_nil,Ag,Ab,Aj,Az]at hm1 ⊢;omega)
  rw[show[(qd4 X0 p.ak j).map dE,[dE p.ak[j].cond,dE p.ak[j].av,dE p.ak[j].time],p.ak[j].aj.map dEx,p.ak[j].values.map dEx].flatten=(qd4 X0 p.ak (j+1)).map dE by rw[kf9,kf9,hst,r8];simp]at c2;simp only[List.map_cons,Bj]at c2
  (repeat' first|apply Ca 9;(refine j2 9 ?_)|apply Ca 71;(refine Fu 71 ?_)|apply Ca 76;(refine Fu 76 ?_)|refine yyp ?_;try refine Ce ?_ ?_<;>intro hb|refine yy ?_|apply Cf 69;refine Ci (hc:=c2) ?_|apply ah;refine Cc Mw ?_|refine Cb λK hK=>?_|apply Cg 2;refine j0 [] jo0 ?_|apply Cg 16;refine j0 [] jq0 ?_|apply_assumption -exfalso -symm)
  exact⟨j+1,by omega,by omega,v6⟩
 obtain rfl:j=p.ak.length:=by omega
 rw[kf9,Bv];obtain⟨X,hX⟩:∃ X,X=X0++jb4 p.ak:=⟨_,rfl⟩;have hXl:X.length<=1000000:=by rw[hX,Ag];omega
 have hXm:∀ e∈X,exN e<=1000000000:=λe he=>hex e (by
  rw[hX,hX0,hl]at he;unfold qf7;exact he)
 have hXe:qf7 ω.known p.kind p.av p.rep.base p.rep.count p.spec.e p.aj p.au p.ak=X:=by
  rw[hX,hX0,hl];rfl
 rw[<-hX,<-jb7]
 (repeat' first|refine yyp ?_;try refine Ce ?_ ?_<;>intro hb|refine yy ?_|apply ah;refine Cc Mw ?_|refine Cb λK hK=>?_|apply Cg 2;refine j0 [] jo0 ?_|apply Cg 16;refine j0 [] jq0 ?_|apply_assumption -exfalso -symm)
 refine k9 [11,81,82,83,84,85,86,87,88,89] [904] (λj:Nat=>[(81,.d (.int .i64 j))]) (λj=>[(904,.map (Dl (Ic Ks (Ii (X.take j)))) (Dn (Ic Ks (Ii (X.take j)))))]) (λj=>j<=X.length) (λj=>X.length - j) 0 (Ak _) λj hj=>?_;dsimp only[Ac,Ae];rcases Ai j X.length with hj2|hj2
 ·have c3:=mw7 gl X[j] (hXm _ (Ao hj2));have c4:=qs8 gl (Ic Ks (Ii (X.take j))) (Kg X[j]);rw[ma1,<-kt6 X j hj2]at c4;simp only[r8]at c3
  (repeat' first|apply Ca 11;(refine j2 11 ?_)|apply Ca 88;refine Ch (hc:=c4) ?_|refine yyp ?_;try refine Ce ?_ ?_<;>intro hb|refine yy ?_|apply Cf 70;refine Ci (hc:=c3) ?_|apply ah;refine Cc Mw ?_|refine Cb λK hK=>?_|apply Cg 2;refine j0 [] jo0 ?_|apply Cg 16;refine j0 [] jq0 ?_|apply_assumption -exfalso -symm)
  exact⟨j+1,by omega,by omega,v6⟩
 obtain rfl:j=X.length:=by omega
 rw[Bv]
 ((repeat' first|refine ke1 15 ?_;refine halt ?_|refine yyp ?_;try refine Ce ?_ ?_<;>intro hb|refine yy ?_|apply ah;refine Cc Mw ?_|refine Cb λK hK=>?_|apply Cg 2;refine j0 [] jo0 ?_|apply Cg 16;refine j0 [] jq0 ?_|apply_assumption -exfalso -symm);all_goals try refine unhalt ?_)
 refine jp9 [] [904] (λ_:List ByteArray=>[]) (λL=>[(904,.map (Dl L) (Dn L))]) (λL=>∀ s,s∈L↔s∈Ks\/s∈Ii X\/(p.kind=17/\s∈ri3 (at1 p.name ω.ay))) ?_ ?_
 ·(repeat' first|apply Ca 100;(refine qd3 (λq hq=>?_) (λhq=>?_))|apply Ca 102;(first|(refine Fy (hc:=kt5 gl _ _) ?_;rintro L1 hL1)|(refine Ch (hc:=km8 gl _) ?_))|refine yyp ?_;try refine Ce ?_ ?_<;>intro hb|refine yy ?_|refine yy2 ?_ ?_<;>intro hcmp|apply ah;refine Cc Mw ?_|refine Cb λK hK=>?_|apply Cg 2;refine j0 [] jo0 ?_|apply Cg 16;refine j0 [9] (lin [0,4,8,12,20,17,25,29,32,39]) ?_|apply_assumption -exfalso -symm)
  ·refine⟨L1,λs=>?_,v6⟩;rw[hL1,jd3,hq,or_assoc];simp[hcmp,ri3]
  ·refine⟨_,λs=>?_,v6⟩;rw[jd3,hq];simp[ri3]
  ·refine⟨_,λs=>?_,v6⟩;rw[jd3];simp[hcmp]
 intro L hL;dsimp only[Ac,Ae]
 (repeat' first|refine yyp ?_;try refine Ce ?_ ?_<;>intro hb|refine yy ?_|apply Cf 72;refine Ci (hc:=cp) ?_|apply ah;refine Cc Mw ?_|refine Cb λK hK=>?_|apply Cg 2;refine j0 [] jo0 ?_|apply Cg 16;refine j0 [] jq0 ?_|apply_assumption -exfalso -symm)
 refine k9 [13,106,107,108,109,110,111,112,113,114] [904] (λx:Nat × List ByteArray=>[(106,.d (.int .i64 x.1))]) (λx=>[(904,.map (Dl x.2) (Dn x.2))]) (λx=>x.1<=(aB p).length/\∀ s,s∈x.2↔s∈L\/∃ q∈(aB p).take x.1,s∈jb5 ω q) (λx=>(aB p).length - x.1) (0,L) ⟨Ak _,λs=>by simp⟩ λ⟨j,L2⟩ ⟨hj,hL2⟩=>?_;dsimp only[Ac,Ae]at hj hL2 ⊢;rcases Ai j (aB p).length with hj2|hj2
 ·have hone:=hrec (aB p)[j] (Ao hj2) L2
  (repeat' first|apply Ca 13;(refine j2 13 ?_)|apply Ca 113;(refine Fy (hc:=hone) ?_;rintro L3 hL3)|refine yyp ?_;try refine Ce ?_ ?_<;>intro hb|refine yy ?_|apply ah;refine Cc Mw ?_|refine Cb λK hK=>?_|apply Cg 2;refine j0 [] jo0 ?_|apply Cg 16;refine j0 [] jq0 ?_|apply_assumption -exfalso -symm)
  refine⟨(j+1,L3),⟨by dsimp only;omega,λs=>?_⟩,by dsimp only;omega,v6⟩;dsimp only;rw[hL3,hL2,An hj2];simp only[Au,Bs]
  grind
 ·rw[Ba hj2]at hL2
  (repeat' first|refine yyp ?_;try refine Ce ?_ ?_<;>intro hb|refine yy ?_|apply ah;refine Cc Mw ?_|refine Cb λK hK=>?_|apply Cg 2;refine j0 [] jo0 ?_|apply Cg 16;refine j0 [] jq0 ?_|apply_assumption -exfalso -symm)
  exact ji3 ⟨L2,λs=>by
   rw[hL2,hL,mp8 p,hXe]
   grind,rfl,rfl⟩
end Al
end
section
namespace Al
open Lx Sc
theorem js0 {q:Pr}:∀ {l:List Pr},ja1 l->q∈l->Hz q
 |x::l,h,hq=>by
  simp only[ja1]at h;rcases Bc.1 hq with rfl|hq
  ·exact h.1
  ·exact js0 h.2 hq
theorem kt7 {q:Pr}:∀ {l:List Gu},je2 l->q∈l.flatMap (·.body)->Hz q
 |.mk _ _ _ _ _ _ _ body::l,h,hq=>by
  simp only[je2]at h;simp only[El,Gu.body,Au]at hq;rcases hq with hq|hq
  ·exact js0 h.1 hq
  ·exact kt7 h.2 hq
theorem jm3 {p:Pr}(h:Hz p):Gy p=true:=by
 obtain⟨kind,name,av,aj,au,rep,ak,l,ay,⟨sk,st,sn,se,spp,sf,sb⟩⟩:=p;simp only[Hz]at h;exact h.1
theorem jj3 {p q:Pr}(h:Hz p)(hq:q∈aB p):Hz q:=by
 obtain⟨kind,name,av,aj,au,rep,ak,l,ay,⟨sk,st,sn,se,spp,sf,sb⟩⟩:=p;simp only[Hz]at h;simp only[aB,Au,Pr.spec,Sp.body,Pr.ak,Pr.l]at hq;rcases hq with (hq|hq)|hq
 ·exact js0 h.2.1 hq
 ·exact kt7 h.2.2.1 hq
 ·exact js0 h.2.2.2 hq
theorem mw8 {q:Pr}:∀ {l:List Gu},q∈l.flatMap (·.body)->SizeOf.sizeOf q<SizeOf.sizeOf l
 |.mk _ _ _ _ _ _ _ body::l,hq=>by
  simp only[El,Gu.body,Au]at hq;simp only[List.cons.sizeOf_spec,Gu.mk.sizeOf_spec];rcases hq with hq|hq
  ·have:=Fk hq;omega
  ·have:=mw8 hq;omega
theorem jb0 {p q:Pr}(hq:q∈aB p):SizeOf.sizeOf q<SizeOf.sizeOf p:=by
 obtain⟨kind,name,av,aj,au,rep,ak,l,ay,⟨sk,st,sn,se,spp,sf,sb⟩⟩:=p;simp only[aB,Au,Pr.spec,Sp.body,Pr.ak,Pr.l]at hq;simp only[Pr.mk.sizeOf_spec,Sp.mk.sizeOf_spec];rcases hq with (hq|hq)|hq
 ·have:=Fk hq;omega
 ·have:=mw8 hq;omega
 ·have:=Fk hq;omega
theorem kg0:∀ a b:List Ex,Gw (a++b)=Gw a+Gw b
 |[],b=>by simp[Gw]
 |e::a,b=>by
  have:=kg0 a b;simp only[Ac,Gw,this];omega
theorem kt8:∀ l:List Gu,(∀ g∈l,Jr g=true)->Gw (jb4 l)<=14592 * l.length
 |[],_=>by simp[jb4,Gw]
 |.mk kind name cond av aj values time body::l,h=>by
  have h1:=kf7 (h _ Aw);have h2:=kt8 l λg hg=>h g (Ax _ hg);have h3:=h1.head;simp only[Gu.cond,Gu.av,Gu.time,Gu.aj,Gu.values,Gw]at h3;simp only[jb4,ve3,kg0,Gw,Aj];omega
theorem kt9:∀ l:List Gu,(∀ g∈l,Jr g=true)->(l.flatMap (·.body)).length=l.length
 |[],_=>rfl
 |g::l,h=>by
  have h1:=(kf7 (h g Aw)).body;have h2:=kt9 l λg hg=>h g (Ax _ hg);simp only[El,Ag,h1,h2,Aj];omega
structure Lens (p:Pr):Prop where
 exs:p.aj.length<=6000/\p.au.length<=6000/\(jb4 p.ak).length<=900000
 parts:(aB p).length<=3000
 ex:∀ known,∀ e∈qf7 known p.kind p.av p.rep.base p.rep.count p.spec.e p.aj p.au p.ak,exN e<=1000000000
theorem mw9 {p:Pr}(h:Gy p=true):p.spec.body.length<=1:=by
 have f:=jd7 h;by_cases hk:p.kind=18
 ·have hs:=jy2 (f.spec hk).2;by_cases h5:p.spec.kind=5
  ·rw[hs.body h5];omega
  ·rw[hs.other h5];simp
 ·rw[f.none hk];simp[sp0,Sp.body]
theorem lens {p:Pr}(h:Gy p=true):Lens p:=by
 have f:=jd7 h;have h1:=kt8 p.ak f.gus;have h2:=jd0 (jb4 p.ak);have h3:=kt9 p.ak f.gus;have h4:=mw9 h;obtain⟨l1,l2,l3,l4⟩:=f.lens;obtain⟨e1,e2,e3⟩:=f.head;refine⟨⟨l1,l2,by omega⟩,by simp only[aB,Ag];omega,λknown e he=>?_⟩;unfold qf7 at he;simp only[Au]at he;rcases he with ((he|he)|he)|he
 ·have:=jh8 he;omega
 ·have:=jh8 he;omega
 ·have:e∈p.au:=by
   unfold jt4 at he;split at he
   ·split at he
    ·rename_i hx;rw[hx];split at he
     ·exact Ax _ he
     ·exact he
    ·cases he
   ·exact he
  have:=jh8 this;omega
 ·have:=jh8 he;omega
theorem ry9 (ω:Wd):∀ (n:Nat) (p:Pr),SizeOf.sizeOf p<=n->Hz p->∀ Ks:List ByteArray,FnE prog gl 42 [.ptr 900 0,.d (dPr p),.map 904] (HA ω++[(904,.map (Dl Ks) (Dn Ks))]) (λv H1=>∃ L:List ByteArray,(∀ s,s∈L↔s∈Ks\/s∈jb5 ω p)/\v=.tup []/\H1=HA ω++[(904,.map (Dl L) (Dn L))]):=by
 intro n
 induction n with
 |zero=>intro p h;cases p;simp only[Pr.mk.sizeOf_spec]at h;omega
 |succ n ih=>
  intro p hp ha Ks;have hm:=jm3 ha;have hl:=lens hm;refine ry8 gl ω p Ks (jd7 hm).au hl.exs (by have:=hl.parts;omega) (hl.ex _) λq hq Ls=>ih q ?_ (jj3 ha hq) Ls;have:=jb0 hq;omega
theorem vj4 (ω:Wd)(p:Pr)(ha:Hz p)(Ks:List ByteArray):FnE prog gl 42 [.ptr 900 0,.d (dPr p),.map 904] (HA ω++[(904,.map (Dl Ks) (Dn Ks))]) (λv H1=>∃ L:List ByteArray,(∀ s,s∈L↔s∈Ks\/s∈jb5 ω p)/\v=.tup []/\H1=HA ω++[(904,.map (Dl L) (Dn L))]):=ry9 gl ω _ p (Ap _) ha Ks
end Al
end
section
def Lv:List Nat:=[0,1,2,4,6,8,9,10,11,12,14,16,21,22,23,24,34,46,47,48,49,73,83,84,85,86,98,99,100,101]
def rp8:List Nat:=[6,11,12,48,49,50,51,52,53,54,55,56,57,58,59,60,61,62,63,64,65,66,67,68,69,70,71,72,73,74,75,76,77,78]
def jk9:Plan:=lin [0,4,8,16,13,21,25,28,32,36,42,47,48]
namespace Al
theorem kn1 {q:Option Pc}{e:Ex}:∀ {l:List Ex} {fs:List Fo},e∈Jp q l fs↔∃ i:Nat,l[i]? =some e/\ja2 e=true/\(q.isNone=true\/Qr (fs.drop i)=true)
 |[],fs=>by simp[Jp]
 |x::l,fs=>by
  simp only[Jp,Au,kn1 (l:=l) (fs:=fs.drop 1),List.drop_drop];constructor
  ·rintro(h|⟨i,h1,h2,h3⟩)
   ·split at h
    ·rename_i hc;simp only[Bs]at h;subst h;simp only[Aa,Bn]at hc;exact⟨0,rfl,hc.1,hc.2⟩
    ·cases h
   ·exact⟨i+1,by simpa using h1,h2,by rw[Nat.add_comm];exact h3⟩
  ·rintro⟨i,h1,h2,h3⟩;cases i with
   |zero=>
    simp only[List.getElem?_cons_zero,Bi]at h1;subst h1;left;rw[Ad (by simp only[Aa,Bn];exact⟨h2,h3⟩)];simp
   |succ i=>exact .inr ⟨i,by simpa using h1,h2,by rw[Nat.add_comm]at h3;exact h3⟩
theorem ku0 {fs:List Fo}{i:Nat}:Qr (fs.drop i)=true↔∃ h:i<fs.length,vo9 fs[i]=true:=by
 rcases Ai i fs.length with h|h
 ·rw[Bk h];simp[Qr,h]
 ·rw[Bq h];simp only[Qr];constructor
  ·intro h;cases h
  ·rintro⟨h2,_⟩;omega
theorem qt5 {w:Wd}{s:ByteArray}(p:Pr):s∈jt1 w p↔(∃ e,(e∈p.aj\/e∈jc6 p.ak\/(p.kind=17/\e∈Jp (at1 p.name w.ay) p.au (foO (at1 p.name w.ay))))/\s=Db w.is e.s)\/(p.kind=17/\s∈wrO (at1 p.name w.ay))\/∃ q∈aB p,s∈jt1 w q:=by
 obtain⟨kind,name,av,aj,au,rep,ak,l,ay,⟨sk,st,sn,se,spp,sf,sb⟩⟩:=p;have h1:∀ l:List Pr,s∈kb6 w l↔∃ q∈l,s∈jt1 w q:=λl=>by
  induction l with
  |nil=>simp[kb6]
  |cons x l ih=>simp[kb6,ih]
 have h2:∀ l:List Gu,s∈km4 w l↔∃ q∈l.flatMap (·.body),s∈jt1 w q:=λl=>by
  induction l with
  |nil=>simp[km4]
  |cons x l ih=>
   obtain⟨_,_,_,_,_,_,_,body⟩:=x;simp only[km4,Au,ih,h1,El,Gu.body]
   grind
 simp only[jt1,aB,Au,Br,h1,h2,Pr.kind,Pr.spec,Pr.aj,Pr.au,Pr.ak,Pr.name,Sp.body,Pr.l];split<;>grind
def rz0 (X:List Ex)(gs:List Gu):Nat->List Ex
 |0=>X
 |j+1=>X++jc6 (gs.take (j+1))
theorem ma2 (X:List Ex)(gs:List Gu)(j:Nat):rz0 X gs j=X++jc6 (gs.take j):=by
 cases j with
 |zero=>simp[rz0,jc6]
 |succ j=>rfl
theorem kn2:∀ a b:List Gu,jc6 (a++b)=jc6 a++jc6 b
 |[],b=>rfl
 |.mk _ _ _ _ _ _ _ _::a,b=>by simp only[Ac,jc6,kn2 a b,Eg]
theorem qd6 (gs:List Gu)(j:Nat)(h:j<gs.length):jc6 (gs.take (j+1))=jc6 (gs.take j)++gs[j].aj:=by
 rw[An h,kn2];cases gs[j];simp[jc6,Gu.aj]
theorem rj0 (gs:List Gu):(jc6 gs).length<=(jb4 gs).length:=by
 induction gs with
 |nil=>simp[jc6]
 |cons g gs ih=>
  obtain⟨_,_,_,_,_,_,_,_⟩:=g;simp only[jc6,jb4,ve3,Ag];omega
theorem rp9 {Y Y0 l:List Ex}{j:Nat}{c:Nat->Ex->Prop}(hY:∀ e,e∈Y↔e∈Y0\/∃ i<j,l[i]? =some e/\c i e)(hj:j<l.length)(hc:c j l[j]):∀ e,e∈Y++[l[j]]↔e∈Y0\/∃ i<j+1,l[i]? =some e/\c i e:=λe=>by
 rw[Au,hY,Bs,or_assoc];refine or_congr .rfl ⟨?_,?_⟩
 ·rintro(⟨i,h1,h2⟩|rfl)
  ·exact⟨i,by omega,h2⟩
  ·exact⟨j,by omega,Ar hj,hc⟩
 ·rintro⟨i,h1,h2,h3⟩;by_cases h:i<j
  ·exact .inl ⟨i,h,h2,h3⟩
  ·obtain rfl:i=j:=by omega
   rw[Ar hj]at h2;cases h2;exact .inr rfl
theorem vj5 {Y Y0 l:List Ex}{j:Nat}{c:Nat->Ex->Prop}(hY:∀ e,e∈Y↔e∈Y0\/∃ i<j,l[i]? =some e/\c i e)(hj:j<l.length)(hc:¬c j l[j]):∀ e,e∈Y↔e∈Y0\/∃ i<j+1,l[i]? =some e/\c i e:=λe=>by
 rw[hY];refine or_congr .rfl ⟨?_,?_⟩
 ·rintro⟨i,h1,h2⟩;exact⟨i,by omega,h2⟩
 ·rintro⟨i,h1,h2,h3⟩;by_cases h:i<j
  ·exact⟨i,h,h2,h3⟩
  ·obtain rfl:i=j:=by omega
   rw[Ar hj]at h2;cases h2;exact absurd h3 hc
attribute [local irreducible] TR TC
theorem vj6 (ω:Wd)(hr:Rank ω.is)(p:Pr)(Ks:List ByteArray)(hlen:p.aj.length<=6000/\p.au.length<=6000/\(jb4 p.ak).length<=900000)(hpl:(aB p).length<=1000000)
 (hrec:∀ q∈aB p,∀ Ls:List ByteArray,FnE prog gl 43 [.ptr 900 0,.d (dPr q),.map 905] (HA ω++[(905,.map (Dl Ls) (Dn Ls))]) (λv H1=>∃ L:List ByteArray,(∀ s,s∈L↔s∈Ls\/s∈jt1 ω q)/\v=.tup []/\H1=HA ω++[(905,.map (Dl L) (Dn L))])):
 FnE prog gl 43 [.ptr 900 0,.d (dPr p),.map 905] (HA ω++[(905,.map (Dl Ks) (Dn Ks))]) (λv H1=>∃ L:List ByteArray,(∀ s,s∈L↔s∈Ks\/s∈jt1 ω p)/\v=.tup []/\H1=HA ω++[(905,.map (Dl L) (Dn L))]):=by
 have cp:=Rn gl p hpl;have c0:=kz7 gl (p.aj.map dEx) (by simp;omega);simp only[v7]at hrec cp;have cb:=λs=>kz5 gl ω s hr;rw[v7];dsimp only[HA,Ac,Ae]at hrec cb ⊢
 (refine j3 func43 ntmps43 results43 λw M E b0=>?_)
 (repeat' first|apply Ca 4;(refine Ck 4 ?_)|apply Ca 19;refine Ch (hc:=c0) ?_|refine yyp ?_;try refine Ce ?_ ?_<;>intro hb|refine yy ?_|apply ah;refine Cc Lv ?_|refine Cb λK hK=>?_|apply Cg 8;refine j0 [11] jk9 ?_|apply_assumption -exfalso -symm)
 rw[jb7];have hgm:∀ j,(jc6 (p.ak.take j)).length<=(jc6 p.ak).length:=λj=>by
  have:jc6 p.ak=jc6 (p.ak.take j)++jc6 (p.ak.drop j):=by rw[<-kn2,List.take_append_drop]
  rw[this,Ag];omega
 have htl:=rj0 p.ak;refine k7 21 rfl λhsm=>?_;simp only[Ab]at hsm;refine k9 [6,8,23,24,25,26,27,28,29,30,31] [931] (λx:Nat × Nat=>[(23,.d (.int .i64 x.1)),(6,.own 931 x.2)]) (λx=>[(931,.row 28 6 true ((rz0 p.aj p.ak x.1).map dEx) x.2)]) (λx=>x.1<=p.ak.length) (λx=>p.ak.length - x.1) (0,0) (Ak _) λ⟨j,kv⟩ hj=>?_;dsimp only[Ac,Ae]at hj ⊢;rcases Ai j p.ak.length with hj2|hj2
 ·have hst:=qd6 p.ak j hj2;have hm1:=hgm (j+1);rw[hst,Ag]at hm1;rw[ma2 _ _ j]
  (repeat' first|apply Ca 8;(refine j2 8 ?_)|refine yyp ?_;try refine Ce ?_ ?_<;>intro hb|refine yy ?_|(apply Dw;first|(refine Gj (λkv=>?_))|(refine ai (λsx sp kv hsx hsp hsl=>?_)))|apply ah;refine Cc Lv ?_|refine Cb λK hK=>?_|apply Cg 8;refine j0 [11] jk9 ?_|apply_assumption -exfalso -symm)
  refine⟨(j+1,kv),by dsimp only;omega,by dsimp only;omega,?_⟩;dsimp only;rw[ma2 _ _ (j+1),hst];simp only[Av,Eg];exact v6
 obtain rfl:j=p.ak.length:=by omega
 rw[ma2,Bv,<-jb7];obtain⟨Y0,hY0⟩:∃ Y0,Y0=p.aj++jc6 p.ak:=⟨_,rfl⟩;have hY0l:Y0.length<=906000:=by rw[hY0,Ag];omega
 rw[<-hY0]
 ((repeat' first|refine ke1 7 ?_;refine halt ?_|refine yyp ?_;try refine Ce ?_ ?_<;>intro hb|refine yy ?_|apply ah;refine Cc Lv ?_|refine Cb λK hK=>?_|apply Cg 8;refine j0 [11] jk9 ?_|apply_assumption -exfalso -symm);all_goals try refine unhalt ?_)
 rw[r8];refine jp9 [6] [931,905] (λx:List Ex × Nat × List ByteArray=>[(6,.own 931 x.2.1)]) (λx=>[(931,.row 28 6 true (x.1.map dE) x.2.1),(905,.map (Dl x.2.2) (Dn x.2.2))]) (λx=>x.1.length<=1000000/\(∀ e,e∈x.1↔e∈Y0\/(p.kind=17/\e∈Jp (at1 p.name ω.ay) p.au (foO (at1 p.name ω.ay))))/\∀ s,s∈x.2.2↔s∈Ks\/(p.kind=17/\s∈wrO (at1 p.name ω.ay))) ?_ ?_
 ·by_cases hk:p.kind=17
  ·(repeat' first|apply Ca 42;(refine km9 (λq hq=>?_) (λhq=>?_))|apply Ca 9;(refine j2 9 ?_)|refine yyp ?_;try refine Ce ?_ ?_<;>intro hb|refine yy ?_|apply ah;refine Cc Lv ?_|refine Cb λK hK=>?_|apply Cg 8;refine j0 [11] jk9 ?_|apply_assumption -exfalso -symm)
   ·skip
    refine k7 46 rfl λhsm2=>?_;simp only[Ab]at hsm2;refine k9 rp8 [931] (λx:Nat × Nat × List Ex=>[(48,.d (.int .i64 x.1)),(6,.own 931 x.2.1)]) (λx=>[(931,.row 28 6 true (x.2.2.map dE) x.2.1)]) (λx=>x.1<=p.au.length/\x.2.2.length<=906000+x.1/\∀ e,e∈x.2.2↔e∈Y0\/∃ i<x.1,p.au[i]? =some e/\ja2 e=true/\Qr (q.ax.drop i)=true) (λx=>p.au.length - x.1) (0,kv,Y0) ⟨Ak _,hY0l,λe=>by simp⟩ λ⟨j,kv,Y⟩ ⟨hj,hYl,hY⟩=>?_;dsimp only[Ac,Ae]at hj hYl hY ⊢;rcases Ai j p.au.length with hj2|hj2
    ·have ce:=Ka gl p.au[j];simp only[r8]at ce
     (repeat' first|apply Ca 12;(refine j2 12 ?_)|apply Ca 76;(refine Fu 76 ?_)|refine yyp ?_;try refine Ce ?_ ?_<;>intro hb|refine yy ?_|refine yy2 ?_ ?_<;>intro hcmp|apply Cf 74;refine Ci (hc:=ce) ?_;try refine Ce ?_ ?_<;>intro hb|apply Cf 75;refine Ci (hc:=(vj1 gl (q.ax[j]'(by omega)))) ?_;try refine Ce ?_ ?_<;>intro hb|(apply Dw;first|(refine Gj (λkv=>?_))|(refine ai (λsx sp kv hsx hsp hsl=>?_)))|apply ah;refine Cc Lv ?_|refine Cb λK hK=>?_|apply Cg 8;refine j0 [11] jk9 ?_|apply_assumption -exfalso -symm)
     all_goals first
      |(refine⟨(j+1,kv,Y++[p.au[j]]),⟨by dsimp only;omega,by dsimp only;simp only[Ag,Aj,Az];omega,rp9 (c:=λi e=>ja2 e=true/\Qr (q.ax.drop i)=true) hY hj2 ?_⟩,by dsimp only;omega,?_⟩
        ·exact⟨by assumption,ku0.2 ⟨by omega,by assumption⟩⟩
        ·dsimp only;simp only[Av,List.map_cons,Bj];exact v6)
      |(refine⟨(j+1,kv,Y),⟨by dsimp only;omega,by dsimp only;omega,vj5 (c:=λi e=>ja2 e=true/\Qr (q.ax.drop i)=true) hY hj2 ?_⟩,by dsimp only;omega,v6⟩
        rw[ku0];grind)
    obtain rfl:j=p.au.length:=by omega
    (repeat' first|apply Ca 82;(refine Fy (hc:=qd2 gl _ _) ?_;rintro L1 hL1)|refine yyp ?_;try refine Ce ?_ ?_<;>intro hb|refine yy ?_|apply ah;refine Cc Lv ?_|refine Cb λK hK=>?_|apply Cg 8;refine j0 [11] jk9 ?_|apply_assumption -exfalso -symm)
    refine⟨(Y,kv,L1),⟨by dsimp only;omega,λe=>?_,λs=>?_⟩,v6⟩
    ·dsimp only;rw[hY,kn1,hq];simp only[foO,Option.isNone_some,Bb,false_or,hk,true_and];refine or_congr .rfl ⟨λ⟨i,_,h1,h2⟩=>⟨i,h1,h2⟩,λ⟨i,h1,h2⟩=>⟨i,(Ay.1 h1).1,h1,h2⟩⟩
    ·dsimp only;rw[hL1,hq];simp[hk,wrO]
   ·skip
    refine k7 46 rfl λhsm2=>?_;simp only[Ab]at hsm2;refine k9 rp8 [931] (λx:Nat × Nat × List Ex=>[(48,.d (.int .i64 x.1)),(6,.own 931 x.2.1)]) (λx=>[(931,.row 28 6 true (x.2.2.map dE) x.2.1)]) (λx=>x.1<=p.au.length/\x.2.2.length<=906000+x.1/\∀ e,e∈x.2.2↔e∈Y0\/∃ i<x.1,p.au[i]? =some e/\ja2 e=true) (λx=>p.au.length - x.1) (0,kv,Y0) ⟨Ak _,hY0l,λe=>by simp⟩ λ⟨j,kv,Y⟩ ⟨hj,hYl,hY⟩=>?_;dsimp only[Ac,Ae]at hj hYl hY ⊢;rcases Ai j p.au.length with hj2|hj2
    ·have ce:=Ka gl p.au[j];simp only[r8]at ce
     (repeat' first|apply Ca 12;(refine j2 12 ?_)|apply Ca 76;(refine Fu 76 ?_)|refine yyp ?_;try refine Ce ?_ ?_<;>intro hb|refine yy ?_|apply Cf 74;refine Ci (hc:=ce) ?_;try refine Ce ?_ ?_<;>intro hb|(apply Dw;first|(refine Gj (λkv=>?_))|(refine ai (λsx sp kv hsx hsp hsl=>?_)))|apply ah;refine Cc Lv ?_|refine Cb λK hK=>?_|apply Cg 8;refine j0 [11] jk9 ?_|apply_assumption -exfalso -symm)
     all_goals first
      |(refine⟨(j+1,kv,Y++[p.au[j]]),⟨by dsimp only;omega,by dsimp only;simp only[Ag,Aj,Az];omega,rp9 (c:=λi e=>ja2 e=true) hY hj2 ?_⟩,by dsimp only;omega,?_⟩
        ·assumption
        ·dsimp only;simp only[Av,List.map_cons,Bj];exact v6)
      |(refine⟨(j+1,kv,Y),⟨by dsimp only;omega,by dsimp only;omega,vj5 (c:=λi e=>ja2 e=true) hY hj2 ?_⟩,by dsimp only;omega,v6⟩
        simp_all)
    obtain rfl:j=p.au.length:=by omega
    (repeat' first|apply Ca 82;(refine Ch (hc:=mp6 gl _) ?_)|refine yyp ?_;try refine Ce ?_ ?_<;>intro hb|refine yy ?_|apply ah;refine Cc Lv ?_|refine Cb λK hK=>?_|apply Cg 8;refine j0 [11] jk9 ?_|apply_assumption -exfalso -symm)
    refine⟨(Y,kv,Ks),⟨by dsimp only;omega,λe=>?_,λs=>?_⟩,v6⟩
    ·dsimp only;rw[hY,kn1,hq];simp only[Option.isNone_none,true_or,and_true,hk,true_and];refine or_congr .rfl ⟨λ⟨i,_,h1,h2⟩=>⟨i,h1,h2⟩,λ⟨i,h1,h2⟩=>⟨i,(Ay.1 h1).1,h1,h2⟩⟩
    ·dsimp only;rw[hq];simp[wrO]
  ·(repeat' first|refine yyp ?_;try refine Ce ?_ ?_<;>intro hb|refine yy ?_|apply ah;refine Cc Lv ?_|refine Cb λK hK=>?_|apply Cg 8;refine j0 [11] jk9 ?_|apply_assumption -exfalso -symm)
   refine⟨(Y0,kv,Ks),⟨by dsimp only;omega,λe=>?_,λs=>?_⟩,v6⟩
   ·simp[hk]
   ·simp[hk]
 rintro⟨Y,kw,L⟩ ⟨hYl,hY,hL⟩;dsimp only[Ac,Ae]at hYl hY hL ⊢;refine jl3 (kw3 6 rfl (ToD.own rfl)) ?_
 (repeat' first|refine yyp ?_;try refine Ce ?_ ?_<;>intro hb|refine yy ?_|apply ah;refine Cc Lv ?_|refine Cb λK hK=>?_|apply Cg 8;refine j0 [11] jk9 ?_|apply_assumption -exfalso -symm)
 refine k9 [14,85,86,87,88,89,90,91,92,93,94,95,96] [905] (λj:Nat=>[(85,.d (.int .i64 j))]) (λj=>[(905,.map (Dl (Ic L ((Y.take j).map λe=>Db ω.is e.s))) (Dn (Ic L ((Y.take j).map λe=>Db ω.is e.s))))]) (λj=>j<=Y.length) (λj=>Y.length - j) 0 (Ak _) λj hj=>?_;dsimp only[Ac,Ae];rcases Ai j Y.length with hj2|hj2
 ·have c4:=cb Y[j].s;have c5:=qs9 gl (Ic L ((Y.take j).map λe=>Db ω.is e.s)) [Db ω.is Y[j].s];rw[ma1,show((Y.take j).map λe=>Db ω.is e.s)++[Db ω.is Y[j].s]=(Y.take (j+1)).map λe=>Db ω.is e.s by rw[An hj2,Av];rfl]at c5;simp only[List.map_cons,Bj]at c5
  (repeat' first|apply Ca 14;(refine j2 14 ?_)|apply Ca 93;refine Ch (hc:=c4) ?_|apply Ca 94;(refine Fu 94 ?_)|apply Ca 95;refine Ch (hc:=c5) ?_|refine yyp ?_;try refine Ce ?_ ?_<;>intro hb|refine yy ?_|apply ah;refine Cc Lv ?_|refine Cb λK hK=>?_|apply Cg 8;refine j0 [11] jk9 ?_|apply_assumption -exfalso -symm)
  exact⟨j+1,by omega,by omega,v6⟩
 obtain rfl:j=Y.length:=by omega
 rw[Bv,<-r8];obtain⟨L0,hL0⟩:∃ L0,L0=Ic L (Y.map λe=>Db ω.is e.s):=⟨_,rfl⟩;rw[<-hL0]
 (repeat' first|refine yyp ?_;try refine Ce ?_ ?_<;>intro hb|refine yy ?_|apply Cf 72;refine Ci (hc:=cp) ?_|apply ah;refine Cc Lv ?_|refine Cb λK hK=>?_|apply Cg 8;refine j0 [11] jk9 ?_|apply_assumption -exfalso -symm)
 refine k9 [16,100,101,102,103,104,105,106,107,108] [905] (λx:Nat × List ByteArray=>[(100,.d (.int .i64 x.1))]) (λx=>[(905,.map (Dl x.2) (Dn x.2))]) (λx=>x.1<=(aB p).length/\∀ s,s∈x.2↔s∈L0\/∃ q∈(aB p).take x.1,s∈jt1 ω q) (λx=>(aB p).length - x.1) (0,L0) ⟨Ak _,λs=>by simp⟩ λ⟨j,L2⟩ ⟨hj,hL2⟩=>?_;dsimp only[Ac,Ae]at hj hL2 ⊢;rcases Ai j (aB p).length with hj2|hj2
 ·have hone:=hrec (aB p)[j] (Ao hj2) L2
  (repeat' first|apply Ca 16;(refine j2 16 ?_)|apply Ca 107;(refine Fy (hc:=hone) ?_;rintro L3 hL3)|refine yyp ?_;try refine Ce ?_ ?_<;>intro hb|refine yy ?_|apply ah;refine Cc Lv ?_|refine Cb λK hK=>?_|apply Cg 8;refine j0 [11] jk9 ?_|apply_assumption -exfalso -symm)
  refine⟨(j+1,L3),⟨by dsimp only;omega,λs=>?_⟩,by dsimp only;omega,v6⟩;dsimp only;rw[hL3,hL2,An hj2];simp only[Au,Bs]
  grind
 ·rw[Ba hj2]at hL2
  (repeat' first|refine yyp ?_;try refine Ce ?_ ?_<;>intro hb|refine yy ?_|apply ah;refine Cc Lv ?_|refine Cb λK hK=>?_|apply Cg 8;refine j0 [11] jk9 ?_|apply_assumption -exfalso -symm)
  exact ji3 ⟨L2,λs=>by
   rw[hL2,hL0,jd3,hL,qt5 p,Br];simp only[hY,hY0,Au]
   grind,rfl,rfl⟩
open Lx Sc
theorem vj7 (ω:Wd)(hr:Rank ω.is):∀ (n:Nat) (p:Pr),SizeOf.sizeOf p<=n->Hz p->∀ Ks:List ByteArray,FnE prog gl 43 [.ptr 900 0,.d (dPr p),.map 905] (HA ω++[(905,.map (Dl Ks) (Dn Ks))]) (λv H1=>∃ L:List ByteArray,(∀ s,s∈L↔s∈Ks\/s∈jt1 ω p)/\v=.tup []/\H1=HA ω++[(905,.map (Dl L) (Dn L))]):=by
 intro n
 induction n with
 |zero=>intro p h;cases p;simp only[Pr.mk.sizeOf_spec]at h;omega
 |succ n ih=>
  intro p hp ha Ks;have hm:=jm3 ha;have hl:=lens hm;refine vj6 gl ω hr p Ks hl.exs (by have:=hl.parts;omega) λq hq Ls=>ih q ?_ (jj3 ha hq) Ls;have:=jb0 hq;omega
theorem vr1 (ω:Wd)(hr:Rank ω.is)(p:Pr)(ha:Hz p)(Ks:List ByteArray):FnE prog gl 43 [.ptr 900 0,.d (dPr p),.map 905] (HA ω++[(905,.map (Dl Ks) (Dn Ks))]) (λv H1=>∃ L:List ByteArray,(∀ s,s∈L↔s∈Ks\/s∈jt1 ω p)/\v=.tup []/\H1=HA ω++[(905,.map (Dl L) (Dn L))]):=vj7 gl ω hr _ p (Ap _) ha Ks
theorem ma3 (ω:Wd)(hr:Rank ω.is)(p:Pr)(ha:Hz p):FnE prog gl 24 [.ptr 900 0,.d (dPr p)] (HA ω) (λv H1=>∃ L:List ByteArray × List ByteArray,((∀ s,s∈L.1↔s∈jb5 ω p)/\∀ s,s∈L.2↔s∈jt1 ω p)/\v=.tup [.d (.map (Dl L.1) (Dn L.1)),.d (.map (Dl L.2) (Dn L.2))]/\H1=HA ω):=by
 have c1:=vj4 gl ω p ha [];have c2:=vr1 gl ω hr p ha [];rw[v7]at c1 c2 ⊢;dsimp only[HA,Ac,Ae,Dl,Dn,Bj]at c1 c2 ⊢
 (refine j3 func24 ntmps24 results24 λw M E b0=>?_)
 (repeat' first|apply Ca 3;(refine Ck 3 ?_)|apply Ca 6;(refine Ir 904 ?_)|apply Ca 7;(refine Ir 905 ?_)|apply Ca 11;(refine Fy (hc:=c1) ?_;rintro L1 hL1)|apply Ca 15;(refine Fy (hc:=c2) ?_;rintro L2 hL2)|refine yyp ?_;try refine Ce ?_ ?_<;>intro hb|refine yy ?_|apply ah;refine Cc [0,1,3,4,5,6,7] ?_|refine Cb λK hK=>?_|apply_assumption -exfalso -symm)
 refine mp4 4 904 rfl rfl (ns:=[904]) (by(repeat (first|exact Drop.nil|apply Drop.drop rfl|apply Drop.take rfl));fail_if_success intros) rfl rfl ?_;refine mp4 5 905 rfl rfl (ns:=[905]) (by(repeat (first|exact Drop.nil|apply Drop.drop rfl|apply Drop.take rfl));fail_if_success intros) rfl rfl ?_;refine j1 (j8 ⟨(L1,L2),⟨λs=>?_,λs=>?_⟩,?_,rfl⟩)
 ·dsimp only;rw[hL1];simp
 ·dsimp only;rw[hL2];simp
 ·rfl
end Al
end
section
namespace Al
def SimC (a b:ByteArray × Pc):Prop:=a.1=b.1/\a.2.ax=b.2.ax/\(∀ s,s∈a.2.occ↔s∈b.2.occ)/\∀ s,s∈a.2.wr↔s∈b.2.wr
def Ou:List (ByteArray × Pc)->List (ByteArray × Pc)->Prop
 |[],[]=>True
 |a::l,b::m=>SimC a b/\Ou l m
 |_,_=>False
structure Sim (w v:Wd):Prop where
 known:w.known=v.known
 is:w.is=v.is
 ay:Ou w.ay v.ay
theorem SimC.refl (a:ByteArray × Pc):SimC a a:=⟨rfl,rfl,λ_=>.rfl,λ_=>.rfl⟩
theorem Ou.refl:∀ l,Ou l l
 |[]=>trivial
 |a::l=>⟨SimC.refl a,Ou.refl l⟩
theorem Ou.trans:∀ {l m n},Ou l m->Ou m n->Ou l n
 |[],[],[],_,_=>trivial
 |a::l,b::m,c::n,⟨⟨h1,h2,h3,h4⟩,h5⟩,⟨⟨k1,k2,k3,k4⟩,k5⟩=>⟨⟨h1.trans k1,h2.trans k2,λs=>(h3 s).trans (k3 s),λs=>(h4 s).trans (k4 s)⟩,Ou.trans h5 k5⟩
 |[],[],_::_,_,h=>h.elim
 |[],_::_,_,h,_=>h.elim
 |_::_,[],_,h,_=>h.elim
 |_::_,_::_,[],_,h=>h.elim
theorem Sim.refl (w:Wd):Sim w w:=⟨rfl,rfl,Ou.refl _⟩
theorem Sim.trans {w v u:Wd}(h:Sim w v)(k:Sim v u):Sim w u:=⟨h.known.trans k.known,h.is.trans k.is,h.ay.trans k.ay⟩
inductive Uk:Option Pc->Option Pc->Prop
 |none:Uk Option.none Option.none
 |some {a b:Pc} (hf:a.ax=b.ax) (ho:∀ s,s∈a.occ↔s∈b.occ) (hw:∀ s,s∈a.wr↔s∈b.wr):Uk (Option.some a) (Option.some b)
theorem Ou.at:∀ {l m:List (ByteArray × Pc)},Ou l m->∀ s,Uk (at1 s l) (at1 s m)
 |[],[],_,s=>.none
 |(x,a)::l,(y,b)::m,⟨⟨h1,h2,h3,h4⟩,h5⟩,s=>by
  simp only at h1;subst h1;simp only[at1];split
  ·exact .some h2 h3 h4
  ·exact Ou.at h5 s
 |[],_::_,h,_=>h.elim
 |_::_,[],h,_=>h.elim
theorem Ou.up {s:ByteArray}{a b:Pc}(hf:a.ax=b.ax)(ho:∀ s,s∈a.occ↔s∈b.occ)(hw:∀ s,s∈a.wr↔s∈b.wr):∀ {l m:List (ByteArray × Pc)},Ou l m->Ou (up1 s a l) (up1 s b m)
 |[],[],_=>⟨⟨rfl,hf,ho,hw⟩,trivial⟩
 |(x,c)::l,(y,d)::m,⟨⟨h1,h2,h3,h4⟩,h5⟩=>by
  simp only at h1;subst h1;simp only[up1];split
  ·exact⟨⟨rfl,hf,ho,hw⟩,h5⟩
  ·exact⟨⟨rfl,h2,h3,h4⟩,Ou.up hf ho hw h5⟩
 |[],_::_,h=>h.elim
 |_::_,[],h=>h.elim
theorem Uk.occ {a b:Option Pc}(h:Uk a b)(s:ByteArray):s∈ri3 a↔s∈ri3 b:=by
 cases h with
 |none=>rfl
 |some _ ho _=>exact ho s
theorem Uk.wr {a b:Option Pc}(h:Uk a b)(s:ByteArray):s∈wrO a↔s∈wrO b:=by
 cases h with
 |none=>rfl
 |some _ _ hw=>exact hw s
theorem Uk.callE {a b:Option Pc}(h:Uk a b)(l:List Ex):Jp a l (foO a)=Jp b l (foO b):=by
 cases h with
 |none=>rfl
 |@some a b hf _ _=>
  have:∀ (l:List Ex) (fs:List Fo),Al.Jp (Option.some a) l fs=Al.Jp (Option.some b) l fs:=λl=>by
   induction l with
   |nil=>intro fs;rfl
   |cons e l ih=>intro fs;simp only[Al.Jp,ih,Option.isNone_some]
  simp only[foO,hf];exact this _ _
theorem rz1 {w v:Wd}(h:Sim w v):∀ (n:Nat) (p:Pr),SizeOf.sizeOf p<=n->∀ s,s∈jb5 w p↔s∈jb5 v p:=by
 intro n
 induction n with
 |zero=>intro p h;cases p;simp only[Pr.mk.sizeOf_spec]at h;omega
 |succ n ih=>
  intro p hp s;rw[mp8,mp8,h.known,(h.ay.at p.name).occ s];refine or_congr .rfl (or_congr .rfl ⟨?_,?_⟩)
  ·rintro⟨q,hq,hs⟩;exact⟨q,hq,(ih q (by have:=jb0 hq;omega) s).1 hs⟩
  ·rintro⟨q,hq,hs⟩;exact⟨q,hq,(ih q (by have:=jb0 hq;omega) s).2 hs⟩
theorem Sim.occ {w v:Wd}(h:Sim w v)(p:Pr)(s:ByteArray):s∈jb5 w p↔s∈jb5 v p:=rz1 h _ p (Ap _) s
end Al
end
section
namespace Al
theorem vj8 {w v:Wd}(h:Sim w v):∀ (n:Nat) (p:Pr),SizeOf.sizeOf p<=n->∀ s,s∈jt1 w p↔s∈jt1 v p:=by
 intro n
 induction n with
 |zero=>intro p h;cases p;simp only[Pr.mk.sizeOf_spec]at h;omega
 |succ n ih=>
  intro p hp s;have hs:=h.ay.at p.name;rw[qt5,qt5,h.is,hs.wr s,hs.callE p.au];refine or_congr .rfl (or_congr .rfl ⟨?_,?_⟩)
  ·rintro⟨q,hq,hs⟩;exact⟨q,hq,(ih q (by have:=jb0 hq;omega) s).1 hs⟩
  ·rintro⟨q,hq,hs⟩;exact⟨q,hq,(ih q (by have:=jb0 hq;omega) s).2 hs⟩
theorem Sim.wr {w v:Wd}(h:Sim w v)(p:Pr)(s:ByteArray):s∈jt1 w p↔s∈jt1 v p:=vj8 h _ p (Ap _) s
theorem Sim.Im {w v:Wd}(h:Sim w v)(rep:ByteArray)(sk:Int)(sn:List ByteArray)(se:ByteArray)(sf:List Fo):Sim (Im w rep sk sn se sf) (Im v rep sk sn se sf):=by
 unfold Al.Im;dsimp only;rw[h.known];split
 ·split
  ·exact⟨rfl,by dsimp only;rw[h.is],h.ay⟩
  ·exact⟨rfl,h.is,h.ay⟩
 ·exact⟨rfl,h.is,h.ay⟩
theorem Sim.Js {w v:Wd}(h:Sim w v)(sk:Int)(sn:List ByteArray)(sf:List Fo){occ wr occ' wr':List ByteArray}(ho:∀ s,s∈occ↔s∈occ')(hw:∀ s,s∈wr↔s∈wr'):Sim (Js w sk sn sf occ wr) (Js v sk sn sf occ' wr'):=by
 unfold Al.Js;split
 ·split
  ·exact⟨h.known,h.is,Ou.up (a:=⟨sf,occ,wr⟩) (b:=⟨sf,occ',wr'⟩) rfl ho hw h.ay⟩
  ·exact h
 ·exact h
noncomputable def Ut (w:Wd):List Pr->List ByteArray
 |b::_=>jb5 w b
 |[]=>[]
noncomputable def wrB (w:Wd):List Pr->List ByteArray
 |b::_=>jt1 w b
 |[]=>[]
theorem jm4 (w:Wd)(p:Pr):z1 w p=Df (Gp (Js (Df (Im w p.rep.name p.spec.kind p.spec.names p.spec.e.s p.spec.ax) p.spec.body) p.spec.kind p.spec.names p.spec.ax (Ut (Df (Im w p.rep.name p.spec.kind p.spec.names p.spec.e.s p.spec.ax) p.spec.body) p.spec.body) (wrB (Df (Im w p.rep.name p.spec.kind p.spec.names p.spec.e.s p.spec.ax) p.spec.body) p.spec.body)) p.ak) p.l:=by
 obtain⟨kind,name,av,aj,au,rep,ak,l,ay,⟨sk,st,sn,se,spp,sf,sb⟩⟩:=p;simp only[z1,Pr.rep,Pr.spec,Sp.kind,Sp.names,Sp.e,Sp.ax,Sp.body,Pr.ak,Pr.l];cases sb<;>rfl
mutual
theorem jy4:∀ (p:Pr) {w v:Wd},Sim w v->Sim (z1 w p) (z1 v p)
 |.mk kind name av aj au rep ak l ay (.mk sk st sn se spp sf sb),w,v,h=>by
  have h1:=js1 sb (h.Im rep.name sk sn se.s sf);rw[jm4,jm4];simp only[Pr.rep,Pr.spec,Sp.kind,Sp.names,Sp.e,Sp.ax,Sp.body,Pr.ak,Pr.l];refine js1 l (ku1 ak (h1.Js sk sn sf (λs=>?_) λs=>?_))
  ·cases sb with
   |nil=>rfl
   |cons b r=>exact h1.occ b s
  ·cases sb with
   |nil=>rfl
   |cons b r=>exact h1.wr b s
theorem js1:∀ (l:List Pr) {w v:Wd},Sim w v->Sim (Df w l) (Df v l)
 |[],w,v,h=>by simpa [Df]using h
 |p::l,w,v,h=>by
  simp only[Df];exact js1 l (jy4 p h)
theorem ku1:∀ (l:List Gu) {w v:Wd},Sim w v->Sim (Gp w l) (Gp v l)
 |[],w,v,h=>by simpa [Gp]using h
 |.mk _ _ _ _ _ _ _ body::l,w,v,h=>by
  simp only[Gp];exact ku1 l (js1 body h)
end
theorem mj2 (w:Wd):∀ (a b:List Pr),Df w (a++b)=Df (Df w a) b:=by
 intro a
 induction a generalizing w with
 |nil=>intro b;simp[Df]
 |cons p a ih=>intro b;simp only[Ac,Df,ih]
theorem jy5 (w:Wd)(l:List Pr)(j:Nat)(h:j<l.length):Df w (l.take (j+1))=z1 (Df w (l.take j)) l[j]:=by
 rw[An h,mj2];simp[Df]
theorem mj3 (w:Wd):∀ (a b:List Gu),Gp w (a++b)=Gp (Gp w a) b:=by
 intro a
 induction a generalizing w with
 |nil=>intro b;simp[Gp]
 |cons p a ih=>intro b;cases p;simp only[Ac,Gp,ih]
theorem ma4 (w:Wd)(l:List Gu)(j:Nat)(h:j<l.length){b:Pr}(hb:l[j].body=[b]):Gp w (l.take (j+1))=z1 (Gp w (l.take j)) b:=by
 rw[An h,mj3];generalize l[j]=g at hb;obtain⟨_,_,_,_,_,_,_,body⟩:=g;simp only[Gu.body]at hb;subst hb;simp[Gp,Df]
end Al
end
end Go.Proofs.YtklklgfpkpglgaaGreatDoor
