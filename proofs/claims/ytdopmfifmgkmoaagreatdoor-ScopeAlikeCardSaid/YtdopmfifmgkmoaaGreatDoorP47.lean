/- Parts: R11, R10, R12. -/
import Derived.Test.YtdopmfifmgkmoaaGreatDoorP46
set_option linter.all false
set_option maxRecDepth 100000
set_option maxHeartbeats 16000000
namespace Go.Proofs.YtdopmfifmgkmoaaGreatDoor
open Go.RowKit Go.Proofs.Tryz
section
def Nz:List Nat:=[0,1,2,3,4,5,6,7,8,15,34,50,70,89]
theorem FnD.ofOwn {P:Program}{gl:List (Nat × List D)}{f:FuncId}{args:List V}{n e sz:Nat}{xs:List D}(h:FnE P gl f args [] (fun v H1=>∃ k,v=.own n k/\H1=[(n,.row e sz true xs k)])):FnD P gl f args (fun v=>v=.d (.list sz xs)):=fun w M us hM hus hg=>by
 have hM0:Mut M mv3 []=M:=by
  funext b o;apply propext;constructor
  ·rintro(h|⟨n,ob,h1,_⟩)
   ·exact h
   ·cases h1
  ·exact .inl
 have h0:=h w M mv3 us hM (by rw[hM0];exact hus) ⟨fun n ob hl=>(by cases hl),fun n m b ob ob' _ hl=>(by cases hl),fun n ob b o hl=>(by cases hl)⟩ (by rw[hM0];exact hg);refine h0.mono ?_;rintro en w' ⟨v,x,H1,β1,⟨k,rfl,rfl⟩,hok,rfl,hfr,hfix,hnew,hobs,hv⟩;have hl:look n [(n,Ob.row e sz true xs k)]=some (.row e sz true xs k):=by rw[j9,Ae rfl]
 have he:x=(β1 n).v:=hv e sz true xs hl;subst he;refine⟨.d (.list sz xs),_,rfl,.d _,rfl,hfr.below,?_⟩;obtain⟨ys,h1,h2⟩:=hobs.obs n _ hl;have hk:∀ b o,M b o->Mut M β1 [(n,Ob.row e sz true xs k)] b o:=fun b o h=>.inl h;obtain⟨a',c,hv',h3,h4,h5⟩:=jd4 h1;refine⟨a',c,ys,hv',h3,h4,h5,Gl.keep (Keeps.weak hk) _ _ _ h2,fun j y hj=>?_⟩;have h1':=h1;rw[hv']at h1';obtain⟨b,o,e',_,hc⟩:=(Sl.Rx h1').rd j y hj;exact⟨b,o,e',fun hm=>hobs.out n _ b _ hl (.inl (by rw[hv',e'];rfl)) hm,hc⟩
theorem FnE.fix {P:Program}{gl:List (Nat × List D)}{f:FuncId}{args:List V}{n e sz:Nat}{xs:List D}(h:FnE P gl f args [] (fun v H1=>∃ k,v=.own n k/\H1=[(n,.row e sz true xs k)])):FnE P gl f args [] (fun v H1=>v=.own n 0/\H1=[(n,.row e sz true xs 0)]):=fun w M β us h1 h2 h3 h4=>by
 refine(h w M β us h1 h2 h3 h4).mono ?_;rintro en w' ⟨v,x,H1,β1,⟨k,rfl,rfl⟩,hok,rfl,hfr,hfix,hnew,hobs,hv⟩;have hl:∀ (k m:Nat) (ob:Ob),look m [(n,Ob.row e sz true xs k)]=some ob->m=n/\ob=.row e sz true xs k:=fun k m ob hm=>by
  rw[j9]at hm;split at hm
  ·rename_i e';cases hm;exact⟨e'.symm,rfl⟩
  ·cases hm
 have hn:∀ k:Nat,look n [(n,Ob.row e sz true xs k)]=some (.row e sz true xs k):=fun k=>by rw[j9,Ae rfl]
 have hM:∀ b o,Mut M β1 [(n,Ob.row e sz true xs 0)] b o->Mut M β1 [(n,Ob.row e sz true xs k)] b o:=fun b o hm=>by
  rcases hm with hm|⟨m,ob,h5,h6,h7⟩
  ·exact .inl hm
  ·obtain⟨rfl,rfl⟩:=hl _ _ _ h5;exact .inr ⟨m,_,hn k,h6,h7⟩
 refine⟨.own n 0,x,[(n,.row e sz true xs 0)],β1,⟨rfl,rfl⟩,?_,rfl,hfr,hfix,fun m ob b hm hb2=>?_,⟨fun m ob hm=>?_,fun m m' b ob ob' hne h5 h6 _=>?_,fun m ob b o hm hb2=>?_⟩,fun e' sz' sh' xs' hm=>?_⟩
 ·simp[Ot,mo5,mo4,ku8,V.within,kk3,Ob.cells,jf8,look,hn]
 ·obtain⟨rfl,rfl⟩:=hl _ _ _ hm;exact hnew m _ b (hn k) hb2
 ·obtain⟨rfl,rfl⟩:=hl _ _ _ hm;obtain⟨ys,h5,h6⟩:=hobs.obs m _ (hn k);exact⟨ys,h5,Gl.keep (Keeps.weak hM) _ _ _ h6⟩
 ·obtain⟨rfl,_⟩:=hl _ _ _ h5;obtain⟨rfl,_⟩:=hl _ _ _ h6;exact absurd rfl hne
 ·obtain⟨rfl,rfl⟩:=hl _ _ _ hm;exact hobs.out m _ b o (hn k) hb2
 ·exact hv e sz true xs (hn k)
theorem kd1 (l:List Pr)(j:Nat)(hj:j<l.length):Sc.Du (l.take (j+1))=Sc.Du (l.take j)++Sc.Dk l[j]:=by
 induction l generalizing j with
 |nil=>simp at hj
 |cons x l ih=>
  cases j with
  |zero=>simp[Sc.Du]
  |succ j=>
   have:=ih j (by simpa using hj);simp only[Eg,Sc.Du,Bz,this,Bb]
theorem mn7 (l:List Gu)(j:Nat)(hj:j<l.length):Sc.Gb (l.take (j+1))=Sc.Gb (l.take j)++l[j].name::Sc.Du l[j].body:=by
 induction l generalizing j with
 |nil=>simp at hj
 |cons x l ih=>
  obtain⟨_,_,_,_,_,_,_,body⟩:=x;cases j with
  |zero=>simp[Sc.Gb,Sc.Jw,Gu.body,Gu.name]
  |succ j=>
   have:=ih j (by simpa using hj);simp only[Eg,Sc.Gb,Bz,this,Bb]
theorem ma9 (p:Pr):Sc.Dk p=p.spec.proto.l.map (·.tag)++(Sc.Du p.spec.body++(Sc.Gb p.guards++Sc.Du p.l)):=by
 obtain⟨_,_,_,_,_,_,_,_,_,⟨⟩⟩:=p;rw[Sc.Dk];rfl
theorem mi0 (l:List Pr)(j:Nat)(hj:j<l.length):(Sc.Du (l.take j)).length+(Sc.Dk l[j]).length<=(Sc.Du l).length:=by
 have h1:Sc.Du l=Sc.Du (l.take (j+1))++Sc.Du (l.drop (j+1)):=by
  have:∀ a b:List Pr,Sc.Du (a++b)=Sc.Du a++Sc.Du b:=fun a b=>by
   induction a with
   |nil=>simp[Sc.Du]
   |cons x a ih=>simp only[Ac,Sc.Du,ih,Bb]
  rw[<-this,Ev]
 rw[h1,kd1 l j hj];simp only[Ag];omega
theorem re9 (l:List Gu)(j:Nat)(hj:j<l.length):(Sc.Gb (l.take j)).length+1+(Sc.Du l[j].body).length<=(Sc.Gb l).length:=by
 have h1:Sc.Gb l=Sc.Gb (l.take (j+1))++Sc.Gb (l.drop (j+1)):=by
  have:∀ a b:List Gu,Sc.Gb (a++b)=Sc.Gb a++Sc.Gb b:=fun a b=>by
   induction a with
   |nil=>simp[Sc.Gb]
   |cons x a ih=>simp only[Ac,Sc.Gb,ih,Bb]
  rw[<-this,Ev]
 rw[h1,mn7 l j hj];simp only[Ag,Ai];omega
attribute [local irreducible] TR TC
theorem mt9 (gl:List (Nat × List D))(p:Pr)(hb:(Sc.Dk p).length<=1000000000)
 (ih:∀ x:Pr,(x∈p.l\/x∈p.spec.body\/∃ g∈p.guards,x∈g.body)->(Sc.Dk x).length<=1000000000->FnD prog gl 40 [.d (dPr x)] (fun v=>v=.d (.list 1 ((Sc.Dk x).map .str)))):
 FnE prog gl 40 [.d (dPr p)] [] (fun v H1=>∃ k,v=.own 3 k/\H1=[(3,.row 9 1 true ((Sc.Dk p).map .str) k)]):=by
 have hb0:=hb;rw[ma9]at hb0;simp only[Ag,Aa,Ai,Aq]at hb0;have hdecl:=ma9 p;generalize Sc.Dk p=dp at hdecl hb ⊢;simp only[v8]at ih ⊢
 (refine j4 func40 ntmps40 results40 fun w M E b0=>?_)
 refine k9 0 24 rfl rfl fun hnl=>?_;refine k9 0 23 rfl rfl fun hng=>?_;refine k9 0 39 rfl rfl fun hnv=>?_;refine k9 0 41 rfl rfl fun hns=>?_;simp only[Aa]at hnl hng hnv hns
 (repeat' first|refine Ca 1 ?_;(refine j6 1 ?_)|refine yyp ?_;try refine Cc ?_ ?_<;>intro hb|refine yy ?_|refine at_nil ?_;refine Ce Nz ?_|refine Cb fun K hK=>?_|apply_assumption -exfalso -symm)
 refine jf1 (t:=3) (e:=9) (sz:=1) rfl rfl ?_;refine j8 [3,4,9,10,11,12,13,14,15,16,17,18,19,20,21,22,23,24,25,26,27,28] [3] (fun x:Nat × Nat=>[(4,.d (.int .i64 x.1)),(3,.own 3 x.2)]) (fun x=>[(3,.row 9 1 true ((p.spec.proto.l.take x.1).map (fun f=>D.str f.tag)) x.2)]) (fun x=>x.1<=p.spec.proto.l.length) (fun x=>p.spec.proto.l.length - x.1) (0,0) (Ak _) fun⟨j,kv⟩ hj=>?_;dsimp only[Ac,Ad]at hj ⊢;rcases Ah j p.spec.proto.l.length with hj2|hj2
 ·have hlj:((p.spec.proto.l.take j).map (fun f=>D.str f.tag)).length<=1000000000:=by simp only[Ag,Aa,Aj];omega
  (repeat' first|refine Ca 27 ?_;(refine Dh 27 ?_)|refine yyp ?_;try refine Cc ?_ ?_<;>intro hb|refine yy ?_|(refine Cq ?_;first|(refine Cs (fun kv=>?_))|(refine z_append_suf (fun sx sp kv hsx hsp hsl=>?_)))|refine at_nil ?_;refine Ce Nz ?_|refine Cb fun K hK=>?_|apply_assumption -exfalso -symm)
  refine⟨(j+1,kv),by dsimp only;omega,by dsimp only;omega,?_⟩;dsimp only;rw[<-ja3 _ _ hj2];simp only[Ap,Am,Aw,<-Bb];exact v6
 obtain rfl:j=p.spec.proto.l.length:=by omega
 rw[Au]
 (repeat' first|refine yyp ?_;try refine Cc ?_ ?_<;>intro hb|refine yy ?_|refine at_nil ?_;refine Ce Nz ?_|refine Cb fun K hK=>?_|apply_assumption -exfalso -symm)
 obtain⟨C2,hC2⟩:∃ C2:List D,C2=p.spec.proto.l.map (fun f=>D.str f.tag):=⟨_,rfl⟩;rw[<-hC2,<-Bp C2];simp only[v8];have hC2l:C2.length=p.spec.proto.l.length:=by rw[hC2,Aa]
 refine j8 [3,5,29,30,31,32,33,34,35,36,37,38,39,40,41,42,43,44,45] [3] (fun x:Nat × Nat=>[(5,.d (.int .i64 x.1)),(3,.own 3 x.2)]) (fun x=>[(3,.row 9 1 true (C2++(Sc.Du (p.spec.body.take x.1)).map D.str) x.2)]) (fun x=>x.1<=p.spec.body.length) (fun x=>p.spec.body.length - x.1) (0,kv) (Ak _) fun⟨j,kv⟩ hj=>?_;dsimp only[Ac,Ad]at hj ⊢;rcases Ah j p.spec.body.length with hj2|hj2
 ·have hsub:=mi0 p.spec.body j hj2;have hone:=ih p.spec.body[j] (.inr (.inl (Ar hj2))) (by omega)
  (repeat' first|refine yyp ?_;try refine Cc ?_ ?_<;>intro hb|refine yy ?_|(refine Cq ?_;first|(refine Cs (fun kv=>?_))|(refine z_append_suf (fun sx sp kv hsx hsp hsl=>?_)))|refine Cf 40 ?_;refine Cg (hc:=hone) ?_|refine at_nil ?_;refine Ce Nz ?_|refine Cb fun K hK=>?_|apply_assumption -exfalso -symm)
  refine⟨(j+1,kv),by dsimp only;omega,by dsimp only;omega,?_⟩;dsimp only;rw[kd1 _ _ hj2];simp only[Ap,<-Bb];exact v6
 obtain rfl:j=p.spec.body.length:=by omega
 rw[Au]
 (repeat' first|refine yyp ?_;try refine Cc ?_ ?_<;>intro hb|refine yy ?_|refine at_nil ?_;refine Ce Nz ?_|refine Cb fun K hK=>?_|apply_assumption -exfalso -symm)
 obtain⟨C3,hC3⟩:∃ C3:List D,C3=C2++(Sc.Du p.spec.body).map D.str:=⟨_,rfl⟩;rw[<-hC3,<-Bp C3];have hC3l:C3.length=C2.length+(Sc.Du p.spec.body).length:=by rw[hC3,Ag,Aa]
 rw[qe3];refine j8 [3,6,7,46,47,48,49,50,51,52,53,54,55,56,57,58,59,60,61,62,63,64,65,66,67,68,69,70,71,72,73,74,75,76,77,78,79,80,81,82,83,84] [3] (fun x:Nat × Nat=>[(6,.d (.int .i64 x.1)),(3,.own 3 x.2)]) (fun x=>[(3,.row 9 1 true (C3++(Sc.Gb (p.guards.take x.1)).map D.str) x.2)]) (fun x=>x.1<=p.guards.length) (fun x=>p.guards.length - x.1) (0,kv) (Ak _) fun⟨j,kv⟩ hj=>?_;dsimp only[Ac,Ad]at hj ⊢;rcases Ah j p.guards.length with hj2|hj2
 ·have hsg:=re9 p.guards j hj2;have hlj:(C3++(Sc.Gb (p.guards.take j)).map D.str).length+1<=1000000000:=by simp only[Ag,Aa];omega
  (repeat' first|refine Ca 60 ?_;(refine Dh 60 ?_)|refine yyp ?_;try refine Cc ?_ ?_<;>intro hb|refine yy ?_|(refine Cq ?_;first|(refine Cs (fun kv=>?_))|(refine z_append_suf (fun sx sp kv hsx hsp hsl=>?_)))|refine at_nil ?_;refine Ce Nz ?_|refine Cb fun K hK=>?_|apply_assumption -exfalso -symm)
  refine jq5 1 23 j 22 rfl rfl (by rw[Bx,Be hj2];rfl) rfl fun hsb=>?_;simp only[Aa]at hsb;obtain⟨C4,hC4⟩:∃ C4:List D,C4=C3++(Sc.Gb (p.guards.take j)).map D.str++[D.str p.guards[j].name]:=⟨_,rfl⟩;rw[<-hC4,<-Bp C4];have hC4l:C4.length=C3.length+(Sc.Gb (p.guards.take j)).length+1:=by rw[hC4];simp only[Ag,Aa,Ai,Aq]
  refine j8 [3,7,62,63,64,65,66,67,68,69,70,71,72,73,74,75,76,77,78,79,80,81,82,83,84] [3] (fun x:Nat × Nat=>[(7,.d (.int .i64 x.1)),(3,.own 3 x.2)]) (fun x=>[(3,.row 9 1 true (C4++(Sc.Du (p.guards[j].body.take x.1)).map D.str) x.2)]) (fun x=>x.1<=p.guards[j].body.length) (fun x=>p.guards[j].body.length - x.1) (0,kv) (Ak _) fun⟨i,kv⟩ hi=>?_;dsimp only[Ac,Ad]at hi ⊢;rcases Ah i p.guards[j].body.length with hi2|hi2
  ·have hsub:=mi0 p.guards[j].body i hi2;have hone:=ih p.guards[j].body[i] (.inr (.inr ⟨p.guards[j],Ar hj2,Ar hi2⟩)) (by omega)
   (repeat' first|refine yyp ?_;try refine Cc ?_ ?_<;>intro hb|refine yy ?_|(refine Cq ?_;first|(refine Cs (fun kv=>?_))|(refine z_append_suf (fun sx sp kv hsx hsp hsl=>?_)))|refine Cf 40 ?_;refine Cg (hc:=hone) ?_|refine at_nil ?_;refine Ce Nz ?_|refine Cb fun K hK=>?_|apply_assumption -exfalso -symm)
   refine⟨(i+1,kv),by dsimp only;omega,by dsimp only;omega,?_⟩;dsimp only;rw[kd1 _ _ hi2];simp only[Ap,<-Bb];exact v6
  obtain rfl:i=p.guards[j].body.length:=by omega
  rw[Au]
  (repeat' first|refine yyp ?_;try refine Cc ?_ ?_<;>intro hb|refine yy ?_|refine at_nil ?_;refine Ce Nz ?_|refine Cb fun K hK=>?_|apply_assumption -exfalso -symm)
  refine⟨(j+1,kv),by dsimp only;omega,by dsimp only;omega,?_⟩;dsimp only;rw[mn7 _ _ hj2,hC4,show ∀ a b,List.map D.str (a++p.guards[j].name::b)=a.map D.str++[D.str p.guards[j].name]++b.map D.str from fun a b=>by simp];simp only[<-Bb];exact v6
 obtain rfl:j=p.guards.length:=by omega
 rw[Au]
 (repeat' first|refine yyp ?_;try refine Cc ?_ ?_<;>intro hb|refine yy ?_|refine at_nil ?_;refine Ce Nz ?_|refine Cb fun K hK=>?_|apply_assumption -exfalso -symm)
 obtain⟨C5,hC5⟩:∃ C5:List D,C5=C3++(Sc.Gb p.guards).map D.str:=⟨_,rfl⟩;rw[<-hC5,<-Bp C5];have hC5l:C5.length=C3.length+(Sc.Gb p.guards).length:=by rw[hC5,Ag,Aa]
 refine j8 [3,8,85,86,87,88,89,90,91,92,93,94,95,96,97,98,99] [3] (fun x:Nat × Nat=>[(8,.d (.int .i64 x.1)),(3,.own 3 x.2)]) (fun x=>[(3,.row 9 1 true (C5++(Sc.Du (p.l.take x.1)).map D.str) x.2)]) (fun x=>x.1<=p.l.length) (fun x=>p.l.length - x.1) (0,kv) (Ak _) fun⟨j,kv⟩ hj=>?_;dsimp only[Ac,Ad]at hj ⊢;rcases Ah j p.l.length with hj2|hj2
 ·have hsub:=mi0 p.l j hj2;have hone:=ih p.l[j] (.inl (Ar hj2)) (by omega)
  (repeat' first|refine yyp ?_;try refine Cc ?_ ?_<;>intro hb|refine yy ?_|(refine Cq ?_;first|(refine Cs (fun kv=>?_))|(refine z_append_suf (fun sx sp kv hsx hsp hsl=>?_)))|refine Cf 40 ?_;refine Cg (hc:=hone) ?_|refine at_nil ?_;refine Ce Nz ?_|refine Cb fun K hK=>?_|apply_assumption -exfalso -symm)
  refine⟨(j+1,kv),by dsimp only;omega,by dsimp only;omega,?_⟩;dsimp only;rw[kd1 _ _ hj2];simp only[Ap,<-Bb];exact v6
 obtain rfl:j=p.l.length:=by omega
 rw[Au]
 (repeat' first|refine yyp ?_;try refine Cc ?_ ?_<;>intro hb|refine yy ?_|refine at_nil ?_;refine Ce Nz ?_|refine Cb fun K hK=>?_|apply_assumption -exfalso -symm)
 refine j0 (qz5 (H1:=[(3,.row 9 1 true (C5++(Sc.Du p.l).map D.str) kv)]) ⟨kv,rfl,?_⟩);rw[hdecl,hC5,hC3,hC2];simp
theorem qi2 (gl:List (Nat × List D)):∀ (n:Nat) (p:Pr),SizeOf.sizeOf p<=n->(Sc.Dk p).length<=1000000000->FnE prog gl 40 [.d (dPr p)] [] (fun v H1=>∃ k,v=.own 3 k/\H1=[(3,.row 9 1 true ((Sc.Dk p).map .str) k)]):=by
 intro n
 induction n with
 |zero=>intro p h;cases p;simp only[Pr.mk.sizeOf_spec]at h;omega
 |succ n ih=>
  intro p hp hb;refine mt9 gl p hb fun x hx hxb=>FnD.ofOwn (ih x ?_ hxb);rcases hx with hx|hx|⟨g,hg,hx⟩
  ·have:=mv0 hx;omega
  ·have:=mv2 hx;omega
  ·have:=mv1 hg hx;omega
end
section
variable {mm:Int}
theorem kd2:∀ {l:List Pr},Sc.Jj l->∀ x∈l,Sc.Ms x
 |p::l,h,x,hx=>by
  simp only[Sc.Jj]at h;rcases Bf.1 hx with rfl|hx
  ·exact h.1
  ·exact kd2 h.2 x hx
theorem mn8:∀ {l:List Gu},Sc.Lp l->∀ g∈l,Sc.Jj g.body
 |.mk _ _ _ _ _ _ _ body::l,h,x,hx=>by
  simp only[Sc.Lp]at h;rcases Bf.1 hx with rfl|hx
  ·exact h.1
  ·exact mn8 h.2 x hx
theorem rp9 {p:Pr}(h:Lx.Il p=true)(hk:p.spec.kind=4):p.spec.type.kind≠4:=by
 rw[Lx.Np,Ab]at h;by_cases h18:p.kind=18
 ·have:=Lx.Oy _ h.1 h18;unfold Lx.Jf at this;rw[hk]at this;simp only[Int.reduceEq,if_false,if_true,Ab,k7]at this;rw[this.1.1.1.2];decide
 ·have:=(Sc.Qk _ h.1).2.1 h18;rw[this]at hk;cases hk
def RIh (gl:List (Nat × List D))(tk:List ByteArray)(x:Pr):Prop:=∀ (l:List (ByteArray × Sc.Ent)) (σ:Sc.W),σ.env=Gh l->σ.tk.map (·.1)=tk->l.length+Sc.prN x<=1000000000->σ.fit (Sc.prN x+1)->
    FnE prog gl 41 [.ptr 900 0,.d (dPr x),.d (.list 4 (l.map dEn))] (RW tk σ) (fun v H1=>v=.d (dPr (Sc.Fv σ x).1)/\H1=RW tk (Sc.Fv σ x).2)
theorem kj6 (gl:List (Nat × List D))(tk:List ByteArray)(l:List (ByteArray × Sc.Ent))(ps:List Pr)(σ:Sc.W)(he:σ.env=Gh l)(htk:σ.tk.map (·.1)=tk)(hll:l.length+Sc.Hz ps<=1000000000)(hf:σ.fit (Sc.Hz ps+1))(ih:∀ x∈ps,RIh gl tk x):
 FnE prog gl 80 [.ptr 900 0,.d (.list 42 (ps.map dPr)),.d (.list 4 (l.map dEn))] (RW tk σ) (fun v H1=>v=.d (.list 42 ((Sc.Gv σ ps).1.map dPr))/\H1=RW tk (Sc.Gv σ ps).2):=by
 rw[Sc.Kw];have hn:=ks3 ps;refine qi0 gl tk l ps σ (by omega) fun j hj=>?_;have g:=Sc.Iu (ps.take j) σ;rw[Sc.Kw]at g;have h2:=kh0 ps j hj;exact ih ps[j] (Ar hj) l _ (g.env.trans he) (by rw[g.tk];exact htk) (by omega) (r8 g (hf.mono (by omega)))
theorem mi1 (gl:List (Nat × List D))(tk:List ByteArray)(l:List (ByteArray × Sc.Ent))(gs:List Gu)(σ:Sc.W)(he:σ.env=Gh l)(htk:σ.tk.map (·.1)=tk)(hll:l.length+Sc.Jb gs<=1000000000)(hf:σ.fit (Sc.Jb gs+1))(ih:∀ g∈gs,∀ x∈g.body,RIh gl tk x):
 FnE prog gl 79 [.ptr 900 0,.d (.list 23 (gs.map dGu)),.d (.list 4 (l.map dEn))] (RW tk σ) (fun v H1=>v=.d (.list 23 ((Sc.Hw σ gs).1.map dGu))/\H1=RW tk (Sc.Hw σ gs).2):=by
 rw[Sc.Me];refine mt5 gl tk l gs σ he (hf.mono (m:=Sc.Jb gs) (by omega)).room fun j hj=>?_;have g:=Sc.Ji (gs.take j) σ;rw[Sc.Me]at g;have h2:=jv6 gs j hj;have ih:=ih gs[j] (Ar hj);generalize Cv Sc.Jc σ (gs.take j)=d at *;generalize gs[j]=u at *;have hu:Sc.guN u=Sc.Ng u.cond u.chan u.targets u.values u.time+Sc.Hz u.body:=by
  obtain⟨_,_,_,_,_,_,_,_⟩:=u;simp only[Sc.guN,Gu.cond,Gu.chan,Gu.targets,Gu.values,Gu.time,Gu.body]
 have gh:=Sc.Rh d.2 u.cond u.chan u.targets u.values u.time;exact kj6 gl tk l u.body _ (gh.env.trans (g.env.trans he)) (by rw[gh.tk,g.tk];exact htk) (by omega) (r8 gh (r8 g (hf.mono (by omega)))) ih
theorem mb0 (gl:List (Nat × List D))(tk:List ByteArray):∀ (n:Nat) (p:Pr),SizeOf.sizeOf p<=n->Sc.Ry p->kc2 p->Sc.Ms p->RIh gl tk p:=by
 intro n
 induction n with
 |zero=>intro p h;cases p;simp only[Pr.mk.sizeOf_spec]at h;omega
 |succ n ih=>
  intro p hp hok hcap hall l0 σ he htk hll hf;have il:∀ x∈p.l,SizeOf.sizeOf x<=n:=fun x hx=>by have:=mv0 hx;omega
  have ig:∀ g∈p.guards,∀ x∈g.body,SizeOf.sizeOf x<=n:=fun g hg x hx=>by have:=mv1 hg hx;omega
  have ib:∀ x∈p.spec.body,SizeOf.sizeOf x<=n:=fun x hx=>by have:=mv2 hx;omega
  obtain⟨kind,name,chan,targets,exprs,rep,guards,l,procs,⟨sk,st,sn,se,spp,sf,sb⟩⟩:=p;simp only[Sc.Ry]at hok;simp only[kc2]at hcap;simp only[Sc.Ms]at hall;obtain⟨hpl,hab,hag,hal⟩:=hall;obtain⟨hn,hsp,_,_,hob,hog,hol⟩:=hok;obtain⟨⟨hc1,hc2,hc3⟩,hcb,hcg,hcl⟩:=hcap;simp only[Pr.l,Pr.guards,Pr.spec,Sp.body]at il ig ib;have il:=fun x hx=>ih x (il x hx) (kh1 hol x hx) (js9 hcl x hx) (kd2 hal x hx);have ig:=fun g hg x hx=>ih x (ig g hg x hx) (kh1 (mg2 hog g hg) x hx) (js9 (ks6 hcg g hg) x hx) (kd2 (mn8 hag g hg) x hx);have ib:=fun x hx=>ih x (ib x hx) (kh1 hob x hx) (js9 hcb x hx) (kd2 hab x hx);simp only[Sc.prN]at hf hll;have gp:=Sc.Po σ kind name chan targets exprs rep;have h5:kind=5->0<exprs.length:=fun h=>List.length_pos_iff.2 (hn.2 h).1;by_cases hk:kind=18
  ·have h0:=hn.1.1 hk;have hr:Sc.Iw (Sc.Dn (Sc.Cy σ.env kind chan exprs) (Cv j2 (j2 (if kind=17 then Sc.nameOf σ name else (name,σ)).2 chan).2 targets).2 exprs).2 rep=((rep,[]),(Sc.Dn (Sc.Cy σ.env kind chan exprs) (Cv j2 (j2 (if kind=17 then Sc.nameOf σ name else (name,σ)).2 chan).2 targets).2 exprs).2):=by
    unfold Sc.Iw;rw[Ae h0]
   simp only[Sc.Fv,Ae hk];unfold Sc.Hg at gp ⊢;dsimp only at gp ⊢;rw[hr]at gp ⊢;dsimp only at gp ⊢;obtain⟨a,ha⟩:∃ a,a=if kind=17 then Sc.nameOf σ name else (name,σ):=⟨_,rfl⟩;rw[<-ha]at gp ⊢;obtain⟨c,hc⟩:∃ c,c=j2 a.2 chan:=⟨_,rfl⟩;rw[<-hc]at gp ⊢;obtain⟨t,ht⟩:∃ t,t=Cv j2 c.2 targets:=⟨_,rfl⟩;rw[<-ht]at gp ⊢;obtain⟨x,hx⟩:∃ x,x=Sc.Dn (Sc.Cy σ.env kind chan exprs) t.2 exprs:=⟨_,rfl⟩;rw[<-hx]at gp ⊢;have fx:=r8 gp (m:=2 * sn.length+3 * sf.length+exN se+1+Sc.Hz sb+Sc.Jb guards+Sc.Hz l+1) (hf.mono (by omega));have gh:=Sc.Oq x.2 (.mk sk st sn se spp sf []);obtain⟨h,hh⟩:∃ h,h=Sc.Fu x.2 (.mk sk st sn se spp sf []):=⟨_,rfl⟩;rw[<-hh]at gh ⊢;have hN:Sc.Nc (.mk sk st sn se spp sf [])=2 * sn.length+3 * sf.length+exN se+1:=rfl;have fh:=r8 gh (m:=Sc.Hz sb+Sc.Jb guards+Sc.Hz l+1) (fx.mono (by omega));have hil:sf.length=h.1.inner.length:=by
    rw[hh];unfold Sc.Fu;dsimp only;rw[Sc.Jv,Aa];rfl
   have hol':sn.length=h.1.own.length:=by
    rw[hh];unfold Sc.Fu;dsimp only;rw[Sc.Jv,Aa];rfl
   have fb:=jj3 (τ:=h.2) (ns:=sf.map (·.name)) (xs:=h.1.inner) (m:=Sc.Hz sb+Sc.Jb guards+Sc.Hz l+1) (hf.mono (by rw[Aa];omega)) fh (by rw[Aa];exact hil);have hsp:Sc.Cn σ.env (sf.map (·.name)) h.1.inner=Gh (l0++(sf.map (·.name)).zip h.1.inner):=by rw[he];exact jr0 _ _ _ (by rw[Aa];exact hil)
   have hso:Sc.Cn σ.env sn h.1.own=Gh (l0++sn.zip h.1.own):=by rw[he];exact jr0 _ _ _ hol'
   have xe:x.2.env=Gh l0:=gp.env.trans he;have xt:x.2.tk.map (·.1)=tk:=by rw[gp.tk];exact htk
   have ht1:h.2.tk.map (·.1)=tk:=by rw[gh.tk];exact xt
   have hB:=kj6 gl tk (l0++(sf.map (·.name)).zip h.1.inner) sb {h.2 with env:=Sc.Cn σ.env (sf.map (·.name)) h.1.inner} hsp ht1 (by rw[Ag,List.length_zip,Aa];omega) (fb.mono (m:=Sc.Hz sb+1) (by omega)) ib;have gb:=Sc.Iu sb {h.2 with env:=Sc.Cn σ.env (sf.map (·.name)) h.1.inner};obtain⟨b,hb'⟩:∃ b,b=Sc.Gv {h.2 with env:=Sc.Cn σ.env (sf.map (·.name)) h.1.inner} sb:=⟨_,rfl⟩;rw[<-hb']at hB gb ⊢;have fb2:=r8 gb (m:=Sc.Jb guards+Sc.Hz l+1) (fb.mono (by omega));have fg:=jj3 (τ:=b.2) (ns:=sn) (xs:=h.1.own) (m:=Sc.Jb guards+Sc.Hz l+1) (hf.mono (by omega)) fb2 hol';have bt:b.2.tk.map (·.1)=tk:=by rw[gb.tk];exact ht1
   have hG:=mi1 gl tk (l0++sn.zip h.1.own) guards {b.2 with env:=Sc.Cn σ.env sn h.1.own} hso bt (by rw[Ag,List.length_zip];omega) (fg.mono (m:=Sc.Jb guards+1) (by omega)) ig;have gg:=Sc.Ji guards {b.2 with env:=Sc.Cn σ.env sn h.1.own};obtain⟨g,hg⟩:∃ g,g=Sc.Hw {b.2 with env:=Sc.Cn σ.env sn h.1.own} guards:=⟨_,rfl⟩;rw[<-hg]at hG gg ⊢;have fg2:=r8 gg (m:=Sc.Hz l+1) (fg.mono (by omega));have hL:=kj6 gl tk (l0++sn.zip h.1.own) l g.2 (gg.env.trans hso) (by rw[gg.tk];exact bt) (by rw[Ag,List.length_zip];omega) fg2 il;obtain⟨q,hq⟩:∃ q,q=Sc.Gv g.2 l:=⟨_,rfl⟩;rw[<-hq]at hL ⊢;have hhd:Sc.Fu x.2 (.mk sk st sn se spp sf sb)=Sc.Fu x.2 (.mk sk st sn se spp sf []):=rfl;have hS:=qs9 gl tk l0 (.mk sk st sn se spp sf sb) x.2 b.2 b.1 xe xt (fx.mono (m:=Sc.Nc (.mk sk st sn se spp sf sb)+1) (by have:Sc.Nc (.mk sk st sn se spp sf sb)=2 * sn.length+3 * sf.length+exN se+1:=rfl;omega)) (fun q=>rp9 hpl q) hc2 (by omega) (by rw[hhd,<-hh];exact hB);rw[hhd,<-hh]at hS;exact mt6 gl tk l0 (.mk kind name chan targets exprs rep guards l procs (.mk sk st sn se spp sf sb)) σ he htk (by omega) a ha _ rfl c hc t ht x hx h b.1 b.2 (by rw[List.length_zip];simp only[Pr.spec,Sp.names];omega) hS g.1 q.1 g.2 q.2 hk h0 h5 (hf.mono (by simp only[Pr.chan,Pr.targets,Pr.exprs,Pr.rep];omega)) hG hL
  ·simp only[Sc.Fv,Af hk];by_cases h0:rep.name=ByteArray.empty
   ·have hr:Sc.Iw (Sc.Dn (Sc.Cy σ.env kind chan exprs) (Cv j2 (j2 (if kind=17 then Sc.nameOf σ name else (name,σ)).2 chan).2 targets).2 exprs).2 rep=((rep,[]),(Sc.Dn (Sc.Cy σ.env kind chan exprs) (Cv j2 (j2 (if kind=17 then Sc.nameOf σ name else (name,σ)).2 chan).2 targets).2 exprs).2):=by
     unfold Sc.Iw;rw[Ae h0]
    rw[Ae h0];unfold Sc.Hg at gp ⊢;dsimp only at gp ⊢;rw[hr]at gp ⊢;dsimp only at gp ⊢;obtain⟨a,ha⟩:∃ a,a=if kind=17 then Sc.nameOf σ name else (name,σ):=⟨_,rfl⟩;rw[<-ha]at gp ⊢;obtain⟨c,hc⟩:∃ c,c=j2 a.2 chan:=⟨_,rfl⟩;rw[<-hc]at gp ⊢;obtain⟨t,ht⟩:∃ t,t=Cv j2 c.2 targets:=⟨_,rfl⟩;rw[<-ht]at gp ⊢;obtain⟨x,hx⟩:∃ x,x=Sc.Dn (Sc.Cy σ.env kind chan exprs) t.2 exprs:=⟨_,rfl⟩;rw[<-hx]at gp ⊢;have fx:=r8 gp (m:=Sc.Jb guards+Sc.Hz l+1) (hf.mono (by omega));have fg:=jj3 (τ:=x.2) (ns:=([]:List ByteArray)) (xs:=([]:List Sc.Ent)) (m:=Sc.Jb guards+Sc.Hz l+1) (hf.mono (by simp only[Ai,Aq];omega)) fx rfl;have xe:x.2.env=Gh l0:=gp.env.trans he;have xt:x.2.tk.map (·.1)=tk:=by rw[gp.tk];exact htk
    have hG:=mi1 gl tk l0 guards {x.2 with env:=Sc.Cn σ.env ([]:List ByteArray) ([]:List Sc.Ent)} he xt (by omega) (fg.mono (m:=Sc.Jb guards+1) (by omega)) ig;have gg:=Sc.Ji guards {x.2 with env:=Sc.Cn σ.env ([]:List ByteArray) ([]:List Sc.Ent)};obtain⟨g,hg⟩:∃ g,g=Sc.Hw {x.2 with env:=Sc.Cn σ.env ([]:List ByteArray) ([]:List Sc.Ent)} guards:=⟨_,rfl⟩;rw[<-hg]at hG gg ⊢;have fg2:=r8 gg (m:=Sc.Hz l+1) (fg.mono (by omega));have hL:=kj6 gl tk l0 l g.2 (gg.env.trans he) (by rw[gg.tk];exact xt) (by omega) fg2 il;obtain⟨q,hq⟩:∃ q,q=Sc.Gv g.2 l:=⟨_,rfl⟩;rw[<-hq]at hL ⊢;exact mt7 gl tk l0 (.mk kind name chan targets exprs rep guards l procs (.mk sk st sn se spp sf sb)) σ he htk (by omega) a ha _ rfl c hc t ht x hx g.1 q.1 g.2 q.2 hk h0 h5 (hf.mono (by simp only[Pr.chan,Pr.targets,Pr.exprs,Pr.rep];omega)) hG hL
   ·have hr:Sc.Iw (Sc.Dn (Sc.Cy σ.env kind chan exprs) (Cv j2 (j2 (if kind=17 then Sc.nameOf σ name else (name,σ)).2 chan).2 targets).2 exprs).2 rep=((⟨(Sc.Ct (Sc.Dn (Sc.Cy σ.env kind chan exprs) (Cv j2 (j2 (if kind=17 then Sc.nameOf σ name else (name,σ)).2 chan).2 targets).2 exprs).2).1,(j2 (Sc.Ct (Sc.Dn (Sc.Cy σ.env kind chan exprs) (Cv j2 (j2 (if kind=17 then Sc.nameOf σ name else (name,σ)).2 chan).2 targets).2 exprs).2).2 rep.base).1,(j2 (j2 (Sc.Ct (Sc.Dn (Sc.Cy σ.env kind chan exprs) (Cv j2 (j2 (if kind=17 then Sc.nameOf σ name else (name,σ)).2 chan).2 targets).2 exprs).2).2 rep.base).2 rep.count).1⟩,[⟨(Sc.Ct (Sc.Dn (Sc.Cy σ.env kind chan exprs) (Cv j2 (j2 (if kind=17 then Sc.nameOf σ name else (name,σ)).2 chan).2 targets).2 exprs).2).1,false,[]⟩]),(j2 (j2 (Sc.Ct (Sc.Dn (Sc.Cy σ.env kind chan exprs) (Cv j2 (j2 (if kind=17 then Sc.nameOf σ name else (name,σ)).2 chan).2 targets).2 exprs).2).2 rep.base).2 rep.count).2):=by
     unfold Sc.Iw;rw[Af h0]
    rw[Af h0];unfold Sc.Hg at gp ⊢;dsimp only at gp ⊢;rw[hr]at gp ⊢;dsimp only at gp ⊢;obtain⟨a,ha⟩:∃ a,a=if kind=17 then Sc.nameOf σ name else (name,σ):=⟨_,rfl⟩;rw[<-ha]at gp ⊢;obtain⟨c,hc⟩:∃ c,c=j2 a.2 chan:=⟨_,rfl⟩;rw[<-hc]at gp ⊢;obtain⟨t,ht⟩:∃ t,t=Cv j2 c.2 targets:=⟨_,rfl⟩;rw[<-ht]at gp ⊢;obtain⟨x,hx⟩:∃ x,x=Sc.Dn (Sc.Cy σ.env kind chan exprs) t.2 exprs:=⟨_,rfl⟩;rw[<-hx]at gp ⊢;obtain⟨r,hr'⟩:∃ r,r=Sc.Ct x.2:=⟨_,rfl⟩;rw[<-hr']at gp ⊢;obtain⟨rb,hrb⟩:∃ rb,rb=j2 r.2 rep.base:=⟨_,rfl⟩;rw[<-hrb]at gp ⊢;obtain⟨rc,hrc⟩:∃ rc,rc=j2 rb.2 rep.count:=⟨_,rfl⟩;rw[<-hrc]at gp ⊢;have fx:=r8 gp (m:=Sc.Jb guards+Sc.Hz l+1) (hf.mono (by omega));have fg:=jj3 (τ:=rc.2) (ns:=[rep.name]) (xs:=[(⟨r.1,false,[]⟩:Sc.Ent)]) (m:=Sc.Jb guards+Sc.Hz l+1) (hf.mono (by simp only[Ai,Aq];omega)) fx rfl;have hso:Sc.Cn σ.env [rep.name] [(⟨r.1,false,[]⟩:Sc.Ent)]=Gh (l0++[(rep.name,(⟨r.1,false,[]⟩:Sc.Ent))]):=by rw[he];exact jr0 _ _ _ rfl
    have rt:rc.2.tk.map (·.1)=tk:=by rw[gp.tk];exact htk
    have hrN:1<=Sc.Gc chan targets exprs rep:=by unfold Sc.Gc;omega
    have hG:=mi1 gl tk (l0++[(rep.name,(⟨r.1,false,[]⟩:Sc.Ent))]) guards {rc.2 with env:=Sc.Cn σ.env [rep.name] [(⟨r.1,false,[]⟩:Sc.Ent)]} hso rt (by simp only[Ag,Ai,Aq];omega) (fg.mono (m:=Sc.Jb guards+1) (by omega)) ig;have gg:=Sc.Ji guards {rc.2 with env:=Sc.Cn σ.env [rep.name] [(⟨r.1,false,[]⟩:Sc.Ent)]};obtain⟨g,hg⟩:∃ g,g=Sc.Hw {rc.2 with env:=Sc.Cn σ.env [rep.name] [(⟨r.1,false,[]⟩:Sc.Ent)]} guards:=⟨_,rfl⟩;rw[<-hg]at hG gg ⊢;have fg2:=r8 gg (m:=Sc.Hz l+1) (fg.mono (by omega));have hL:=kj6 gl tk (l0++[(rep.name,(⟨r.1,false,[]⟩:Sc.Ent))]) l g.2 (gg.env.trans hso) (by rw[gg.tk];exact rt) (by simp only[Ag,Ai,Aq];omega) fg2 il;obtain⟨q,hq⟩:∃ q,q=Sc.Gv g.2 l:=⟨_,rfl⟩;rw[<-hq]at hL ⊢;exact mt8 gl tk l0 (.mk kind name chan targets exprs rep guards l procs (.mk sk st sn se spp sf sb)) σ he htk (by omega) a ha _ rfl c hc t ht x hx r hr' rb hrb rc hrc g.1 q.1 g.2 q.2 hk h0 h5 (hf.mono (by simp only[Pr.chan,Pr.targets,Pr.exprs,Pr.rep];omega)) hG hL
end
section
def Rf:List Nat:=[0,1,4,5,6,7,18,32]
section
variable {E:Set}{S:Sd}{dst:Option Tmp}{ty:TypeId}{pos:String}{af:Array Edge}{gd:Option (Nat × Bool)}
theorem qi3 {xt yt:TypeId}{x y:Operand}{s t:ByteArray}(hx:S.ev x=some (.d (.str s)))(hy:S.ev y=some (.d (.str t)))(hox:Cw x=true)(hoy:Cw y=true):
 Swift E S ⟨dst,.binOp .lss xt x y yt,ty,pos,af,gd⟩ (.d (.bool (Sc.bL s t))):=Swift.mk fun β a w h=>by
 have h1:a.eval x=.string s:=h.ev hx hox;have h2:a.eval y=.string t:=h.ev hy hoy;refine⟨.bool (Sc.bL s t),fun w' _=>?_,rfl⟩;simp[execOp,h1,h2,eqGuard,binOp,Op.stringOp,Sc.bL,ByteArray.toList_eq]
end
section
variable {E:Set}{Q:Exit->Sd->Prop}{ops:Array Oper}{draw:Bool}{rest:Todo}{way:Kt}{ty:TypeId}{pos:String}{af:Array Edge}{gd:Option (Nat × Bool)}
variable {env:List (Nat × V)}{H:List (Nat × Ob)}{gl:List (Nat × List D)}{d:Nat}
theorem Xc {xt yt:TypeId}{x y:Operand}{s t:ByteArray}(h1:Sc.bL s t=true->TR E draw ops Q rest ⟨(d,.d (.bool true))::env,H,gl⟩)(h2:Sc.bL s t=false->TR E draw ops Q rest ⟨(d,.d (.bool false))::env,H,gl⟩)(hx:Sd.ev ⟨env,H,gl⟩ x=some (.d (.str s)):=by exact rfl)(hy:Sd.ev ⟨env,H,gl⟩ y=some (.d (.str t)):=by exact rfl)(hox:Cw x=true:=by exact rfl)(hoy:Cw y=true:=by exact rfl)(hd:d<E.C.nt:=by exact ltd rfl)
 (hg:Sd.gd ⟨env,H,gl⟩ ops ⟨some d,.binOp .lss xt x y yt,ty,pos,af,gd⟩=some true:=by exact rfl):
 TR E draw ops Q (.step ⟨some d,.binOp .lss xt x y yt,ty,pos,af,gd⟩ way rest) ⟨env,H,gl⟩:=by
 have h:=qi3 (E:=E) (dst:=some d) (ty:=ty) (pos:=pos) (af:=af) (gd:=gd) (S:=⟨env,H,gl⟩) (xt:=xt) (yt:=yt) hx hy hox hoy;cases hb:Sc.bL s t with
 |true=>rw[hb]at h;exact jb6 h rfl hd hg rfl (h1 hb)
 |false=>rw[hb]at h;exact jb6 h rfl hd hg rfl (h2 hb)
theorem qt0 {C:Ctx}(n j:Nat){cs:List V}{v:V}{x:D}(hl:look n H=some (.box cs))(hj:cs[j]? =some v)(hd:ToD H v x):Wk C ⟨env,H,gl⟩ ⟨env,(n,.box (cs.set j (.d x)))::H,gl⟩:=fun a w ⟨β,h⟩=>by
 have hH:∀ m e' sz' sh' xs' k',look m ((n,Ob.box (cs.set j (.d x)))::H)=some (.row e' sz' sh' xs' k')->∃ sh' xs',look m H=some (.row e' sz' sh' xs' k'):=fun m e' sz' sh' xs' k' hm=>by
  rw[ja1]at hm;split at hm
  ·cases hm
  ·exact⟨sh',xs',hm⟩
 refine⟨β,h.turn (S:=⟨env,H,gl⟩) hl (fun _ _=>rfl) rfl rfl rfl (As _) (fun _ _ _=>rfl) (fun b h=>.inl h) (fun _ _ _ _ _ h=>h) (fun _ _ _ _ _=>trivial)
  (fun k t x v _=>Dw.keep k (fun _=>rfl) hH x v) (fun _=>rfl) (fun k m cs vs _ _=>Dc.keep k (fun _=>rfl) hH _ vs) (fun k=>?_)⟩
 obtain⟨b,vs,t,e1,e2,hL⟩:=h.obs n _ hl;have hr:=Dc.keep k (fun _=>rfl) hH _ _ hL;obtain⟨u,hu1,hu2⟩:=hL.get hj;have hu:Gd w (Mut C.M0 β ((n,Ob.box (cs.set j (.d x)))::H)) x u:=Gd.keep k _ _ (hd.rep h hu2);have hs:=hr.set j (x:=.d x) (v:=u) hu;rw[show vs.set j u=vs from by
  obtain⟨h3,h4⟩:=Bh.1 hu1;rw[<-h4];exact List.set_getElem_self h3]at hs
 exact⟨b,vs,t,e1,e2,hs⟩
theorem mi2 {C:Ctx}(n j:Nat){sz:Nat}{cs:List V}(hl:look n H=some (.box cs))(hj:cs[j]? =some (.nils sz)):Wk C ⟨env,H,gl⟩ ⟨env,(n,.box (cs.set j (.d (.list sz []))))::H,gl⟩:=qt0 n j hl hj (.nils sz)
theorem qi4 {P:Program}{f:FuncId}{a b:V}{sz sz':Nat}{H0:List (Nat × Ob)}{R:V->List (Nat × Ob)->Prop}(h:FnE P gl f [a,b,.d (.list sz [])] H0 R):FnE P gl f [a,b,.d (.list sz' [])] H0 R:=fun w M β us h1 h2 h3 h4=>h w M β us h1 (by
 obtain⟨v1,r1,e1,h1,v2,r2,e2,h2,v3,r3,e3,h3,h4⟩:=h2;exact⟨v1,r1,e1,h1,v2,r2,e2,h2,v3,r3,e3,(by obtain⟨a,c,ys,q1,q2,q3,q4,q5,q6⟩:=h3;exact⟨a,c,ys,q1,q2,q3,q4,q5,q6⟩),h4⟩) h3 h4
end
theorem rf0 {l:List ByteArray}{s:ByteArray}{i:Nat}(hi:i<l.length)(h:Sc.Lu l s=l.take i++Sc.Lu (l.drop i) s)(hb:Sc.bL l[i] s=true):Sc.Lu l s=l.take (i+1)++Sc.Lu (l.drop (i+1)) s:=by
 rw[h,Ba hi,Bd hi,Sc.Lu,Ae hb,Bb];rfl
attribute [local irreducible] TR TC
theorem rf1 (gl:List (Nat × List D))(l:List ByteArray)(s:ByteArray)(hl:l.length<=1000000000):FnD prog gl 37 [.d (.list 1 (l.map .str)),.d (.str s)] (fun v=>v=.d (.list 1 ((Sc.Lu l s).map .str))):=by
 (refine j3 func37 ntmps37 results37 fun w M=>?_)
 (repeat' first|refine yyp ?_;try refine Cc ?_ ?_<;>intro hb|refine yy ?_|refine at_nil ?_;refine Ce Rf ?_|refine Cb fun K hK=>?_|apply_assumption -exfalso -symm)
 refine j8 [5,7,8,9,10,11,12,13,14,15,16,17,18,19,20] [] (fun i:Nat=>[(5,.d (.int .i64 i))]) (fun _=>[]) (fun i=>i<=l.length/\Sc.Lu l s=l.take i++Sc.Lu (l.drop i) s) (fun i=>l.length - i) 0 ⟨Ak _,rfl⟩ fun i ⟨hi,hp⟩=>?_;dsimp only[Ac,Ad];rcases Ah i l.length with hi2|hi2
 ·(repeat' first|refine Ca 11 ?_;(first|refine yyp ?_;try refine Cc ?_ ?_<;>intro hb|refine yy2 ?_ ?_<;>intro hcmp);all_goals try refine Db false 11 18 Rf ?_|refine Ca 17 ?_;(refine Xc ?_ ?_<;>intro hlt)|refine Ca 25 ?_;(first|refine yyp ?_;try refine Cc ?_ ?_<;>intro hb|refine yy2 ?_ ?_<;>intro hcmp);all_goals try refine Db false 25 32 Rf ?_|refine Ca 38 ?_;refine Nq 38 ?_|refine Ca 41 ?_;(refine Dh 41 ?_)|refine yyp ?_;try refine Cc ?_ ?_<;>intro hb|refine yy ?_|refine yy2 ?_ ?_<;>intro hcmp|(refine Cq ?_;first|(refine Cs (fun kv=>?_))|(refine z_append_suf (fun sx sp kv hsx hsp hsl=>?_)))|refine at_nil ?_;refine Ce Rf ?_|refine Cb fun K hK=>?_|apply_assumption -exfalso -symm)
  ·exact⟨i+1,⟨by omega,rf0 hi2 hp hlt⟩,by omega,v6⟩
  ·(refine j0 (j5 ?_))
   rw[hp,Bd hi2,Sc.Lu,hlt,Af Ef,Ae hcmp,<-Bd hi2,Ev];rfl
  ·(refine j0 (j5 ?_))
   rw[hp,Bd hi2,Sc.Lu,hlt,Af Ef,Af hcmp,<-Bd hi2];simp[oneOf,Ep,List.map_drop];exact Ao (by simp)
 ·obtain rfl:i=l.length:=by omega
  rw[Au,Eu]at hp
  (repeat' first|refine Ca 11 ?_;(first|refine yyp ?_;try refine Cc ?_ ?_<;>intro hb|refine yy2 ?_ ?_<;>intro hcmp);all_goals try refine Db false 11 18 Rf ?_|refine Ca 25 ?_;(first|refine yyp ?_;try refine Cc ?_ ?_<;>intro hb|refine yy2 ?_ ?_<;>intro hcmp);all_goals try refine Db false 25 32 Rf ?_|refine Ca 38 ?_;refine Nq 38 ?_|refine Ca 41 ?_;(refine Dh 41 ?_)|refine yyp ?_;try refine Cc ?_ ?_<;>intro hb|refine yy ?_|(refine Cq ?_;first|(refine Cs (fun kv=>?_))|(refine z_append_suf (fun sx sp kv hsx hsp hsl=>?_)))|refine at_nil ?_;refine Ce Rf ?_|refine Cb fun K hK=>?_|apply_assumption -exfalso -symm)
  (refine j0 (j5 ?_))
  rw[hp];simp[oneOf,Sc.Lu];exact Ao (by simp)
theorem kp3 (gl:List (Nat × List D))(p:Pr)(hok:Sc.Ry p)(hcap:kc2 p)(hall:Sc.Ms p)(hfit:(Sc.start []).fit (Sc.prN p+1)):FnD prog gl 36 [.d (dPr p)] (fun v=>v=.d (.list 2 (evD (Sc.Fv (Sc.start []) p).2.ev))):=by
 have hroom:=hfit.room;unfold Sc.W.room Sc.start at hroom;have c3:=qi4 (sz':=0) (mb0 gl [] _ p (As _) hok hcap hall [] (Sc.start []) rfl rfl (by simp only[Aq]at hroom ⊢;omega) hfit);obtain⟨r,hr⟩:∃ r,r=Sc.Fv (Sc.start []) p:=⟨_,rfl⟩;rw[<-hr]at c3 ⊢;dsimp only[RW,Sc.start,evD,Aw]at c3;rw[v8]at c3 ⊢;clear hr hroom hfit hok hcap hall
 (refine j3 func36 ntmps36 results36 fun w M=>?_)
 ((repeat' first|refine Ca 1 ?_;(refine j6 1 ?_)|refine Ca 3 ?_;(refine Cj 900 ?_)|refine Ck 2 ?_;refine halt ?_|refine yyp ?_;try refine Cc ?_ ?_<;>intro hb|refine yy ?_|refine at_nil ?_;refine Ce [0,1,2,3,4,5,6] ?_|refine Cb fun K hK=>?_|apply_assumption -exfalso -symm);all_goals try refine unhalt ?_)
 refine ji5 900 950 0 (e:=81) (sz:=2) rfl rfl rfl ?_;refine jd9 (jq1 950 rfl) ?_;refine jd9 (mi2 900 1 rfl rfl) ?_;refine jd9 (jf3 (n:=900) (q:=950) (i:=0) rfl rfl rfl rfl (by(repeat (first|exact Drop.nil|apply Drop.drop rfl|apply Drop.take rfl));fail_if_success intros) rfl) ?_
 ((repeat' first|refine Ca 5 ?_;refine Ch (hc:=c3) ?_|refine Ck 3 ?_;refine halt ?_|refine yyp ?_;try refine Cc ?_ ?_<;>intro hb|refine yy ?_|refine at_nil ?_;refine Ce [0,1,2,3,4,5,6] ?_|refine Cb fun K hK=>?_|apply_assumption -exfalso -symm);all_goals try refine unhalt ?_)
 refine jd9 (jf2 (n:=900) (q:=950) rfl rfl) ?_;refine jk2 950 rfl ?_
 (repeat' first|refine yyp ?_;try refine Cc ?_ ?_<;>intro hb|refine yy ?_|refine at_nil ?_;refine Ce [0,1,2,3,4,5,6] ?_|refine Cb fun K hK=>?_|apply_assumption -exfalso -symm)
 (refine j0 (j5 ?_))
 rfl
end
end Go.Proofs.YtdopmfifmgkmoaaGreatDoor
