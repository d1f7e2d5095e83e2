/- Parts. -/
import Derived.Test.YtklklgfpkpglgaaGreatDoorQ44
import Derived.Lib.SliceRun
import Derived.Lib.AppendZerosOnto
import Derived.Lib.Walk
set_option linter.all false
set_option maxRecDepth 100000
set_option maxHeartbeats 0
namespace Go.Proofs.YtklklgfpkpglgaaGreatDoor
open Go.RowKit Go.Proofs.Tryz
variable (gl:List (Nat × List D))
section
theorem jf1 (n:Nat)(ob:Ob):look n [(n,ob)]=some ob:=by rw[j6,Ad rfl]
theorem qs6 (M:Nat->Nat->Prop)(β:Nat->Hd)(n m:Nat)(ob:Ob):Mut M (λ_=>β m) [(n,ob)]=Mut M β [(m,ob)]:=by
 funext b o;refine propext ⟨?_,?_⟩
 ·rintro(h|⟨k,ob',h1,h2⟩)
  ·exact .inl h
  ·obtain⟨rfl,rfl⟩:=n5 h1;exact .inr ⟨m,_,jf1 _ _,h2⟩
 ·rintro(h|⟨k,ob',h1,h2⟩)
  ·exact .inl h
  ·obtain⟨rfl,rfl⟩:=n5 h1;exact .inr ⟨n,_,jf1 _ _,h2⟩
theorem mi8 {w:World}{M:Nat->Nat->Prop}{β γ:Nat->Hd}{H H':List (Nat × Ob)}:∀ {xs:List D} {vs:List Value},Cs w M β H (xs.map V.d) vs->Cs w M γ H' (xs.map V.d) vs
 |[],_,h=>by simpa [Cs]using h
 |x::xs,_,h=>by
  simp only[List.map_cons,Cs,Dc]at h ⊢;obtain⟨v,r,h1,h2,h3⟩:=h;exact⟨v,r,h1,h2,mi8 h3⟩
theorem mw6 (β:Nat->Hd)(n:Nat)(ob:Ob):kp2 β [(n,ob)]=blk (β n) ob:=by
 unfold kp2;simp only[El,List.flatMap_nil,Ey,jf1]
theorem FnE.moveE {P:Program}{gl:List (Nat × List D)}{f:FuncId}{n m:Nat}{xs ks us:List D}{ι:Type}{K U:ι->List D}{R:ι->Prop}(h:FnE P gl f (.map n::xs.map V.d) [(n,.map ks us)] (λv H1=>∃ i,R i/\v=.tup []/\H1=[(n,.map (K i) (U i))])):
 FnE P gl f (.map m::xs.map V.d) [(m,.map ks us)] (λv H1=>∃ i,R i/\v=.tup []/\H1=[(m,.map (K i) (U i))]):=λw M β vs h1 h2 h3 h4=>by
 have hM:=qs6 M β n m (.map ks us);refine(h w M (λ_=>β m) vs h1 ?_ ?_ (by rw[hM];exact h4)).mono ?_
 ·rw[hM];simp only[Cs,Dc]at h2 ⊢;obtain⟨v,r,e,h5,h6⟩:=h2;exact⟨v,r,e,h5,mi8 h6⟩
 ·refine⟨λk ob hk=>?_,λk k' b ob ob' hne h5 h6 _=>?_,λk ob b o hk hb=>?_⟩
  ·obtain⟨rfl,rfl⟩:=n5 hk;rw[hM];obtain⟨ys,h5⟩:=h3.obs m _ (jf1 _ _);exact⟨ys,h5⟩
  ·obtain⟨rfl,_⟩:=n5 h5;obtain⟨rfl,_⟩:=n5 h6;exact absurd rfl hne
  ·obtain⟨rfl,rfl⟩:=n5 hk;exact h3.out m _ b o (jf1 _ _) hb
 ·rintro en w' ⟨v,x,H1,β1,⟨i,hi,rfl,rfl⟩,hok,rfl,hfr,hfix,hnew,hobs,hv⟩;have hM1:=qs6 M β1 m n (.map (K i) (U i));have hb:kp2 (λ_=>β m) [(n,Ob.map ks us)]=kp2 β [(m,.map ks us)]:=by rw[mw6,mw6]
  rw[hb]at hfr hnew;refine⟨_,x,[(m,.map (K i) (U i))],λ_=>β1 n,⟨i,hi,rfl,rfl⟩,?_,rfl,hfr,λk hk=>?_,λk ob b hk ho=>?_,⟨λk ob hk=>?_,λk k' b ob ob' hne h5 h6 _=>?_,λk ob b o hk hb=>?_⟩,?_⟩
  ·simp[Na,kv2,kv1,kc7,V.within,kc6,Ob.cells,jd8,look]
  ·obtain⟨ob,hk⟩:=Option.isSome_iff_exists.1 hk;obtain⟨rfl,rfl⟩:=n5 hk;exact hfix n (by rw[jf1];rfl)
  ·obtain⟨rfl,rfl⟩:=n5 hk;exact hnew n _ b (jf1 _ _) ho
  ·obtain⟨rfl,rfl⟩:=n5 hk;rw[hM1];obtain⟨ys,h5⟩:=hobs.obs n _ (jf1 _ _);exact⟨ys,h5⟩
  ·obtain⟨rfl,_⟩:=n5 h5;obtain⟨rfl,_⟩:=n5 h6;exact absurd rfl hne
  ·obtain⟨rfl,rfl⟩:=n5 hk;exact hobs.out n _ b o (jf1 _ _) hb
  ·simp only[Dc,Cs]at hv ⊢;exact hv
theorem FnE.Vr {P:Program}{gl:List (Nat × List D)}{f:FuncId}{n m:Nat}{xs ks us ks' us':List D}(h:FnE P gl f (.map n::xs.map V.d) [(n,.map ks us)] (λv H1=>v=.tup []/\H1=[(n,.map ks' us')])):
 FnE P gl f (.map m::xs.map V.d) [(m,.map ks us)] (λv H1=>v=.tup []/\H1=[(m,.map ks' us')]):=
 (FnE.moveE (ι:=Unit) (K:=λ_=>ks') (U:=λ_=>us') (R:=λ_=>True) (h.mono λ_ _ ⟨a,b⟩=>⟨(),trivial,a,b⟩)).mono λ_ _ ⟨_,_,a,b⟩=>⟨a,b⟩
end
section
def Xi:List Nat:=[0,1,4,5,6,7,9]
namespace Al
def dPc (q:Pc):D:=.agg [.list 6 (q.ax.map dFo),.map (Dl q.occ) (Dn q.occ),.map (Dl q.wr) (Dn q.wr)]
def HA (w:Wd):List (Nat × Ob):=[(900,.box [.map 901,.map 902,.map 903]),(901,.map (Dl w.known) (Dn w.known)),(902,.map (Me w.is) (Mt .str w.is)),(903,.map (Me w.ay) (Mt dPc w.ay))]
theorem mi9 {is:List (ByteArray × ByteArray)}(hr:Rank is){s:ByteArray}(h:at1 s is=none):Db is s=s:=(hr.base s).det (.done h)
theorem qs7 {is:List (ByteArray × ByteArray)}(hr:Rank is){s v:ByteArray}(h:at1 s is=some v):Db is s=Db is v:=(hr.base s).det (.step h (hr.base v))
attribute [local irreducible] TR TC
theorem kz5 (ω:Wd)(s:ByteArray)(hr:Rank ω.is):FnE prog gl 76 [.ptr 900 0,.d (.str s)] (HA ω) (λv H1=>v=.d (.str (Db ω.is s))/\H1=HA ω):=by
 obtain⟨r,hr1⟩:=id hr;dsimp only[HA]
 (refine j3 func76 ntmps76 results76 λw M E b0=>?_)
 (repeat' first|refine yyp ?_;try refine Ce ?_ ?_<;>intro hb|refine yy ?_|apply ah;refine Cc [0,1,4,5,6,7,17] ?_|refine Cb λK hK=>?_|apply_assumption -exfalso -symm)
 refine k9 [1,4,5,6,7,8,9,10,11,12,13,14,15,16,17,18,19] [] (λx:ByteArray=>[(1,.d (.str x))]) (λ_=>[]) (λx=>Db ω.is s=Db ω.is x) r s rfl λx hx=>?_;dsimp only[Ac,Ae]
 (repeat' first|apply Ca 13;(refine Sv (f:=.str) (λu hu=>?_) (λhu=>?_))|refine yyp ?_;try refine Ce ?_ ?_<;>intro hb|refine yy ?_|apply ah;refine Cc [0,1,4,5,6,7,17] ?_|refine Cb λK hK=>?_|apply_assumption -exfalso -symm)
 ·refine⟨u,hx.trans (qs7 hr hu),hr1 _ (qr8 hu),?_⟩;exact v6
 ·rw[hx,mi9 hr hu]
  (refine j1 (j8 ⟨?_,rfl⟩))
  rfl
theorem Ka (e:Ex):FnD prog gl 74 [.d (dEx e)] (λv=>v=.d (.bool (ja2 e))):=by
 rw[r8]
 (refine j4 func74 ntmps74 results74 λw M=>?_)
 (repeat' first|apply Ca 1;(refine Ck 1 ?_)|refine yyp ?_;try refine Ce ?_ ?_<;>intro hb|refine yy ?_|refine yy2 ?_ ?_<;>intro hcmp|apply ah;refine Cc [0,1,2,3,4,5,6] ?_|refine Cb λK hK=>?_|apply_assumption -exfalso -symm)
 all_goals
  (refine j1 (j7 ?_))
  simp only[aF,At,Am,ja2]
  grind
theorem vj1 (f:Fo):FnD prog gl 75 [.d (dFo f)] (λv=>v=.d (.bool (vo9 f))):=by
 unfold dFo
 (refine j4 func75 ntmps75 results75 λw M=>?_)
 (repeat' first|apply Ca 1;(refine Ck 1 ?_)|refine yyp ?_;try refine Ce ?_ ?_<;>intro hb|refine yy ?_|refine yy2 ?_ ?_<;>intro hcmp|apply ah;refine Cc [0,1,2,3,4,5,6] ?_|refine Cb λK hK=>?_|apply_assumption -exfalso -symm)
 all_goals
  (refine j1 (j7 ?_))
  simp only[aF,At,Am,vo9]
  grind
theorem jj2 (Ks ns:List ByteArray):FnE prog gl 40 [.map 901,.d (.list 1 (ns.map .str))] [(901,.map (Dl Ks) (Dn Ks))] (λv H1=>v=.tup []/\H1=[(901,.map (Dl (Ic Ks ns)) (Dn (Ic Ks ns)))]):=by
 (refine j3 func40 ntmps40 results40 λw M E b0=>?_)
 refine k7 1 rfl λhsm=>?_;rw[Ab]at hsm
 (repeat' first|refine yyp ?_;try refine Ce ?_ ?_<;>intro hb|refine yy ?_|apply ah;refine Cc [0,1,5,6,7,8,9] ?_|refine Cb λK hK=>?_|apply_assumption -exfalso -symm)
 refine k9 [5,8,9,10,11,12,13,14] [901] (λj:Nat=>[(8,.d (.int .i64 j))]) (λj=>[(901,.map (Dl (Ic Ks (ns.take j))) (Dn (Ic Ks (ns.take j))))]) (λj=>j<=ns.length) (λj=>ns.length - j) 0 (Ak _) λj hj=>?_;dsimp only[Ac,Ae];rcases Ai j ns.length with hj2|hj2
 ·(repeat' first|refine ke4 2 ?_;(refine kz3 ?_)|refine yyp ?_;try refine Ce ?_ ?_<;>intro hb|refine yy ?_|apply ah;refine Cc [0,1,5,6,7,8,9] ?_|refine Cb λK hK=>?_|apply_assumption -exfalso -symm)
  refine⟨j+1,by omega,by omega,?_⟩;rw[mi2 hj2];exact v6
 ·(repeat' first|refine yyp ?_;try refine Ce ?_ ?_<;>intro hb|refine yy ?_|apply ah;refine Cc [0,1,5,6,7,8,9] ?_|refine Cb λK hK=>?_|apply_assumption -exfalso -symm)
  rw[Ba hj2];exact ji3 ⟨rfl,rfl⟩
theorem qs8 (Ks ns:List ByteArray):FnE prog gl 40 [.map 904,.d (.list 1 (ns.map .str))] [(904,.map (Dl Ks) (Dn Ks))] (λv H1=>v=.tup []/\H1=[(904,.map (Dl (Ic Ks ns)) (Dn (Ic Ks ns)))]):=FnE.Vr (xs:=[.list 1 (ns.map .str)]) (jj2 gl Ks ns)
theorem qs9 (Ks ns:List ByteArray):FnE prog gl 40 [.map 905,.d (.list 1 (ns.map .str))] [(905,.map (Dl Ks) (Dn Ks))] (λv H1=>v=.tup []/\H1=[(905,.map (Dl (Ic Ks ns)) (Dn (Ic Ks ns)))]):=FnE.Vr (xs:=[.list 1 (ns.map .str)]) (jj2 gl Ks ns)
theorem qt0 (Ks ns:List ByteArray):FnE prog gl 40 [.map 906,.d (.list 1 (ns.map .str))] [(906,.map (Dl Ks) (Dn Ks))] (λv H1=>v=.tup []/\H1=[(906,.map (Dl (Ic Ks ns)) (Dn (Ic Ks ns)))]):=FnE.Vr (xs:=[.list 1 (ns.map .str)]) (jj2 gl Ks ns)
theorem qt1 (Ks ns:List ByteArray):FnE prog gl 40 [.map 907,.d (.list 1 (ns.map .str))] [(907,.map (Dl Ks) (Dn Ks))] (λv H1=>v=.tup []/\H1=[(907,.map (Dl (Ic Ks ns)) (Dn (Ic Ks ns)))]):=FnE.Vr (xs:=[.list 1 (ns.map .str)]) (jj2 gl Ks ns)
theorem kt5 (Ks ns:List ByteArray):FnE prog gl 71 [.map 904,.d (.map (Dl ns) (Dn ns))] [(904,.map (Dl Ks) (Dn Ks))] (λv H1=>∃ L:List ByteArray,(∀ s,s∈L↔s∈Ks\/s∈ns)/\v=.tup []/\H1=[(904,.map (Dl L) (Dn L))]):=by
 (refine j3 func71 ntmps71 results71 λw M E b0=>?_)
 (repeat' first|apply Ca 7;(refine mw1 1007 ?_)|refine yyp ?_;try refine Ce ?_ ?_<;>intro hb|refine yy ?_|apply ah;refine Cc Xi ?_|refine Cb λK hK=>?_|apply_assumption -exfalso -symm)
 rw[show(Dl ns).length=ns.length from Ab ..];refine k9 [4,5,8,9,10,11,12,13,14,15] [904,1007] (λ_:List ByteArray × List Nat × Option Nat=>[]) (λx=>[(904,.map (Dl x.1) (Dn x.1)),(1007,.miter (Dl ns) (Dn ns) x.2.1 x.2.2)]) (λx=>(∀ i∈x.2.1,i<ns.length)/\(∀ s,s∈x.1->s∈Ks\/s∈ns)/\(∀ s,s∈Ks->s∈x.1)/\∀ i s,ns[i]? =some s->i∈x.2.1\/s∈x.1) (λx=>x.2.1.length) (Ks,List.range ns.length,none)
  ⟨λi hi=>Fh.1 hi,λs hs=>.inl hs,λs hs=>hs,λi s hi=>.inl (Fh.2 (Ay.1 hi).1)⟩ λ⟨L,left,cur⟩ ⟨h1,h2,h3,h4⟩=>?_
 dsimp only[Ac,Ae]at h1 h2 h3 h4 ⊢
 (repeat' first|apply Ca 8;(refine qs1 h1 (λi s hi hs=>?_) (λhl0=>?_))|apply Ca 10;(refine mw2 hs ?_)|refine ke4 3 ?_;(refine kz3 ?_)|refine yyp ?_;try refine Ce ?_ ?_<;>intro hb|refine yy ?_|apply ah;refine Cc Xi ?_|refine Cb λK hK=>?_|apply_assumption -exfalso -symm)
 ·refine⟨(addN L s,left.erase i,some i),⟨λj hj=>h1 j (List.mem_of_mem_erase hj),λt ht=>?_,λt ht=>ji1.2 (.inl (h3 t ht)),λj t hj=>?_⟩,?_,v6⟩
  ·rcases ji1.1 ht with ht|rfl
   ·exact h2 t ht
   ·exact .inr (Ea hs)
  ·rcases h4 j t hj with hm|hm
   ·by_cases hji:j=i
    ·subst hji;rw[hs]at hj;cases hj;exact .inr (ji1.2 (.inr rfl))
    ·exact .inl ((List.mem_erase_of_ne hji).2 hm)
   ·exact .inr (ji1.2 (.inl hm))
  ·have:=List.length_erase_of_mem hi;have:=List.length_pos_of_mem hi;dsimp only;omega
 ·subst hl0;exact ji3 ⟨L,λs=>⟨h2 s,λhs=>hs.elim (h3 s) λhs=>by
   obtain⟨i,hi⟩:=List.getElem?_of_mem hs;rcases h4 i s hi with h|h
   ·cases h
   ·exact h⟩,rfl,rfl⟩
theorem km8 (Ks:List ByteArray):FnE prog gl 71 [.map 904,.d (.raw (.map none))] [(904,.map (Dl Ks) (Dn Ks))] (λv H1=>v=.tup []/\H1=[(904,.map (Dl Ks) (Dn Ks))]):=by
 (refine j3 func71 ntmps71 results71 λw M E b0=>?_)
 (repeat' first|apply Ca 7;(refine ri6 1007 ?_)|refine yyp ?_;try refine Ce ?_ ?_<;>intro hb|refine yy ?_|apply ah;refine Cc Xi ?_|refine Cb λK hK=>?_|apply_assumption -exfalso -symm)
 refine k9 [4,5,8,9,10,11,12,13,14,15] [] (λ_:Unit=>[]) (λ_=>[]) (λ_=>True) (λ_=>0) () trivial λ_ _=>?_;dsimp only[Ac,Ae]
 (repeat' first|apply Ca 8;(refine ry5 ?_)|refine yyp ?_;try refine Ce ?_ ?_<;>intro hb|refine yy ?_|apply ah;refine Cc Xi ?_|refine Cb λK hK=>?_|apply_assumption -exfalso -symm)
 exact ji3 ⟨rfl,rfl⟩
theorem qd2 (Ks ns:List ByteArray):FnE prog gl 71 [.map 905,.d (.map (Dl ns) (Dn ns))] [(905,.map (Dl Ks) (Dn Ks))] (λv H1=>∃ L:List ByteArray,(∀ s,s∈L↔s∈Ks\/s∈ns)/\v=.tup []/\H1=[(905,.map (Dl L) (Dn L))]):=FnE.moveE (xs:=[.map (Dl ns) (Dn ns)]) (K:=Dl) (U:=Dn) (kt5 gl Ks ns)
theorem mp6 (Ks:List ByteArray):FnE prog gl 71 [.map 905,.d (.raw (.map none))] [(905,.map (Dl Ks) (Dn Ks))] (λv H1=>v=.tup []/\H1=[(905,.map (Dl Ks) (Dn Ks))]):=FnE.Vr (xs:=[.raw (.map none)]) (km8 gl Ks)
end Al
end
section
def Uf:List Nat:=[0,1,2,3,5,6,7,8,18,19,20,21]
def vj2:List Nat:=[3,5,20,21,22,23,24,25,26,27,28]
section
variable {E:Set}{Q:Exit->Sd->Prop}{ops:Array Oper}{draw:Bool}{rest:Todo}{way:Ji}{ty:TypeId}{pos:String}{af:Array Edge}{gd:Option (Nat × Bool)}{d:Nat}
theorem qt2 {S:Sd}{o:Oper}{p:Bool->Prop}{v:Bool->V}(hb:∀ β a w,StB E.C β S a w->∃ b x,p b/\(∀ w',(execOp a.eval o).run E.P w'=.ok (.value x) w')/\Dc w (Mut E.C.M0 β S.H) β S.H (v b) x)(hdst:o.dst=some d)(hd:d<E.C.nt)(hg:S.gd ops o=some true)(hdf:p9 o=false)(h:∀ b,p b->TR E draw ops Q rest (S.put d (v b))):TR E draw ops Q (.step o way rest) S:=λa w hS=>by
 have hS0:=hS;obtain⟨β,hB⟩:=hS;obtain⟨b,x,hp,h1,h2⟩:=hb β a w hB;have hput:∀ w',aG w w'->St E.C (S.put d (v b)) (a.put o.dst x) w':=λw' g=>by
  rw[hdst];exact St.later ⟨β,hB.put hd h2⟩ g
 cases draw with
 |true=>
  dsimp only;cases way with
  |pure=>
   simp only[x5];rw[Sd.Dv hS0 hg,Ad rfl];exact⟨x,λw'=>h1 w',h b hp _ _ (hput w (aG.refl w))⟩
  |quiet=>
   simp only[x5];rw[Sd.Dv hS0 hg,Ad rfl];refine⟨x,λn=>?_,h b hp _ _ (hput w (aG.refl w))⟩;rw[h1 n.w];exact⟨rfl,rfl⟩
  |grow=>
   simp only[x5];intro n;rw[Sd.Dv hS0 hg,Ad rfl];exact p8 (h1 n.w) ⟨aG.refl _,h b hp _ _ (hput n.w n.grows)⟩
  |bar=>
   simp only[x5];intro n;rw[Sd.Dv hS0 hg,Ad rfl];exact p8 (h1 n.w) (h b hp _ _ (hput n.w n.grows))
 |false=>exact l5 hS0 hg hdf λK hK=>p8 (h1 w) (hK _ _ (h b hp _ _ (hput w (aG.refl w))))
variable {env:List (Nat × V)}{H:List (Nat × Ob)}{gl:List (Nat × List D)}
theorem kz6 {t e sz:Nat}{x:Operand}{xs:List D}[ht:aK E.P t e sz](h1:xs=[]->TR E draw ops Q rest ⟨(d,.d (.bool true))::env,H,gl⟩)(h2:TR E draw ops Q rest ⟨(d,.d (.bool false))::env,H,gl⟩)(hx:Sd.ev ⟨env,H,gl⟩ x=some (.d (.list sz xs)):=by exact rfl)(hox:Cm x=true:=by exact rfl)
 (hd:d<E.C.nt:=by exact ltd rfl) (hg:Sd.gd ⟨env,H,gl⟩ ops ⟨some d,.binOp .eql t x (.const (.slice none 0 0)) t,ty,pos,af,gd⟩=some true:=by exact rfl):TR E draw ops Q (.step ⟨some d,.binOp .eql t x (.const (.slice none 0 0)) t,ty,pos,af,gd⟩ way rest) ⟨env,H,gl⟩:=
 qt2 (p:=λb=>b=true->xs=[]) (v:=λb=>.d (.bool b)) (λβ a w h=>by
  obtain⟨ad,c,ys,h3,h4,_,h5,_⟩:=h.ev hx hox;obtain⟨i,hu,_⟩:=g8 ht;refine⟨ad.isNone,.bool ad.isNone,λhb=>?_,λw'=>?_,rfl⟩
  ·have:ad=none:=by simpa using hb
   have:=h5 this;exact Bg (by omega)
  ·have hb:=Lib.run_eql_slice_nil w' t e ad xs.length c 0 0 hu;have he:a.eval (.const (.slice none 0 0))=.slice none 0 0:=rfl;simp[execOp,h3,he,eqGuard,hb]) rfl hd hg rfl λb hb=>by
  cases b with
  |true=>exact h1 (hb rfl)
  |false=>exact h2
end
namespace Al
attribute [local irreducible] TR TC
theorem qt3:∀ (m:Nat) (e:Ex),exN e<=m->m<=1000000000->FnD prog gl 70 [.d (dEx e)] (λv=>v=.d (.list 1 ((Kg e).map .str))):=by
 intro m
 induction m with
 |zero=>intro e h;have:=jo4 e;omega
 |succ m ih=>
  intro e hm hb;rw[my7]at hm;have hlen:=jd0 e.l;have hsub:∀ j (hj:j<e.l.length),((e.l.take j).flatMap Kg).length+(Kg e.l[j]).length<=1000000000:=λj hj=>by
   have h1:=jx8 (e.l.take j);have h2:=kz2 e.l[j];have h3:=jb6 e.l j hj;rw[je4]at h1;omega
  have h1:∀ (j:Nat) (hj:j<e.l.length),FnD prog gl 70 [.d (dEx e.l[j])] (λv=>v=.d (.list 1 ((Kg e.l[j]).map .str))):=λj hj=>ih e.l[j] (by have:=jb6 e.l j hj;omega) (by omega);clear ih;rw[ry3];simp only[r8]at h1 ⊢;refine FnD.Ya (n:=930) (e:=9) ?_;by_cases hk:Cz e.kind=true
  ·rw[Ad hk]
   (refine j3 func70 ntmps70 results70 λw M E b0=>?_)
   (repeat' first|apply Ca 1;(refine Ck 1 ?_)|apply Ca 15;(refine Fu 15 ?_)|apply Ca 16;refine md3 930 ?_|refine yyp ?_;try refine Ce ?_ ?_<;>intro hb|refine yy ?_|refine yy2 ?_ ?_<;>intro hcmp|apply ah;refine Cc Uf ?_|refine Cb λK hK=>?_|apply_assumption -exfalso -symm)
   all_goals first
    |(exfalso;unfold Cz at hk;grind)
    |(
     rw[r8];refine k9 vj2 [930] (λx:Nat × Nat=>[(20,.d (.int .i64 x.1)),(3,.own 930 x.2)]) (λx=>[(930,.row 9 1 true (([e.s]++(e.l.take x.1).flatMap Kg).map .str) x.2)]) (λx=>x.1<=e.l.length) (λx=>e.l.length - x.1) (0,0) (Ak _) λ⟨j,kv⟩ hj=>?_;dsimp only[Ac,Ae]at hj ⊢;rcases Ai j e.l.length with hj2|hj2
     ·have hone:=h1 j hj2;have hsz:=hsub j hj2
      (repeat' first|apply Ca 5;(refine j2 5 ?_)|refine yyp ?_;try refine Ce ?_ ?_<;>intro hb|refine yy ?_|(apply Dw;first|(refine Gj (λkv=>?_))|(refine ai (λsx sp kv hsx hsp hsl=>?_)))|apply Cf 70;refine Ci (hc:=hone) ?_|apply ah;refine Cc Uf ?_|refine Cb λK hK=>?_|apply_assumption -exfalso -symm)
      refine⟨(j+1,kv),by dsimp only;omega,by dsimp only;omega,?_⟩;dsimp only;rw[An hj2,List.flatMap_append];simp only[El,List.flatMap_nil,Ey,Av,List.map_cons,Bj,Ac,Ae];exact v6
     ·(repeat' first|refine yyp ?_;try refine Ce ?_ ?_<;>intro hb|refine yy ?_|apply ah;refine Cc Uf ?_|refine Cb λK hK=>?_|apply_assumption -exfalso -symm)
      rw[Ba hj2];refine j1 (ja3 ⟨_,?_,rfl⟩);rfl
     )
  ·rw[Af hk,Ae]
   (refine j3 func70 ntmps70 results70 λw M E b0=>?_)
   (repeat' first|apply Ca 1;(refine Ck 1 ?_)|apply Ca 15;(refine Fu 15 ?_)|apply Ca 16;refine md3 930 ?_|refine yyp ?_;try refine Ce ?_ ?_<;>intro hb|refine yy ?_|refine yy2 ?_ ?_<;>intro hcmp|apply ah;refine Cc Uf ?_|refine Cb λK hK=>?_|apply_assumption -exfalso -symm)
   all_goals first
    |(exfalso;unfold Cz at hk;grind)
    |(
     refine ju6 (t:=3) (e:=9) (sz:=1) 930 rfl rfl ?_;rw[r8];refine k9 vj2 [930] (λx:Nat × Nat=>[(20,.d (.int .i64 x.1)),(3,.own 930 x.2)]) (λx=>[(930,.row 9 1 true (((e.l.take x.1).flatMap Kg).map .str) x.2)]) (λx=>x.1<=e.l.length) (λx=>e.l.length - x.1) (0,0) (Ak _) λ⟨j,kv⟩ hj=>?_;dsimp only[Ac,Ae]at hj ⊢;rcases Ai j e.l.length with hj2|hj2
     ·have hone:=h1 j hj2;have hsz:=hsub j hj2
      (repeat' first|apply Ca 5;(refine j2 5 ?_)|refine yyp ?_;try refine Ce ?_ ?_<;>intro hb|refine yy ?_|(apply Dw;first|(refine Gj (λkv=>?_))|(refine ai (λsx sp kv hsx hsp hsl=>?_)))|apply Cf 70;refine Ci (hc:=hone) ?_|apply ah;refine Cc Uf ?_|refine Cb λK hK=>?_|apply_assumption -exfalso -symm)
      refine⟨(j+1,kv),by dsimp only;omega,by dsimp only;omega,?_⟩;dsimp only;rw[An hj2,List.flatMap_append];simp only[El,List.flatMap_nil,Ey,Av,List.map_cons,Bj,Ac,Ae];exact v6
     ·(repeat' first|refine yyp ?_;try refine Ce ?_ ?_<;>intro hb|refine yy ?_|apply ah;refine Cc Uf ?_|refine Cb λK hK=>?_|apply_assumption -exfalso -symm)
      rw[Ba hj2];refine j1 (ja3 ⟨_,?_,rfl⟩);rfl
     )
theorem mw7 (e:Ex)(h:exN e<=1000000000):FnD prog gl 70 [.d (dEx e)] (λv=>v=.d (.list 1 ((Kg e).map .str))):=qt3 gl _ e (Ap _) h
theorem kz7 (xs:List D)(hl:xs.length<=1000000000):FnE prog gl 73 [.d (.list 6 xs)] [] (λv H1=>v=.own 931 0/\H1=[(931,.row 28 6 true xs 0)]):=by
 refine FnE.fix ?_
 (refine j3 func73 ntmps73 results73 λw M E b0=>?_)
 (repeat' first|apply Ca 4;(refine kz6 (λhx0=>?_) ?_)|apply Ca 5;(refine Fu 931 ?_)|refine yyp ?_;try refine Ce ?_ ?_<;>intro hb|refine yy ?_|(apply Dw;first|(refine Gj (λkv=>?_))|(refine ai (λsx sp kv hsx hsp hsl=>?_)))|apply ah;refine Cc [0,2,3,4,5,6] ?_|refine Cb λK hK=>?_|apply_assumption -exfalso -symm)
 ·subst hx0;refine ju6 (t:=2) (e:=28) (sz:=6) 931 rfl rfl ?_;refine j1 (ja3 ⟨_,?_,rfl⟩);rfl
 ·refine j1 (ja3 ⟨_,?_,rfl⟩);rfl
end Al
end
section
def Vt:List Nat:=[0,2,3,5,6,8,9,10,11,12,20,25,26,27,28]
def Ye:List Nat:=[0,1,2,3,5,6,11,12,13,14]
namespace Al
attribute [local irreducible] TR TC
theorem vj3 (n:Nat)(hn:n<=1000000000)(w:World):
 Calls prog 117 #[.slice none 0 0,.int .i64 (n:Nat)] w λe w'=>∃ a c,e=.returned (.slice a 0 c)/\w'.ownsRow w.heap.size 28 6 (.slice a 0 c) 0 []/\Below w.heap.size w w':=by
 by_cases h0:n=0
 ·subst h0
  go_enter func117,ntmps117
  go_wp2
  go_ret
  exact⟨none,0,rfl,⟨rfl,.inl ⟨rfl,rfl⟩⟩,Below.refl _ _⟩
 ·obtain⟨bytes,⟨i,z,ht,hi,hz,hsize,hbytes,hzs,hpos⟩,hbb⟩:=jg0 (inferInstance:aK prog 26 28 6);have hmul:∀ k:Nat,k<=4000000000->k * i.bytes<=140737488355328:=λk hk=>by
   have:=Nat.mul_le_mul hk (by omega:i.bytes<=1024);omega
  have hfit:Builtin.nextslicecap (0+n) 0 * i.bytes<=281474976710656:=growslice_fits (by omega) (by have:=hmul (0+n) (by omega);omega);have hrz:∀ ty,(Builtin.append_ #[26,3] ty #[.slice none 0 0,.int .i64 (n:Nat)]).run prog w=
   .ok (.slice (some ⟨w.heap.size,0,none⟩) (0+n) (grownCap w (0+n) 0 28)) (w.drew.alloc (.cells ((#[]:Array Value)++Builtin.zeroCells z.cells n++Builtin.zeroCells z.cells (grownCap w (0+n) 0 28 - (0+n))) 28)):=λty=>
   Lib.run_append_grow_zeros w _ _ ty _ i z .i64 .i64 ht Tryz.underlying3 hi hz none 0 0 [] (run_firstCells_none w.drew i.size 0 0 0) n (by omega) (by omega) (by omega) (by omega) (by have:=hmul n (by omega);omega) hfit
  have hG:=grownCap_ge w (0+n) 0 28;have hM:=grownCap_le_maxLen w (0+n) 0 28 (by unfold maxLen;omega);generalize grownCap w (0+n) 0 28=G at *;have h1:decide ((0:Int)<(n:Int))=true:=by simp;omega
  have hZ:((#[]:Array Value)++Builtin.zeroCells z.cells n++Builtin.zeroCells z.cells (G - (0+n))).size=G * 6:=by
   rw[Array.size_append,Array.size_append,size_zeroCells,size_zeroCells,hzs];simp;omega
  generalize (#[]:Array Value)++Builtin.zeroCells z.cells n++Builtin.zeroCells z.cells (G - (0+n))=Z at *
  replace hZ:=Lib.hid hZ
  clear hfit hi hz hmul
  go_enter func117,ntmps117
  go_wp2_with (at_builtin;refine Lib.wpList_append_run _ rfl _ _ _ _ rfl _ _ rfl rfl _ _ (hrz _) ?_)
  all_goals
   go_ret
   refine⟨some ⟨w.heap.size,0,none⟩,G,rfl,⟨rfl,.inr ⟨w.heap.size,G,Z,rfl,Ap _,heap_alloc_new _ _,Ak _,hM,hZ.out,?_⟩⟩,?_⟩
   ·simp
   ·exact((Below.refl _ _).drew).alloc (by simp) _
theorem qt4 (n:Nat)(hn:n<=1000000000):FnE prog gl 117 [.nils 0,.d (.int .i64 n)] [] (λv H1=>v=.own 935 0/\H1=[(935,.row 28 6 true [] 0)]):=by
 intro w M β us hM hus ho hg;simp only[Cs]at hus;obtain⟨v1,r1,rfl,h1,v2,r2,rfl,h2,rfl⟩:=hus;have h1':v1=.slice none 0 0:=h1;have h2':v2=.int .i64 (n:Nat):=h2;subst h1' h2';refine(vj3 n hn w).mono ?_;rintro en w' ⟨a,c,rfl,hown,hb'⟩;have hl:∀ m ob,look m [(935,Ob.row 28 6 true [] 0)]=some ob->m=935/\ob=.row 28 6 true [] 0:=λm ob hm=>by
  rw[j6]at hm;split at hm
  ·rename_i e';cases hm;exact⟨e'.symm,rfl⟩
  ·cases hm
 have hblk:∀ b,hb (.slice a 0 c)=some b->w.heap.size<=b:=λb hb2=>by
  rcases hown.2 with ⟨h1,_⟩|⟨g,cap,cur,h1,h2,_⟩
  ·cases h1;cases hb2
  ·cases h1;simp only[hb,Bi]at hb2;omega
 refine⟨.own 935 0,_,_,upd β 935 (.slice a 0 c),⟨rfl,rfl⟩,rfl,rfl,Frm.of_below hb' _,(λm hm=>by cases hm),λm ob b hm hb2=>?_,⟨λm ob hm=>?_,λm m' b ob ob' hne h1 h2 _=>?_,λm ob b o hm hb2 hmm=>?_⟩,λe' sz sh xs hm=>by rw[jw6]⟩
 ·obtain⟨rfl,rfl⟩:=hl m ob hm;rw[z8 rfl,jw6]at hb2;exact .inr (hblk b hb2)
 ·obtain⟨rfl,rfl⟩:=hl m ob hm;exact⟨[],by rw[jw6];exact md2 hown (Ak _),rfl⟩
 ·obtain⟨rfl,_⟩:=hl m ob h1;obtain⟨rfl,_⟩:=hl m' ob' h2;exact absurd rfl hne
 ·obtain⟨rfl,rfl⟩:=hl m ob hm;rw[z8 rfl,jw6]at hb2;have:=hblk b hb2;have:=hM _ _ hmm;omega
theorem mj0 {α:Type}(ls:List (List α))(j:Nat)(h:j<ls.length):(ls.take (j+1)).flatten=(ls.take j).flatten++ls[j]:=by
 rw[An h,List.flatten_append];simp
theorem kf8 {α:Type}(ls:List (List α))(j:Nat):(ls.take j).flatten.length<=ls.flatten.length:=by
 have:ls.flatten=(ls.take j).flatten++(ls.drop j).flatten:=by rw[<-List.flatten_append,List.take_append_drop]
 rw[this,Ag];omega
theorem mj1 (ls:List (List D))(hl:ls.flatten.length<=1000000):FnD prog gl 69 [.d (.list 1 (ls.map (.list 6)))] (λv=>v=.d (.list 6 ls.flatten)):=by
 refine FnD.Ya (n:=935) (e:=28) ?_
 (refine j3 func69 ntmps69 results69 λw M E b0=>?_)
 refine k7 0 rfl λhsm=>?_;rw[Ab]at hsm
 (repeat' first|refine yyp ?_;try refine Ce ?_ ?_<;>intro hb|refine yy ?_|apply ah;refine Cc Vt ?_|refine Cb λK hK=>?_|apply_assumption -exfalso -symm)
 refine k9 [3,5,11,12,13,14,15,16,17,18,19,20,21,22] [] (λj:Nat=>[(11,.d (.int .i64 j)),(3,.d (.int .i64 ((ls.take j).flatten.length:Nat)))]) (λ_=>[]) (λj=>j<=ls.length) (λj=>ls.length - j) 0 (Ak _) λj hj=>?_;dsimp only[Ac,Ae];have hle:=kf8 ls j;have hle1:=kf8 ls (j+1);rcases Ai j ls.length with hj2|hj2
 ·have hnx:=mj0 ls j hj2;have hlx:((ls.take (j+1)).flatten.length:Int)=((ls.take j).flatten.length:Nat)+(ls[j].length:Nat):=by rw[hnx,Ag];omega
  generalize (ls.take j).flatten.length=a at *
  (repeat' first|refine yyp ?_;try refine Ce ?_ ?_<;>intro hb|refine yy ?_|apply ah;refine Cc Vt ?_|refine Cb λK hK=>?_|apply_assumption -exfalso -symm)
  all_goals first
   |(exfalso;omega)
   |(refine⟨j+1,by omega,by omega,?_⟩
     rw[hlx];exact v6)
 ·have ha:ls.take j=ls:=Ba hj2;rw[ha];have hgr:=qt4 gl ls.flatten.length (by omega)
  (repeat' first|apply Ca 24;refine Ch (hc:=hgr) ?_|refine yyp ?_;try refine Ce ?_ ?_<;>intro hb|refine yy ?_|apply ah;refine Cc Vt ?_|refine Cb λK hK=>?_|apply_assumption -exfalso -symm)
  refine k9 [6,8,27,28,29,30,31,32,33,34] [935] (λx:Nat × Nat=>[(27,.d (.int .i64 x.1)),(6,.own 935 x.2)]) (λx=>[(935,.row 28 6 true (ls.take x.1).flatten x.2)]) (λx=>x.1<=ls.length) (λx=>ls.length - x.1) (0,0) (Ak _) λ⟨i,kv⟩ hi=>?_;dsimp only[Ac,Ae]at hi ⊢;rcases Ai i ls.length with hi2|hi2
  ·have hnx:=mj0 ls i hi2;have hle2:=kf8 ls (i+1);rw[hnx,Ag]at hle2
   (repeat' first|refine yyp ?_;try refine Ce ?_ ?_<;>intro hb|refine yy ?_|(apply Dw;first|(refine Gj (λkv=>?_))|(refine ai (λsx sp kv hsx hsp hsl=>?_)))|apply ah;refine Cc Vt ?_|refine Cb λK hK=>?_|apply_assumption -exfalso -symm)
   refine⟨(i+1,kv),by dsimp only;omega,by dsimp only;omega,?_⟩;dsimp only;rw[hnx];exact v6
  ·(repeat' first|refine yyp ?_;try refine Ce ?_ ?_<;>intro hb|refine yy ?_|apply ah;refine Cc Vt ?_|refine Cb λK hK=>?_|apply_assumption -exfalso -symm)
   rw[Ba hi2];refine j1 (ja3 ⟨_,?_,rfl⟩);rfl
theorem kz8 (xs:List D)(hl:xs.length<=1000000000):FnE prog gl 66 [.d (.list 42 xs)] [] (λv H1=>v=.own 932 0/\H1=[(932,.row 45 42 true xs 0)]):=by
 refine FnE.fix ?_
 (refine j3 func66 ntmps66 results66 λw M E b0=>?_)
 (repeat' first|apply Ca 4;(refine kz6 (λhx0=>?_) ?_)|apply Ca 5;(refine Fu 932 ?_)|refine yyp ?_;try refine Ce ?_ ?_<;>intro hb|refine yy ?_|(apply Dw;first|(refine Gj (λkv=>?_))|(refine ai (λsx sp kv hsx hsp hsl=>?_)))|apply ah;refine Cc [0,2,3,4,5,6] ?_|refine Cb λK hK=>?_|apply_assumption -exfalso -symm)
 ·subst hx0;refine ju6 (t:=2) (e:=45) (sz:=42) 932 rfl rfl ?_;refine j1 (ja3 ⟨_,?_,rfl⟩);rfl
 ·refine j1 (ja3 ⟨_,?_,rfl⟩);rfl
theorem kz9 (xs:List D)(hl:xs.length<=1000000000):FnE prog gl 66 [.d (.list 42 xs)] [] (λv H1=>v=.own 933 0/\H1=[(933,.row 45 42 true xs 0)]):=by
 refine FnE.fix ?_
 (refine j3 func66 ntmps66 results66 λw M E b0=>?_)
 (repeat' first|apply Ca 4;(refine kz6 (λhx0=>?_) ?_)|apply Ca 5;(refine Fu 933 ?_)|refine yyp ?_;try refine Ce ?_ ?_<;>intro hb|refine yy ?_|(apply Dw;first|(refine Gj (λkv=>?_))|(refine ai (λsx sp kv hsx hsp hsl=>?_)))|apply ah;refine Cc [0,2,3,4,5,6] ?_|refine Cb λK hK=>?_|apply_assumption -exfalso -symm)
 ·subst hx0;refine ju6 (t:=2) (e:=45) (sz:=42) 933 rfl rfl ?_;refine j1 (ja3 ⟨_,?_,rfl⟩);rfl
 ·refine j1 (ja3 ⟨_,?_,rfl⟩);rfl
theorem ma0 (xs:List D)(hl:xs.length<=1000000000):FnE prog gl 66 [.d (.list 42 xs)] [] (λv H1=>v=.own 934 0/\H1=[(934,.row 45 42 true xs 0)]):=by
 refine FnE.fix ?_
 (refine j3 func66 ntmps66 results66 λw M E b0=>?_)
 (repeat' first|apply Ca 4;(refine kz6 (λhx0=>?_) ?_)|apply Ca 5;(refine Fu 934 ?_)|refine yyp ?_;try refine Ce ?_ ?_<;>intro hb|refine yy ?_|(apply Dw;first|(refine Gj (λkv=>?_))|(refine ai (λsx sp kv hsx hsp hsl=>?_)))|apply ah;refine Cc [0,2,3,4,5,6] ?_|refine Cb λK hK=>?_|apply_assumption -exfalso -symm)
 ·subst hx0;refine ju6 (t:=2) (e:=45) (sz:=42) 934 rfl rfl ?_;refine j1 (ja3 ⟨_,?_,rfl⟩);rfl
 ·refine j1 (ja3 ⟨_,?_,rfl⟩);rfl
def aB (p:Pr):List Pr:=p.spec.body++p.ak.flatMap (·.body)++p.l
def mp7 (p:Pr):Nat->List D
 |0=>p.spec.body.map dPr
 |j+1=>(p.spec.body++(p.ak.take (j+1)).flatMap (·.body)).map dPr
theorem kb7 (p:Pr)(j:Nat):mp7 p j=(p.spec.body++(p.ak.take j).flatMap (·.body)).map dPr:=by
 cases j with
 |zero=>simp[mp7]
 |succ j=>rfl
theorem Rn (p:Pr)(hl:(aB p).length<=1000000):FnD prog gl 72 [.d (dPr p)] (λv=>v=.d (.list 42 ((aB p).map dPr))):=by
 unfold aB at hl ⊢;have c1:=kz8 gl (p.spec.body.map dPr) (by simp only[Ag,Ab]at hl ⊢;omega);refine FnD.Ya (n:=932) (e:=45) ?_;rw[congrFun v7 p];simp only[Ag]at hl
 (refine j3 func72 ntmps72 results72 λw M E b0=>?_)
 (repeat' first|apply Ca 1;(refine Ck 1 ?_)|apply Ca 9;refine Ch (hc:=c1) ?_|refine yyp ?_;try refine Ce ?_ ?_<;>intro hb|refine yy ?_|apply ah;refine Cc Ye ?_|refine Cb λK hK=>?_|apply_assumption -exfalso -symm)
 rw[jb7];refine k7 11 rfl λhsm=>?_;simp only[Ab]at hsm;refine k9 [3,5,13,14,15,16,17,18,19,20,21] [932] (λx:Nat × Nat=>[(13,.d (.int .i64 x.1)),(3,.own 932 x.2)]) (λx=>[(932,.row 45 42 true (mp7 p x.1) x.2)]) (λx=>x.1<=p.ak.length) (λx=>p.ak.length - x.1) (0,0) (Ak _) λ⟨j,kv⟩ hj=>?_;dsimp only[Ac,Ae]at hj ⊢;have hfl:∀ i,((p.ak.take i).flatMap (·.body)).length<=(p.ak.flatMap (·.body)).length:=λi=>by
  have:=kf8 (p.ak.map (·.body)) i;rw[<-Fc]at this;exact this
 rcases Ai j p.ak.length with hj2|hj2
 ·have h1:=hfl (j+1);have h2:(p.ak.take (j+1)).flatMap (·.body)=(p.ak.take j).flatMap (·.body)++p.ak[j].body:=by
   rw[An hj2,List.flatMap_append];simp
  rw[h2,Ag]at h1;rw[kb7 p j]
  (repeat' first|apply Ca 5;(refine j2 5 ?_)|refine yyp ?_;try refine Ce ?_ ?_<;>intro hb|refine yy ?_|(apply Dw;first|(refine Gj (λkv=>?_))|(refine ai (λsx sp kv hsx hsp hsl=>?_)))|apply ah;refine Cc Ye ?_|refine Cb λK hK=>?_|apply_assumption -exfalso -symm)
  refine⟨(j+1,kv),by dsimp only;omega,by dsimp only;omega,?_⟩;dsimp only;rw[kb7 p (j+1),h2];simp only[Av,Eg];exact v6
 ·rw[kb7 p j,Ba hj2]
  (repeat' first|refine yyp ?_;try refine Ce ?_ ?_<;>intro hb|refine yy ?_|(apply Dw;first|(refine Gj (λkv=>?_))|(refine ai (λsx sp kv hsx hsp hsl=>?_)))|apply ah;refine Cc Ye ?_|refine Cb λK hK=>?_|apply_assumption -exfalso -symm)
  simp only[Av,Eg];refine j1 (ja3 ⟨_,?_,rfl⟩);rfl
end Al
end
end Go.Proofs.YtklklgfpkpglgaaGreatDoor
