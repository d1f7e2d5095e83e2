/- Parts. -/
import Derived.Test.YtklklgfpkpglgaaGreatDoorW48
set_option linter.all false
set_option maxRecDepth 100000
set_option maxHeartbeats 0
namespace Go.Proofs.YtklklgfpkpglgaaGreatDoor
open Go.RowKit Go.Proofs.Tryz Sc
variable (gl:List (Nat × List D))
section
def Wm:List Nat:=[0,1,2,3,4,5,6,7]
open Go.RowKit Go.Sort
variable {mm:Int}
theorem mn4 (q k:Nat)(l:List ByteArray):
 FnE prog gl 33 [.own q k] [(q,.row 9 1 false (l.map .str) k)]
  (λv H1=>v=.win q k 0 (Lib.compact (ko0 l)).length/\H1=[(q,.row 9 1 false (((Lib.compact (ko0 l)++List.replicate (l.length - (Lib.compact (ko0 l)).length) []).map Sc.toB).map .str) k)]):=by
 intro w M β us hM hus ho hg;simp only[Ct]at hus;obtain⟨v,r,rfl,hv,rfl⟩:=hus;have hl0:look q [(q,Ob.row 9 1 false (l.map .str) k)]=some (.row 9 1 false (l.map .str) k):=by rw[j7,Ae rfl]
 have hv':v=(β q).v:=hv 9 1 false _ hl0;subst hv';obtain⟨ys,h3,h4⟩:=ho.obs q _ hl0;rw[jj5]at h4;subst h4;rw[Aa]at h3;obtain⟨c,hc⟩:∃ c,c=Lib.compact (ko0 l):=⟨_,rfl⟩;have hcl:c.length<=l.length:=by rw[hc,<-l6 l];exact Lib.compact_length_le _
 rw[<-hc];obtain⟨m,hm⟩:∃ m,m=(c++List.replicate (l.length - c.length) []).map Sc.toB:=⟨_,rfl⟩;rw[<-hm];have hlen:m.length=l.length:=by
  rw[hm,Aa,Ag,El];omega
 have hpre:m.take c.length=c.map Sc.toB:=by
  rw[hm,<-Ek,List.take_left'];rfl
 have fin:∀ w' x,w.grownBy w' (β q).v.ownBlock->w'.ownsRow 0 9 1 (β q).v l.length (m.map .string)->(∀ a n cp,(β q).v=.slice a n cp->x=.slice a c.length cp)->∃ (v:V) (x':Value) (H1:List (Nat × Ob)) (β1:Nat->Hd),(v=.win q k 0 c.length/\H1=[(q,.row 9 1 false (m.map .str) k)])/\Nt [(q,.row 9 1 false (l.map .str) k)] H1 v=true/\Ending.returned x=.returned x'/\Frm (ma3 β [(q,.row 9 1 false (l.map .str) k)]) w w'/\(∀ n,(look n [(q,Ob.row 9 1 false (l.map .str) k)]).isSome=true->(β1 n).v=(β n).v)/\
  (∀ n ob b,look n H1=some ob->own (β1 n) ob b->b∈ma3 β [(q,.row 9 1 false (l.map .str) k)]\/w.heap.size<=b)/\Obs w' M β1 H1/\Dh w' (Mut M β1 H1) β1 H1 v x':=λw' x g1 g2 g3=>by
  obtain⟨t1,t2,t3⟩:=kb3 (sh':=false) hlen ho hM g1 g2;refine⟨_,x,_,β,⟨rfl,rfl⟩,?_,rfl,t1,λ_ _=>rfl,t2,t3,?_⟩
  ·simp[Nt,mi0,mh9,kn9,ke7,j7,Ob.cells,jf5,V.within]
  ·intro e sz sh xs hlk;obtain⟨_,hrow⟩:=jo2 hlk;rcases g2.2 with ⟨e1,e2⟩|⟨g,cap,cur,e1,e2,e3,e4,e5,e6,e7⟩
   ·have hc0:c.length=0:=by omega
    exact⟨none,0,0,none,0,e1,by omega,g3 _ _ _ e1,by omega,λh=>absurd hc0 h,Ai _,λ_=>rfl⟩
   ·refine⟨some ⟨g,0,none⟩,l.length,cap,some ⟨g,0,none⟩,cap,e1,by omega,g3 _ _ _ e1,by omega,λ_=>?_,e5,λh=>by cases h⟩;simp[jg9]
 rcases h3.2 with ⟨e1,e2⟩|⟨g,cap,cur,e1,e2,e3,e4,e5,e6,e7⟩
 ·have hc0:c.length=0:=by omega
  rw[e1]at fin ⊢;refine(Tryz.slices_Compact_string_empty none 0 w).mono ?_;rintro en w' ⟨rfl,rfl⟩;refine fin _ _ ⟨rfl,rfl,rfl,Au _,λ_ _ _=>rfl⟩ ⟨by rw[Aa,hlen];omega,.inl ⟨rfl,e2⟩⟩ λa n cp h=>?_;cases h;rw[hc0]
 ·rw[e1]at fin ⊢;rw[Nat.mul_one,<-js5,<-l6 l]at e7;have hh:=holds_of_block e3 e7;have hs:=Tryz.slices_Compact_string g 0 cap (ko0 l) w hh (by rw[l6];have:maxLen=9223372036854775807:=rfl;omega) (by rw[l6];exact e4);rw[l6,<-hc]at hs;refine hs.mono ?_;rintro en w' ⟨rfl,n,rfl⟩;have hts:(c++List.replicate (l.length - c.length) []).length=(ko0 l).length:=by
   rw[l6,Ag,El];omega
  have h5:=ownsRow_sorted (ss:=ko0 l) (ts:=c++List.replicate (l.length - c.length) []) (n:=n) (os:=#[]) (base:=0) hts e2 e3 (by rw[l6];exact e4) e5 e6;have h6:=grownBy_sorted (w:=w) (g:=g) (n:=n) (os:=#[]) (c++List.replicate (l.length - c.length) []).toArray;have hgr:∀ u:World,grow u #[]=u:=grow_empty;rw[hgr]at h5 h6;have h7:List.map encStr (c++List.replicate (l.length - c.length) [])=m.map Value.string:=by rw[hm,<-js5,kf4]
  rw[l6,h7]at h5;refine fin _ _ h6 h5 λa n cp h=>?_;cases h;rfl
attribute [local irreducible] TR TC
theorem rb5 (p:Pr)(hm:Lx.Gr p=true):FnE prog (glS mm) 10 [.d (dPr p)] [] (λv H1=>∃ rest:List ByteArray,True/\v=.tup [.win 951 0 0 (Db p).length,.d (.int .i64 0)]/\H1=[(951,.row 9 1 false ((Db p++rest).map .str) 0)]):=by
 have c1:=kv7 (mm:=mm) p;have hcan:=Xc hm;have hfit:=hcan.fit0;have c2:=jl0 (glS mm) .free [];have c3:=kf3 (mm:=mm) .free _ p (Au _) hcan.ok hcan.cap (Sc.start []) hfit;have hg:=Me p (Sc.start []);obtain⟨r,hr⟩:∃ r,r=Dp (Sc.start []) p:=⟨_,rfl⟩;have hF:Db p=Sc.once (Hr r.2.ev):=by rw[hr];rfl
 rw[<-hr]at c3 hg;have he:=hg.ev;have hroom:=hfit.room;have hlen:=Lm r.2.ev;unfold W.room at hroom;have c4:=qh4 (glS mm) 951 0 (Hr r.2.ev) (by omega);have c5:=mn4 (glS mm) 951 0 ((Jz (Hr r.2.ev)).map Sc.toB);rw[Uh,Ar,Ph,<-hF]at c5;have hcl:(Lib.compact (Jz (Hr r.2.ev))).length=(Db p).length:=by
  rw[hF,<-Ph,Aa]
 rw[hcl]at c5;generalize (List.replicate (((Jz (Hr r.2.ev)).map Sc.toB).length - (Db p).length) ([]:List UInt8)).map Sc.toB=rest at c5;rw[hm]at c1;dsimp only[HW,ja9,n7,Sc.start,Hr,Ba]at c2 c3;clear hr hg he hroom hlen hfit hcan hF hcl;rw[v6]at c1 c3 ⊢
 (refine j2 func10 ntmps10 results10 λw M E b0=>?_)
 ((repeat' first|apply Ca 1;(refine Cm 1001 ?_)|apply Ca 4;(refine j3 903 ?_)|apply Cf 4;refine halt ?_|refine yyp ?_;try refine Ce ?_ ?_<;>intro hb|refine yy ?_|apply Cg 28;refine Ci (hc:=c1) ?_;try refine Ce ?_ ?_<;>intro hb|apply ah;refine Cc Wm ?_|refine Cb λK hK=>?_|apply_assumption -exfalso -symm);all_goals try refine unhalt ?_)
 refine jp5 903 951 0 (e:=9) (sz:=1) rfl rfl rfl ?_;refine jm1 (kp8 951 rfl) ?_;refine jm1 (ka2 (n:=903) (q:=951) (i:=0) rfl rfl rfl rfl (by(repeat (first|exact Drop.nil|apply Drop.drop rfl|apply Drop.take rfl));fail_if_success intros) rfl) ?_
 ((repeat' first|apply Ca 9;refine Ch (hc:=c2) ?_|apply Ca 11;refine Ch (hc:=c3) ?_|apply Cf 5;refine halt ?_|refine yyp ?_|apply ah;refine Cc Wm ?_|refine Ht ?_ ?_|(apply Gn (x:=.region 4 _ _);focus ((apply Cf 4;refine j0 [1,3] q0p ?_);(repeat' (first|apply Ca 1;(refine Cm 1001 ?_)));(all_goals first|exact Wk.refl _ _|exact r9);done))|refine Cb λK hK=>?_|apply Cf 4;refine j0 [1,3] q0p ?_|apply_assumption -exfalso -symm);all_goals try refine unhalt ?_)
 all_goals (refine jm1 (ju5 (n:=903) (q:=951) rfl rfl) ?_)
 all_goals (repeat' first|apply Ca 13;refine Ch (hc:=c4) ?_|apply Ca 15;refine Ch (hc:=c5) ?_|refine yyp ?_|refine yy ?_|apply ah;refine Cc Wm ?_|refine Cb λK hK=>?_|apply Cf 4;refine j0 [] (lin [0,9,6,14]) ?_|apply_assumption -exfalso -symm)
 all_goals exact j1 (ja6 ⟨rest,trivial,rfl,rfl⟩)
namespace Al
theorem rq4 (Ks ns rest:List ByteArray)(hn:ns.length<=1000000000):FnE prog gl 40 [.map 901,.win 951 0 0 ns.length] [(901,.map (Di Ks) (Dj Ks)),(951,.row 9 1 false ((ns++rest).map .str) 0)] (λv H1=>v=.tup []/\H1=[(901,.map (Di (Ik Ks ns)) (Dj (Ik Ks ns))),(951,.row 9 1 false ((ns++rest).map .str) 0)]):=by
 (refine j2 func40 ntmps40 results40 λw M E b0=>?_)
 (repeat' first|apply Ca 7;(refine z_p (je9 rfl rfl rfl) ?_)|refine yyp ?_;try refine Ce ?_ ?_<;>intro hb|refine yy ?_|apply ah;refine Cc [0,1,5,6,7,8,9] ?_|refine Cb λK hK=>?_|apply_assumption -exfalso -symm)
 refine j9 [5,8,9,10,11,12,13,14] [901] (λj:Nat=>[(8,.d (.int .i64 j))]) (λj=>[(901,.map (Di (Ik Ks (ns.take j))) (Dj (Ik Ks (ns.take j))))]) (λj=>j<=ns.length) (λj=>ns.length - j) 0 (Ai _) λj hj=>?_;dsimp only[Ac,Ad];rcases Ah j ns.length with hj2|hj2
 ·have hget:((ns++rest).map D.str)[0+j]? =some (.str ns[j]):=by rw[Eu,Bs,Ep hj2,Ax hj2];rfl
  (repeat' first|apply Ca 10;(refine z_p (Io (i:=j) rfl rfl rfl rfl rfl rfl hj2) ?_)|apply Ca 11;(refine z_q (jd4 rfl rfl rfl hget (by first|exact Fy.agg _|constructor) rfl) ?_)|refine jg0 2 ?_;(refine jl7 ?_)|refine yyp ?_;try refine Ce ?_ ?_<;>intro hb|refine yy ?_|apply ah;refine Cc [0,1,5,6,7,8,9] ?_|refine Cb λK hK=>?_|apply_assumption -exfalso -symm)
  refine⟨j+1,by omega,by omega,?_⟩;rw[jn3 hj2];exact r9
 ·(repeat' first|refine yyp ?_;try refine Ce ?_ ?_<;>intro hb|refine yy ?_|apply ah;refine Cc [0,1,5,6,7,8,9] ?_|refine Cb λK hK=>?_|apply_assumption -exfalso -symm)
  rw[Am hj2];exact n9 ⟨rfl,rfl⟩
open Lx Sc
theorem ky7 {p:Pr}(h:Gr p=true):(Db p).length<=1000000000:=by
 obtain⟨h1,h2⟩:=jj8 h;have h3:=kv9 p h1;have hg:=(Me p (Sc.start [])).ev;have hlen:=Lm (Dp (Sc.start []) p).2.ev;have ho:=kw1 (Hr (Dp (Sc.start []) p).2.ev);have hs:(Sc.start []).ev.length=0:=rfl;unfold Db;omega
structure NewLite (p q:Pr):Prop where
 may:Gr p=true
 mayq:Gr q=true
 un:Yh p=q
theorem kg7 {p:Pr}(h:Im p=0):NewLite p (Fz p):=by
 obtain⟨hm,hc⟩:=kw4 h;have hnew:=qi9 p (Sc.start (Gi p)) (λs x hx=>by cases hx) (Ez 0) (mr5 hm) (jj8 hm).1;refine⟨hm,qy5 hnew.1 hm,?_⟩;unfold Yh;rw[Ae ⟨hm,hc⟩]
noncomputable def w0 (p:Pr):Wd:=⟨Ik [] (Db p),[],[]⟩
theorem qo7 {p:Pr}(hm:Gr p=true)(hc:(Kb p (Db p)).2=0):isR (rk (Sc.start (Gi p)).has) (Fz p):=by
 have hev:=kb7 _ _ hc;refine qj2 p (Sc.start (Gi p)) (jj8 hm).1 (λs x hx=>by cases hx) (Ez 0) rfl λs hs=>?_;rw[Xq (Gi p) []]at hs;rw[qj0];left;rw[mr3];exact hs
theorem ky8 (p:Pr)(h0:Im p=0):FnE prog (glS mm) 23 [.d (dPr p)] [] (λv H1=>∃ x:List ByteArray × Wd,(Sim x.2 (n5 (w0 p) (Fz p))/\Ld (rk (Sc.start (Gi p)).has) x.2)/\v=.tup [.ptr 900 0,.d (dPr (Fz p)),.win 951 0 0 (Db p).length,.d (.int .i64 0)]/\H1=(951,.row 9 1 false ((Db p++x.1).map .str) 0)::HA x.2):=by
 obtain⟨hm,hc⟩:=kw4 h0;have na:=kg7 h0;have hrk:=qo7 hm hc;have hR0:Ld (rk (Sc.start (Gi p)).has) (w0 p):=λx hx=>by cases hx
 have c1:=kq8 (mm:=mm) p;rw[h0,na.un]at c1;have c2:=rb5 (mm:=mm) p hm;have c3:=λrest=>rq4 (glS mm) [] (Db p) rest (ky7 hm);have c4:=qo5 (glS mm) (r:=rk (Sc.start (Gi p)).has) _ (Fz p) (Au _) hrk (jj8 na.mayq).1 (w0 p) hR0;simp only[v6]at c1 c2 c4 ⊢;dsimp only[HA,w0,Di,Dj,Mq,Nh,Ba]at c3 c4 ⊢
 (refine j2 func23 ntmps23 results23 λw M E b0=>?_)
 (repeat' first|apply Ca 1;(refine Cm 1 ?_)|apply Ca 3;(refine j3 3 ?_)|apply Ca 6;(refine j3 6 ?_)|apply Ca 22;(refine Ga (hc:=c2) ?_;rintro rest _)|apply Ca 25;(refine Iz 901 ?_)|apply Ca 26;(refine Iz 902 ?_)|apply Ca 27;(refine Iz 903 ?_)|apply Ca 29;(refine Cm 900 ?_)|apply Ca 35;refine Ch (hc:=c3 rest) ?_|apply Ca 38;(refine Ga (hc:=c4) ?_;rintro ω hω)|refine yyp ?_|refine yy ?_|apply Cg 12;refine Ci (hc:=c1) ?_|apply ah;refine Cc [0,1,2,3,4,5,6,7,8,10,17,45] ?_|refine Cb λK hK=>?_|apply Cf 3;refine j0 [3] (lin [4,8,1,15,16,20]) ?_|apply Cf 8;refine j0 [4] (lin [0,8,12,5,19,20,24]) ?_|apply_assumption -exfalso -symm)
 exact j1 (ja6 ⟨(rest,ω),⟨hω,kg5 hω hR0 hrk⟩,rfl,rfl⟩)
theorem km8 (p:Pr)(h0:Im p≠0):FnE prog (glS mm) 23 [.d (dPr p)] [] (λv H1=>v=.tup [.d (.raw (.pointer none)),.d (dPr p),.nils 1,.d (.int .i64 (Im p))]/\H1=[]):=by
 have c1:=kq8 (mm:=mm) p;simp only[v6]at c1 ⊢
 (refine j2 func23 ntmps23 results23 λw M E b0=>?_)
 (repeat' first|apply Ca 1;(refine Cm 1 ?_)|apply Ca 3;(refine j3 3 ?_)|apply Ca 6;(refine j3 6 ?_)|refine yyp ?_;try refine Ce ?_ ?_<;>intro hb|refine yy ?_|apply Cg 12;refine Ci (hc:=c1) ?_|apply ah;refine Cc [0,1,2,3,4,5,6,7,8,10,17,45] ?_|refine Cb λK hK=>?_|apply Cf 3;refine j0 [3] (lin [4,8,1,15,16,20]) ?_|apply Cf 8;refine j0 [4] (lin [0,8,12,5,19,20,24]) ?_|apply_assumption -exfalso -symm)
 all_goals first
  |(exfalso;omega)
  |exact j1 (ja6 ⟨rfl,rfl⟩)
end Al
end
section
def Uy:List Nat:=[0,1,2,3,4,5,6,7,8,17,26]
variable {mm:Int}
namespace Al
open Lx Sc
attribute [local irreducible] TR TC
theorem qo8 (p:Pr)(h0:Im p=0):FnD prog (glS mm) 13 [.d (dPr p)] (λv=>∃ n:ByteArray,∃ ω,Sim ω (n5 (w0 p) (Fz p))/\(brB ω (Fz p)=true->Nm ω p (Fz p) n)/\v=.tup [.d (.str (if brB ω (Fz p)=true then n else ByteArray.empty)),.d (.int .i64 (if brB ω (Fz p)=true then 150 else 0))]):=by
 have na:=kg7 h0;have hnew:=qi9 p (Sc.start (Gi p)) (λs x hx=>by cases hx) (Ez 0) (mr5 na.may) (jj8 na.may).1;have c1:=ky8 (mm:=mm) p h0;have c2:=λ(ω:Wd) (h:Rank ω.is)=>va2 (glS mm) ω h _ p (Fz p) (Au _) hnew.1 (jj8 na.may).1 (jj8 na.mayq).1;simp only[v6]at c1 c2 ⊢;dsimp only[HA]at c1 c2
 (refine j5 func13 ntmps13 results13 λw M=>?_)
 ((repeat' first|apply Ca 1;(refine Cm 1 ?_)|apply Ca 11;(refine Ga (hc:=c1) ?_;rintro⟨rest,ω⟩ ⟨hω,hR⟩)|apply Ca 5;(refine j3 5 ?_)|apply Cf 4;refine halt ?_|refine yyp ?_|refine yy ?_|apply ah;refine Cc Uy ?_|refine Cb λK hK=>?_|apply_assumption -exfalso -symm);all_goals try refine unhalt ?_)
 have c3:=c2 ω hR.rank;cases hb:brB ω (Fz p) with
 |true=>
  rw[hb]at c3
  (repeat' first|apply Ca 23;(refine Ga (hc:=c3) ?_;rintro n hn)|refine yyp ?_;try refine Ce ?_ ?_<;>intro hb|refine yy ?_|apply ah;refine Cc Uy ?_|refine Cb λK hK=>?_|apply_assumption -exfalso -symm)
  refine j1 (j8 ⟨n,ω,hω,λ_=>hn rfl,?_⟩);rw[hb];rfl
 |false=>
  rw[hb]at c3
  (repeat' first|apply Ca 23;(refine Ga (hc:=c3) ?_;rintro n hn)|refine yyp ?_;try refine Ce ?_ ?_<;>intro hb|refine yy ?_|apply ah;refine Cc Uy ?_|refine Cb λK hK=>?_|apply_assumption -exfalso -symm)
  refine j1 (j8 ⟨n,ω,hω,(λh=>by rw[hb]at h;cases h),?_⟩);rw[hb];rfl
theorem mz4 (p:Pr)(h0:Im p≠0):FnD prog (glS mm) 13 [.d (dPr p)] (λv=>v=.tup [.d (.str ByteArray.empty),.d (.int .i64 (Im p))]):=by
 have c1:=km8 (mm:=mm) p h0;simp only[v6]at c1 ⊢
 (refine j5 func13 ntmps13 results13 λw M=>?_)
 (repeat' first|apply Ca 1;(refine Cm 1 ?_)|apply Ca 11;refine Ch (hc:=c1) ?_|apply Ca 5;(refine j3 5 ?_)|refine yyp ?_;try refine Ce ?_ ?_<;>intro hb|refine yy ?_|apply ah;refine Cc Uy ?_|refine Cb λK hK=>?_|apply_assumption -exfalso -symm)
 all_goals first
  |(exfalso;omega)
  |(refine j1 (j8 ?_)
    rfl)
end Al
end
section
def Uz:List Nat:=[0,1,4,5,6,7,8,9,16]
section
variable {E:Set}{Q:Exit->Sd->Prop}{ops:Array Oper}{draw:Bool}{rest:Todo}{way:Jj}{ty:TypeId}{pos:String}{af:Array Edge}{gd:Option (Nat × Bool)}
theorem qo9 {S S':Sd}{o:Oper}{v:V}(hq:Xp E S o S' v)(hdst:o.dst=none)(hg:S.gd ops o=some true)(hdf:ja7 o=false)(hw:Jy draw way=true)(h:TR E draw ops Q rest S'):TR E draw ops Q (.step o way rest) S:=λa w hS=>by
 have hS0:=hS;have key:∀ w1,aG w w1->∀ K:Act->World->Prop,(∀ a2 w2,St E.C S' a2 w2->K a2 w2)->o.wp E.P a w1 K (Qof E.C Q):=λw1 g K hK=>by
  obtain⟨β,hB⟩:=hS.later g;obtain⟨x,w',β',h1,h2,h3⟩:=hq.out β a w1 hB;refine ja5 h1 (hK _ _ ?_);rw[hdst];exact⟨β',h2⟩
 cases draw with
 |true=>
  dsimp only;cases way with
  |pure=>cases hw
  |quiet=>cases hw
  |grow=>cases hw
  |bar=>
   simp only[x5];intro n;rw[Sd.Dx hS0 hg,Ae rfl];exact key n.w n.grows _ λa2 w2 hs2=>h _ _ hs2
 |false=>exact l5 hS0 hg hdf λK hK=>key w (aG.refl w) K λa2 w2 hs2=>hK _ _ (h _ _ hs2)
variable {env:List (Nat × V)}{H:List (Nat × Ob)}{gl:List (Nat × List D)}
theorem qp0 {t n k p m e:Nat}{x:Operand}{xs:List D}{z:D}[ht:aK E.P t e 1][hz:Qj E.P e z](h:TR E draw ops Q rest ⟨env,(n,.row e 1 false (xs.take p++List.replicate m z++xs.drop (p+m)) k)::H,gl⟩)(hs:z.scalar=true:=by exact rfl)(hx:Sd.ev ⟨env,H,gl⟩ x=some (.win n k p m):=by exact rfl)(hox:Cn x=true:=by exact rfl)(hl:look n H=some (.row e 1 false xs k):=by exact rfl)(hle:p+m<=xs.length)
 (hg:Sd.gd ⟨env,H,gl⟩ ops ⟨none,.call {callee:=.builtin .clear,args:=#[x],argTypes:=#[t]},ty,pos,af,gd⟩=some true:=by exact rfl) (hw:Jy draw way=true:=by exact rfl):
 TR E draw ops Q (.step ⟨none,.call {callee:=.builtin .clear,args:=#[x],argTypes:=#[t]},ty,pos,af,gd⟩ way rest) ⟨env,H,gl⟩:=qo9 (mk0 hs hx hox hl hle) rfl hg rfl hw h
end
namespace Al
def vh2 (A ns:List ByteArray)(k:Int):Prop:=(k=-1/\∀ s∈ns,s∈A)\/∃ i:Nat,k=i/\i<ns.length/\(∀ h:i<ns.length,ns[i]∉A)/\∀ s∈ns.take i,s∈A
attribute [local irreducible] TR TC
theorem mg7 (A:List ByteArray)(s:ByteArray):FnE prog gl 26 [.d (.str s),.ptr 1007 0] [(1007,.box [.d (.map (Di A) (Dj A))])] (λv H1=>v=.d (.bool (!decide (s∈A)))/\H1=[(1007,.box [.d (.map (Di A) (Dj A))])]):=by
 (refine j2 func26 ntmps26 results26 λw M E b0=>?_)
 (repeat' first|apply Ca 6;(refine jn4 (λhin=>?_) (λhin=>?_))|refine yyp ?_|refine yy ?_|apply ah;refine Cc [0,1,3,4,5,6] ?_|refine Cb λK hK=>?_|apply_assumption -exfalso -symm)
 ·(refine j1 (j6 ⟨?_,rfl⟩))
  rw[Bm hin];rfl
 ·(refine j1 (j6 ⟨?_,rfl⟩))
  rw[Bn hin];rfl
theorem rq5 (A ns rest:List ByteArray)(hn:ns.length<=1000000000):FnE prog gl 44 [.win 951 0 0 ns.length,.clo (.func 26) [] [.ptr 1007 0]] [(951,.row 9 1 false ((ns++rest).map .str) 0),(1007,.box [.d (.map (Di A) (Dj A))])] (λv H1=>∃ k:Int,vh2 A ns k/\v=.d (.int .i64 k)/\H1=[(951,.row 9 1 false ((ns++rest).map .str) 0),(1007,.box [.d (.map (Di A) (Dj A))])]):=by
 (refine j2 func44 ntmps44 results44 λw M E b0=>?_)
 (repeat' first|apply Ca 7;(refine z_p (je9 rfl rfl rfl) ?_)|refine yyp ?_;try refine Ce ?_ ?_<;>intro hb|refine yy ?_|apply ah;refine Cc Uz ?_|refine Cb λK hK=>?_|apply_assumption -exfalso -symm)
 refine j9 [4,5,8,9,10,11,12,13,14,15,16,17,18] [] (λj:Nat=>[(8,.d (.int .i64 j))]) (λ_=>[]) (λj=>j<=ns.length/\∀ s∈ns.take j,s∈A) (λj=>ns.length - j) 0 ⟨Ai _,by simp⟩ λj ⟨hj,hin⟩=>?_;dsimp only[Ac,Ad];rcases Ah j ns.length with hj2|hj2
 ·have hget:((ns++rest).map D.str)[0+j]? =some (.str ns[j]):=by rw[Eu,Bs,Ep hj2,Ax hj2];rfl
  have c1:=mg7 gl A ns[j];by_cases hm:ns[j]∈A
  ·rw[Bm hm]at c1
   (repeat' first|apply Ca 14;(refine z_p (Io (i:=j) rfl rfl rfl rfl rfl rfl hj2) ?_)|apply Ca 15;(refine z_q (jd4 rfl rfl rfl hget (by first|exact Fy.agg _|constructor) rfl) ?_)|apply Ca 16;refine Ch (hc:=c1) ?_;try refine Ce ?_ ?_<;>intro hb|refine yyp ?_;try refine Ce ?_ ?_<;>intro hb|refine yy ?_|apply ah;refine Cc Uz ?_|refine Cb λK hK=>?_|apply_assumption -exfalso -symm)
   refine⟨j+1,⟨by omega,λs hs=>?_⟩,by omega,r9⟩;rw[Ao hj2,Bi,Bu]at hs;rcases hs with hs|rfl
   ·exact hin s hs
   ·exact hm
  ·rw[Bn hm]at c1
   (repeat' first|apply Ca 14;(refine z_p (Io (i:=j) rfl rfl rfl rfl rfl rfl hj2) ?_)|apply Ca 15;(refine z_q (jd4 rfl rfl rfl hget (by first|exact Fy.agg _|constructor) rfl) ?_)|apply Ca 16;refine Ch (hc:=c1) ?_;try refine Ce ?_ ?_<;>intro hb|refine yyp ?_;try refine Ce ?_ ?_<;>intro hb|refine yy ?_|apply ah;refine Cc Uz ?_|refine Cb λK hK=>?_|apply_assumption -exfalso -symm)
   exact j1 (j6 ⟨(j:Nat),.inr ⟨j,rfl,hj2,λ_=>hm,hin⟩,rfl,rfl⟩)
 ·rw[Am hj2]at hin
  (repeat' first|refine yyp ?_;try refine Ce ?_ ?_<;>intro hb|refine yy ?_|apply ah;refine Cc Uz ?_|refine Cb λK hK=>?_|apply_assumption -exfalso -symm)
  exact j1 (j6 ⟨-1,.inl ⟨rfl,hin⟩,rfl,rfl⟩)
end Al
end
section
def Sj:List Nat:=[0,1,4,5,6,7,12,19,29]
namespace Al
noncomputable def jk2 (A ns:List ByteArray):List ByteArray:=ns.filter λs=>decide (s∈A)
theorem jl9 {A ns:List ByteArray}(h:∀ s∈ns,s∈A):jk2 A ns=ns:=List.filter_eq_self.2 λs hs=>by simpa using h s hs
theorem km9 {A ns:List ByteArray}{j:Nat}(hj:j<ns.length):jk2 A (ns.take (j+1))=jk2 A (ns.take j)++(if ns[j]∈A then [ns[j]] else []):=by
 unfold jk2;rw[Ao hj,List.filter_append];congr 1;split
 ·rename_i h;simp[h]
 ·rename_i h;simp[h]
structure Ro (A ns rest:List ByteArray)(j i:Nat)(L:List ByteArray):Prop where
 lt:i<j
 le:j<=ns.length
 len:L.length=(ns++rest).length
 take:L.take i=jk2 A (ns.take j)
 drop:L.drop j=(ns++rest).drop j
theorem Ro.get {A ns rest L:List ByteArray}{j i:Nat}(h:Ro A ns rest j i L)(hj:j<ns.length):L[j]? =some ns[j]:=by
 have h1:(L.drop j)[0]? =((ns++rest).drop j)[0]? :=by rw[h.drop]
 rw[Er,Er,Nat.add_zero,Ep hj,Ax hj]at h1;exact h1
theorem Ro.yes {A ns rest L:List ByteArray}{j i:Nat}(h:Ro A ns rest j i L)(hj:j<ns.length)(hm:ns[j]∈A):Ro A ns rest (j+1) (i+1) (L.set i ns[j]):=by
 have h1:=h.lt;have h2:=h.len;have h3:i<L.length:=by rw[h2,Ag];omega
 refine⟨by omega,by omega,by rw[List.length_set];exact h2,?_,?_⟩
 ·rw[km9 hj,Ae hm,<-h.take];apply Fr;intro k;simp only[Ev,List.getElem?_set,List.getElem?_append,Ak]
  grind
 ·rw[List.drop_set_of_lt (by omega),<-List.drop_drop,h.drop,List.drop_drop]
theorem Ro.no {A ns rest L:List ByteArray}{j i:Nat}(h:Ro A ns rest j i L)(hj:j<ns.length)(hm:ns[j]∉A):Ro A ns rest (j+1) i L:=by
 have h1:=h.lt;refine⟨by omega,by omega,h.len,?_,?_⟩
 ·rw[km9 hj,Af hm,Ej,h.take]
 ·rw[<-List.drop_drop,h.drop,List.drop_drop]
theorem Ro.start {A ns:List ByteArray}(rest:List ByteArray){i:Nat}(hi:i<ns.length)(h1:ns[i]∉A)(h2:∀ s∈ns.take i,s∈A):Ro A ns rest (i+1) i (ns++rest):=by
 refine⟨by omega,by omega,rfl,?_,rfl⟩;rw[km9 hi,Af h1,Ej,jl9 h2,List.take_append_of_le_length (by omega)]
attribute [local irreducible] TR TC
theorem va3 (A ns rest:List ByteArray)(hn:ns.length<=1000000000):FnE prog gl 25 [.win 951 0 0 ns.length,.clo (.func 26) [] [.ptr 1007 0]] [(951,.row 9 1 false ((ns++rest).map .str) 0),(1007,.box [.d (.map (Di A) (Dj A))])] (λv H1=>∃ L:List ByteArray,((jk2 A ns).length<=L.length/\L.take (jk2 A ns).length=jk2 A ns)/\v=.win 951 0 0 (jk2 A ns).length/\H1=[(951,.row 9 1 false (L.map .str) 0),(1007,.box [.d (.map (Di A) (Dj A))])]):=by
 have c1:=rq5 gl A ns rest hn
 (refine j2 func25 ntmps25 results25 λw M E b0=>?_)
 ((repeat' first|apply Ca 10;(refine Ga (hc:=c1) ?_;rintro kx hkx)|apply Cf 2;refine halt ?_|refine yyp ?_;try refine Ce ?_ ?_<;>intro hb|refine yy ?_|apply ah;refine Cc Sj ?_|refine Cb λK hK=>?_|apply_assumption -exfalso -symm);all_goals try refine unhalt ?_)
 rcases hkx with ⟨rfl,hall⟩|⟨i0,rfl,hi0,hni,htk⟩
 ·(repeat' first|refine yyp ?_;try refine Ce ?_ ?_<;>intro hb|refine yy ?_|apply ah;refine Cc Sj ?_|refine Cb λK hK=>?_|apply_assumption -exfalso -symm)
  refine j1 (ja6 ⟨ns++rest,⟨?_,?_⟩,?_,rfl⟩)
  ·rw[jl9 hall];simp
  ·rw[jl9 hall];simp
  ·rw[jl9 hall];rfl
 ·have hst:=Ro.start rest hi0 (hni hi0) htk
  (repeat' first|refine yyp ?_;try refine Ce ?_ ?_<;>intro hb|refine yy ?_|apply ah;refine Cc Sj ?_|refine Cb λK hK=>?_|apply_assumption -exfalso -symm)
  refine j9 [5,6,7,16,17,18,19,20,21,22,23,24,25,26,27,28,29,30,31,32,33,34,35] [951] (λx:Nat × Nat × List ByteArray=>[(6,.d (.int .i64 x.1)),(5,.d (.int .i64 x.2.1))]) (λx=>[(951,.row 9 1 false (x.2.2.map .str) 0)]) (λx=>Ro A ns rest x.1 x.2.1 x.2.2) (λx=>ns.length - x.1) (i0+1,i0,ns++rest) hst λ⟨j,i,L⟩ hP=>?_;dsimp only[Ac,Ad]at hP ⊢;have q1:=hP.lt;have q2:=hP.le;have q3:=hP.len;rw[Ag]at q3;rcases Ah j ns.length with hj2|hj2
  ·have hget:(L.map D.str)[0+j]? =some (.str ns[j]):=by rw[Eu,Bs,hP.get hj2];rfl
   have c2:=mg7 gl A ns[j];by_cases hm:ns[j]∈A
   ·rw[Bm hm]at c2
    (repeat' first|apply Ca 18;(refine z_p (je9 rfl rfl rfl) ?_)|apply Ca 24;(refine z_p (Io (i:=j) rfl rfl rfl rfl rfl rfl hj2) ?_)|apply Ca 25;(refine z_q (jd4 rfl rfl rfl hget (by first|exact Fy.agg _|constructor) rfl) ?_)|apply Ca 28;refine Ch (hc:=c2) ?_;try refine Ce ?_ ?_<;>intro hb|apply Ca 33;(refine z_p (Io (i:=i) rfl rfl rfl rfl rfl rfl (by omega)) ?_)|refine yyp ?_;try refine Ce ?_ ?_<;>intro hb|refine yy ?_|apply ah;refine Cc Sj ?_|refine Cb λK hK=>?_|apply_assumption -exfalso -symm)
    refine⟨(j+1,i+1,L.set i ns[j]),hP.yes hj2 hm,by dsimp only;omega,?_⟩;dsimp only;rw[List.map_set];simp only[Eu];exact r9
   ·rw[Bn hm]at c2
    (repeat' first|apply Ca 18;(refine z_p (je9 rfl rfl rfl) ?_)|apply Ca 24;(refine z_p (Io (i:=j) rfl rfl rfl rfl rfl rfl hj2) ?_)|apply Ca 25;(refine z_q (jd4 rfl rfl rfl hget (by first|exact Fy.agg _|constructor) rfl) ?_)|apply Ca 28;refine Ch (hc:=c2) ?_;try refine Ce ?_ ?_<;>intro hb|refine yyp ?_;try refine Ce ?_ ?_<;>intro hb|refine yy ?_|apply ah;refine Cc Sj ?_|refine Cb λK hK=>?_|apply_assumption -exfalso -symm)
    exact⟨(j+1,i,L),hP.no hj2 hm,by dsimp only;omega,r9⟩
  ·obtain rfl:j=ns.length:=by omega
   have ht:=hP.take;rw[Bk]at ht;have hil:i=(jk2 A ns).length:=by rw[<-ht,Ak];omega
   (repeat' first|apply Ca 18;(refine z_p (je9 rfl rfl rfl) ?_)|apply Ca 38;(refine z_p (mp2 (l:=i) rfl rfl rfl rfl rfl rfl (by omega)) ?_)|refine jg0 3 ?_;(refine qp0 ?_ (hle:=by rw[Aa];omega))|apply Ca 41;(refine z_p (mp3 (l:=i) rfl rfl rfl rfl rfl rfl (by omega)) ?_)|refine yyp ?_;try refine Ce ?_ ?_<;>intro hb|refine yy ?_|apply ah;refine Cc Sj ?_|refine Cb λK hK=>?_|apply_assumption -exfalso -symm)
   have hrow:List.take (0+i) (List.map D.str L)++List.replicate (ns.length - i) (D.str ByteArray.empty)++List.drop (0+i+(ns.length - i)) (List.map D.str L)=(L.take i++List.replicate (ns.length - i) ByteArray.empty++L.drop (i+(ns.length - i))).map D.str:=by
    simp only[Eu,Ar,Ek,List.map_drop,List.map_replicate]
   rw[hrow];refine j1 (ja6 ⟨_,⟨?_,?_⟩,?_,rfl⟩)
   ·rw[<-hil];simp only[Ag,Ak];omega
   ·rw[<-hil,Ea,List.take_append_of_le_length (by rw[Ak];omega),List.take_take,Nat.min_self,ht]
   ·rw[<-hil];rfl
end Al
end
end Go.Proofs.YtklklgfpkpglgaaGreatDoor
