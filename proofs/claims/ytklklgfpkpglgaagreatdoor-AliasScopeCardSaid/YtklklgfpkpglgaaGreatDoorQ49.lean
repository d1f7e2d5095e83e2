/- Parts. -/
import Derived.Test.YtklklgfpkpglgaaGreatDoorQ48
set_option linter.all false
set_option maxRecDepth 100000
set_option maxHeartbeats 0
namespace Go.Proofs.YtklklgfpkpglgaaGreatDoor
open Go.RowKit Go.Proofs.Tryz Sc
variable (gl:List (Nat × List D))
section
def Wn:List Nat:=[0,1,2,3,4,5,6,7]
open Go.RowKit Go.Sort
variable {mm:Int}
theorem mp9 (q k:Nat)(l:List ByteArray):
 FnE prog gl 33 [.own q k] [(q,.row 9 1 false (l.map .str) k)]
  (λv H1=>v=.win q k 0 (Lib.compact (kp3 l)).length/\H1=[(q,.row 9 1 false (((Lib.compact (kp3 l)++List.replicate (l.length - (Lib.compact (kp3 l)).length) []).map Sc.toB).map .str) k)]):=by
 intro w M β us hM hus ho hg;simp only[Cs]at hus;obtain⟨v,r,rfl,hv,rfl⟩:=hus;have hl0:look q [(q,Ob.row 9 1 false (l.map .str) k)]=some (.row 9 1 false (l.map .str) k):=by rw[j6,Ad rfl]
 have hv':v=(β q).v:=hv 9 1 false _ hl0;subst hv';obtain⟨ys,h3,h4⟩:=ho.obs q _ hl0;rw[ji6]at h4;subst h4;rw[Ab]at h3;obtain⟨c,hc⟩:∃ c,c=Lib.compact (kp3 l):=⟨_,rfl⟩;have hcl:c.length<=l.length:=by rw[hc,<-l7 l];exact Lib.compact_length_le _
 rw[<-hc];obtain⟨m,hm⟩:∃ m,m=(c++List.replicate (l.length - c.length) []).map Sc.toB:=⟨_,rfl⟩;rw[<-hm];have hlen:m.length=l.length:=by
  rw[hm,Ab,Ag,Ff];omega
 have hpre:m.take c.length=c.map Sc.toB:=by
  rw[hm,<-Fc,List.take_left'];rfl
 have fin:∀ w' x,w.grownBy w' (β q).v.ownBlock->w'.ownsRow 0 9 1 (β q).v l.length (m.map .string)->(∀ a n cp,(β q).v=.slice a n cp->x=.slice a c.length cp)->∃ (v:V) (x':Value) (H1:List (Nat × Ob)) (β1:Nat->Hd),(v=.win q k 0 c.length/\H1=[(q,.row 9 1 false (m.map .str) k)])/\Na [(q,.row 9 1 false (l.map .str) k)] H1 v=true/\Ending.returned x=.returned x'/\Frm (kp2 β [(q,.row 9 1 false (l.map .str) k)]) w w'/\(∀ n,(look n [(q,Ob.row 9 1 false (l.map .str) k)]).isSome=true->(β1 n).v=(β n).v)/\
  (∀ n ob b,look n H1=some ob->own (β1 n) ob b->b∈kp2 β [(q,.row 9 1 false (l.map .str) k)]\/w.heap.size<=b)/\Obs w' M β1 H1/\Dc w' (Mut M β1 H1) β1 H1 v x':=λw' x g1 g2 g3=>by
  obtain⟨t1,t2,t3⟩:=ka7 (sh':=false) hlen ho hM g1 g2;refine⟨_,x,_,β,⟨rfl,rfl⟩,?_,rfl,t1,λ_ _=>rfl,t2,t3,?_⟩
  ·simp[Na,kv2,kv1,kc7,kc6,j6,Ob.cells,jd8,V.within]
  ·intro e sz sh xs hlk;obtain⟨_,hrow⟩:=n5 hlk;rcases g2.2 with ⟨e1,e2⟩|⟨g,cap,cur,e1,e2,e3,e4,e5,e6,e7⟩
   ·have hc0:c.length=0:=by omega
    exact⟨none,0,0,none,0,e1,by omega,g3 _ _ _ e1,by omega,λh=>absurd hc0 h,Ak _,λ_=>rfl⟩
   ·refine⟨some ⟨g,0,none⟩,l.length,cap,some ⟨g,0,none⟩,cap,e1,by omega,g3 _ _ _ e1,by omega,λ_=>?_,e5,λh=>by cases h⟩;simp[jg4]
 rcases h3.2 with ⟨e1,e2⟩|⟨g,cap,cur,e1,e2,e3,e4,e5,e6,e7⟩
 ·have hc0:c.length=0:=by omega
  rw[e1]at fin ⊢;refine(Tryz.slices_Compact_string_empty none 0 w).mono ?_;rintro en w' ⟨rfl,rfl⟩;refine fin _ _ ⟨rfl,rfl,rfl,Ap _,λ_ _ _=>rfl⟩ ⟨by rw[Ab,hlen];omega,.inl ⟨rfl,e2⟩⟩ λa n cp h=>?_;cases h;rw[hc0]
 ·rw[e1]at fin ⊢;rw[Nat.mul_one,<-jr5,<-l7 l]at e7;have hh:=holds_of_block e3 e7;have hs:=Tryz.slices_Compact_string g 0 cap (kp3 l) w hh (by rw[l7];have:maxLen=9223372036854775807:=rfl;omega) (by rw[l7];exact e4);rw[l7,<-hc]at hs;refine hs.mono ?_;rintro en w' ⟨rfl,n,rfl⟩;have hts:(c++List.replicate (l.length - c.length) []).length=(kp3 l).length:=by
   rw[l7,Ag,Ff];omega
  have h5:=ownsRow_sorted (ss:=kp3 l) (ts:=c++List.replicate (l.length - c.length) []) (n:=n) (os:=#[]) (base:=0) hts e2 e3 (by rw[l7];exact e4) e5 e6;have h6:=grownBy_sorted (w:=w) (g:=g) (n:=n) (os:=#[]) (c++List.replicate (l.length - c.length) []).toArray;have hgr:∀ u:World,grow u #[]=u:=grow_empty;rw[hgr]at h5 h6;have h7:List.map encStr (c++List.replicate (l.length - c.length) [])=m.map Value.string:=by rw[hm,<-jr5,kf4]
  rw[l7,h7]at h5;refine fin _ _ h6 h5 λa n cp h=>?_;cases h;rfl
attribute [local irreducible] TR TC
theorem rj3 (p:Pr)(hm:Lx.Gq p=true):FnE prog (glS mm) 10 [.d (dPr p)] [] (λv H1=>∃ rest:List ByteArray,True/\v=.tup [.win 951 0 0 (Cy p).length,.d (.int .i64 0)]/\H1=[(951,.row 9 1 false ((Cy p++rest).map .str) 0)]):=by
 have c1:=kx8 (mm:=mm) p;have hcan:=Rk hm;have hfit:=hcan.fit0;have c2:=jk0 (glS mm) .free [];have c3:=kf3 (mm:=mm) .free _ p (Ap _) hcan.ok hcan.cap (Sc.start []) hfit;have hg:=Nb p (Sc.start []);obtain⟨r,hr⟩:∃ r,r=Fz (Sc.start []) p:=⟨_,rfl⟩;have hF:Cy p=Sc.once (Ho r.2.ev):=by rw[hr];rfl
 rw[<-hr]at c3 hg;have he:=hg.ev;have hroom:=hfit.room;have hlen:=Le r.2.ev;unfold W.room at hroom;have c4:=qm3 (glS mm) 951 0 (Ho r.2.ev) (by omega);have c5:=mp9 (glS mm) 951 0 ((Jw (Ho r.2.ev)).map Sc.toB);rw[Ui,Av,Ov,<-hF]at c5;have hcl:(Lib.compact (Jw (Ho r.2.ev))).length=(Cy p).length:=by
  rw[hF,<-Ov,Ab]
 rw[hcl]at c5;generalize (List.replicate (((Jw (Ho r.2.ev)).map Sc.toB).length - (Cy p).length) ([]:List UInt8)).map Sc.toB=rest at c5;rw[hm]at c1;dsimp only[HW,je0,jb3,Sc.start,Ho,Bj]at c2 c3;clear hr hg he hroom hlen hfit hcan hF hcl;rw[v7]at c1 c3 ⊢
 (refine j3 func10 ntmps10 results10 λw M E b0=>?_)
 ((repeat' first|apply Ca 1;(refine Ck 1001 ?_)|apply Ca 4;(refine j2 903 ?_)|apply Cg 4;refine halt ?_|refine yyp ?_;try refine Ce ?_ ?_<;>intro hb|refine yy ?_|apply Cf 28;refine Ci (hc:=c1) ?_;try refine Ce ?_ ?_<;>intro hb|apply ah;refine Cc Wn ?_|refine Cb λK hK=>?_|apply_assumption -exfalso -symm);all_goals try refine unhalt ?_)
 refine kh4 903 951 0 (e:=9) (sz:=1) rfl rfl rfl ?_;refine jl3 (kr1 951 rfl) ?_;refine jl3 (ka2 (n:=903) (q:=951) (i:=0) rfl rfl rfl rfl (by(repeat (first|exact Drop.nil|apply Drop.drop rfl|apply Drop.take rfl));fail_if_success intros) rfl) ?_
 ((repeat' first|apply Ca 9;refine Ch (hc:=c2) ?_|apply Ca 11;refine Ch (hc:=c3) ?_|apply Cg 5;refine halt ?_|refine yyp ?_|apply ah;refine Cc Wn ?_|refine Jd ?_ ?_|(apply Iz (x:=.region 4 _ _);focus ((apply Cg 4;refine j0 [1,3] q0o ?_);(repeat' (first|apply Ca 1;(refine Ck 1001 ?_)));(all_goals first|exact Wk.refl _ _|exact v6);done))|refine Cb λK hK=>?_|apply Cg 4;refine j0 [1,3] q0o ?_|apply_assumption -exfalso -symm);all_goals try refine unhalt ?_)
 all_goals (refine jl3 (jt8 (n:=903) (q:=951) rfl rfl) ?_)
 all_goals (repeat' first|apply Ca 13;refine Ch (hc:=c4) ?_|apply Ca 15;refine Ch (hc:=c5) ?_|refine yyp ?_|refine yy ?_|apply ah;refine Cc Wn ?_|refine Cb λK hK=>?_|apply Cg 4;refine j0 [] (lin [0,9,6,14]) ?_|apply_assumption -exfalso -symm)
 all_goals exact j1 (ja3 ⟨rest,trivial,rfl,rfl⟩)
namespace Al
theorem va0 (Ks ns rest:List ByteArray)(hn:ns.length<=1000000000):FnE prog gl 40 [.map 901,.win 951 0 0 ns.length] [(901,.map (Dl Ks) (Dn Ks)),(951,.row 9 1 false ((ns++rest).map .str) 0)] (λv H1=>v=.tup []/\H1=[(901,.map (Dl (Ic Ks ns)) (Dn (Ic Ks ns))),(951,.row 9 1 false ((ns++rest).map .str) 0)]):=by
 (refine j3 func40 ntmps40 results40 λw M E b0=>?_)
 (repeat' first|apply Ca 7;(refine z_p (je7 rfl rfl rfl) ?_)|refine yyp ?_;try refine Ce ?_ ?_<;>intro hb|refine yy ?_|apply ah;refine Cc [0,1,5,6,7,8,9] ?_|refine Cb λK hK=>?_|apply_assumption -exfalso -symm)
 refine k9 [5,8,9,10,11,12,13,14] [901] (λj:Nat=>[(8,.d (.int .i64 j))]) (λj=>[(901,.map (Dl (Ic Ks (ns.take j))) (Dn (Ic Ks (ns.take j))))]) (λj=>j<=ns.length) (λj=>ns.length - j) 0 (Ak _) λj hj=>?_;dsimp only[Ac,Ae];rcases Ai j ns.length with hj2|hj2
 ·have hget:((ns++rest).map D.str)[0+j]? =some (.str ns[j]):=by rw[Es,Bp,En hj2,Ar hj2];rfl
  (repeat' first|apply Ca 10;(refine z_p (Ie (i:=j) rfl rfl rfl rfl rfl rfl hj2) ?_)|apply Ca 11;(refine z_q (jc8 rfl rfl rfl hget (by first|exact Fv.agg _|constructor) rfl) ?_)|refine ke4 2 ?_;(refine kz3 ?_)|refine yyp ?_;try refine Ce ?_ ?_<;>intro hb|refine yy ?_|apply ah;refine Cc [0,1,5,6,7,8,9] ?_|refine Cb λK hK=>?_|apply_assumption -exfalso -symm)
  refine⟨j+1,by omega,by omega,?_⟩;rw[mi2 hj2];exact v6
 ·(repeat' first|refine yyp ?_;try refine Ce ?_ ?_<;>intro hb|refine yy ?_|apply ah;refine Cc [0,1,5,6,7,8,9] ?_|refine Cb λK hK=>?_|apply_assumption -exfalso -symm)
  rw[Ba hj2];exact ji3 ⟨rfl,rfl⟩
open Lx Sc
theorem ma7 {p:Pr}(h:Gq p=true):(Cy p).length<=1000000000:=by
 obtain⟨h1,h2⟩:=je8 h;have h3:=ky0 p h1;have hg:=(Nb p (Sc.start [])).ev;have hlen:=Le (Fz (Sc.start []) p).2.ev;have ho:=ky2 (Ho (Fz (Sc.start []) p).2.ev);have hs:(Sc.start []).ev.length=0:=rfl;unfold Cy;omega
structure NewLite (p q:Pr):Prop where
 may:Gq p=true
 mayq:Gq q=true
 un:Yn p=q
theorem jy7 {p:Pr}(h:Gn p=0):NewLite p (Dg p):=by
 obtain⟨hm,hc⟩:=mu7 h;have hnew:=qo1 p (Sc.start (Di p)) (λs x hx=>by cases hx) (Eu 0) (mu6 hm) (je8 hm).1;refine⟨hm,rg2 hnew.1 hm,?_⟩;unfold Yn;rw[Ad ⟨hm,hc⟩]
noncomputable def w0 (p:Pr):Wd:=⟨Ic [] (Cy p),[],[]⟩
theorem qu2 {p:Pr}(hm:Gq p=true)(hc:(Ja p (Cy p)).2=0):isR (rk (Sc.start (Di p)).has) (Dg p):=by
 have hev:=ks7 _ _ hc;refine qs5 p (Sc.start (Di p)) (je8 hm).1 (λs x hx=>by cases hx) (Eu 0) rfl λs hs=>?_;rw[Rh (Di p) []]at hs;rw[jx3];left;rw[ky4];exact hs
theorem ma8 (p:Pr)(h0:Gn p=0):FnE prog (glS mm) 23 [.d (dPr p)] [] (λv H1=>∃ x:List ByteArray × Wd,(Sim x.2 (z1 (w0 p) (Dg p))/\Kz (rk (Sc.start (Di p)).has) x.2)/\v=.tup [.ptr 900 0,.d (dPr (Dg p)),.win 951 0 0 (Cy p).length,.d (.int .i64 0)]/\H1=(951,.row 9 1 false ((Cy p++x.1).map .str) 0)::HA x.2):=by
 obtain⟨hm,hc⟩:=mu7 h0;have na:=jy7 h0;have hrk:=qu2 hm hc;have hR0:Kz (rk (Sc.start (Di p)).has) (w0 p):=λx hx=>by cases hx
 have c1:=ks1 (mm:=mm) p;rw[h0,na.un]at c1;have c2:=rj3 (mm:=mm) p hm;have c3:=λrest=>va0 (glS mm) [] (Cy p) rest (ma7 hm);have c4:=qu0 (glS mm) (r:=rk (Sc.start (Di p)).has) _ (Dg p) (Ap _) hrk (je8 na.mayq).1 (w0 p) hR0;simp only[v7]at c1 c2 c4 ⊢;dsimp only[HA,w0,Dl,Dn,Me,Mt,Bj]at c3 c4 ⊢
 (refine j3 func23 ntmps23 results23 λw M E b0=>?_)
 (repeat' first|apply Ca 1;(refine Ck 1 ?_)|apply Ca 3;(refine j2 3 ?_)|apply Ca 6;(refine j2 6 ?_)|apply Ca 22;(refine Fy (hc:=c2) ?_;rintro rest _)|apply Ca 25;(refine Ir 901 ?_)|apply Ca 26;(refine Ir 902 ?_)|apply Ca 27;(refine Ir 903 ?_)|apply Ca 29;(refine Ck 900 ?_)|apply Ca 35;refine Ch (hc:=c3 rest) ?_|apply Ca 38;(refine Fy (hc:=c4) ?_;rintro ω hω)|refine yyp ?_|refine yy ?_|apply Cf 12;refine Ci (hc:=c1) ?_|apply ah;refine Cc [0,1,2,3,4,5,6,7,8,10,17,45] ?_|refine Cb λK hK=>?_|apply Cg 3;refine j0 [3] (lin [4,8,1,15,16,20]) ?_|apply Cg 8;refine j0 [4] (lin [0,8,12,5,19,20,24]) ?_|apply_assumption -exfalso -symm)
 exact j1 (ja3 ⟨(rest,ω),⟨hω,kg2 hω hR0 hrk⟩,rfl,rfl⟩)
theorem kn7 (p:Pr)(h0:Gn p≠0):FnE prog (glS mm) 23 [.d (dPr p)] [] (λv H1=>v=.tup [.d (.raw (.pointer none)),.d (dPr p),.nils 1,.d (.int .i64 (Gn p))]/\H1=[]):=by
 have c1:=ks1 (mm:=mm) p;simp only[v7]at c1 ⊢
 (refine j3 func23 ntmps23 results23 λw M E b0=>?_)
 (repeat' first|apply Ca 1;(refine Ck 1 ?_)|apply Ca 3;(refine j2 3 ?_)|apply Ca 6;(refine j2 6 ?_)|refine yyp ?_;try refine Ce ?_ ?_<;>intro hb|refine yy ?_|apply Cf 12;refine Ci (hc:=c1) ?_|apply ah;refine Cc [0,1,2,3,4,5,6,7,8,10,17,45] ?_|refine Cb λK hK=>?_|apply Cg 3;refine j0 [3] (lin [4,8,1,15,16,20]) ?_|apply Cg 8;refine j0 [4] (lin [0,8,12,5,19,20,24]) ?_|apply_assumption -exfalso -symm)
 all_goals first
  |(exfalso;omega)
  |exact j1 (ja3 ⟨rfl,rfl⟩)
end Al
end
section
def Ux:List Nat:=[0,1,2,3,4,5,6,7,8,17,26]
variable {mm:Int}
namespace Al
open Lx Sc
attribute [local irreducible] TR TC
theorem qu3 (p:Pr)(h0:Gn p=0):FnD prog (glS mm) 13 [.d (dPr p)] (λv=>∃ n:ByteArray,∃ ω,Sim ω (z1 (w0 p) (Dg p))/\(brB ω (Dg p)=true->Nm ω p (Dg p) n)/\v=.tup [.d (.str (if brB ω (Dg p)=true then n else ByteArray.empty)),.d (.int .i64 (if brB ω (Dg p)=true then 150 else 0))]):=by
 have na:=jy7 h0;have hnew:=qo1 p (Sc.start (Di p)) (λs x hx=>by cases hx) (Eu 0) (mu6 na.may) (je8 na.may).1;have c1:=ma8 (mm:=mm) p h0;have c2:=λ(ω:Wd) (h:Rank ω.is)=>vk2 (glS mm) ω h _ p (Dg p) (Ap _) hnew.1 (je8 na.may).1 (je8 na.mayq).1;simp only[v7]at c1 c2 ⊢;dsimp only[HA]at c1 c2
 (refine j4 func13 ntmps13 results13 λw M=>?_)
 ((repeat' first|apply Ca 1;(refine Ck 1 ?_)|apply Ca 11;(refine Fy (hc:=c1) ?_;rintro⟨rest,ω⟩ ⟨hω,hR⟩)|apply Ca 5;(refine j2 5 ?_)|apply Cg 4;refine halt ?_|refine yyp ?_|refine yy ?_|apply ah;refine Cc Ux ?_|refine Cb λK hK=>?_|apply_assumption -exfalso -symm);all_goals try refine unhalt ?_)
 have c3:=c2 ω hR.rank;cases hb:brB ω (Dg p) with
 |true=>
  rw[hb]at c3
  (repeat' first|apply Ca 23;(refine Fy (hc:=c3) ?_;rintro n hn)|refine yyp ?_;try refine Ce ?_ ?_<;>intro hb|refine yy ?_|apply ah;refine Cc Ux ?_|refine Cb λK hK=>?_|apply_assumption -exfalso -symm)
  refine j1 (j7 ⟨n,ω,hω,λ_=>hn rfl,?_⟩);rw[hb];rfl
 |false=>
  rw[hb]at c3
  (repeat' first|apply Ca 23;(refine Fy (hc:=c3) ?_;rintro n hn)|refine yyp ?_;try refine Ce ?_ ?_<;>intro hb|refine yy ?_|apply ah;refine Cc Ux ?_|refine Cb λK hK=>?_|apply_assumption -exfalso -symm)
  refine j1 (j7 ⟨n,ω,hω,(λh=>by rw[hb]at h;cases h),?_⟩);rw[hb];rfl
theorem qd8 (p:Pr)(h0:Gn p≠0):FnD prog (glS mm) 13 [.d (dPr p)] (λv=>v=.tup [.d (.str ByteArray.empty),.d (.int .i64 (Gn p))]):=by
 have c1:=kn7 (mm:=mm) p h0;simp only[v7]at c1 ⊢
 (refine j4 func13 ntmps13 results13 λw M=>?_)
 (repeat' first|apply Ca 1;(refine Ck 1 ?_)|apply Ca 11;refine Ch (hc:=c1) ?_|apply Ca 5;(refine j2 5 ?_)|refine yyp ?_;try refine Ce ?_ ?_<;>intro hb|refine yy ?_|apply ah;refine Cc Ux ?_|refine Cb λK hK=>?_|apply_assumption -exfalso -symm)
 all_goals first
  |(exfalso;omega)
  |(refine j1 (j7 ?_)
    rfl)
end Al
end
section
def Uy:List Nat:=[0,1,4,5,6,7,8,9,16]
section
variable {E:Set}{Q:Exit->Sd->Prop}{ops:Array Oper}{draw:Bool}{rest:Todo}{way:Ji}{ty:TypeId}{pos:String}{af:Array Edge}{gd:Option (Nat × Bool)}
theorem qu4 {S S':Sd}{o:Oper}{v:V}(hq:Xt E S o S' v)(hdst:o.dst=none)(hg:S.gd ops o=some true)(hdf:p9 o=false)(hw:Jv draw way=true)(h:TR E draw ops Q rest S'):TR E draw ops Q (.step o way rest) S:=λa w hS=>by
 have hS0:=hS;have key:∀ w1,aG w w1->∀ K:Act->World->Prop,(∀ a2 w2,St E.C S' a2 w2->K a2 w2)->o.wp E.P a w1 K (Qof E.C Q):=λw1 g K hK=>by
  obtain⟨β,hB⟩:=hS.later g;obtain⟨x,w',β',h1,h2,h3⟩:=hq.out β a w1 hB;refine p8 h1 (hK _ _ ?_);rw[hdst];exact⟨β',h2⟩
 cases draw with
 |true=>
  dsimp only;cases way with
  |pure=>cases hw
  |quiet=>cases hw
  |grow=>cases hw
  |bar=>
   simp only[x5];intro n;rw[Sd.Dv hS0 hg,Ad rfl];exact key n.w n.grows _ λa2 w2 hs2=>h _ _ hs2
 |false=>exact l5 hS0 hg hdf λK hK=>key w (aG.refl w) K λa2 w2 hs2=>hK _ _ (h _ _ hs2)
variable {env:List (Nat × V)}{H:List (Nat × Ob)}{gl:List (Nat × List D)}
theorem qu5 {t n k p m e:Nat}{x:Operand}{xs:List D}{z:D}[ht:aK E.P t e 1][hz:Py E.P e z](h:TR E draw ops Q rest ⟨env,(n,.row e 1 false (xs.take p++List.replicate m z++xs.drop (p+m)) k)::H,gl⟩)(hs:z.scalar=true:=by exact rfl)(hx:Sd.ev ⟨env,H,gl⟩ x=some (.win n k p m):=by exact rfl)(hox:Cm x=true:=by exact rfl)(hl:look n H=some (.row e 1 false xs k):=by exact rfl)(hle:p+m<=xs.length)
 (hg:Sd.gd ⟨env,H,gl⟩ ops ⟨none,.call {callee:=.builtin .clear,args:=#[x],argTypes:=#[t]},ty,pos,af,gd⟩=some true:=by exact rfl) (hw:Jv draw way=true:=by exact rfl):
 TR E draw ops Q (.step ⟨none,.call {callee:=.builtin .clear,args:=#[x],argTypes:=#[t]},ty,pos,af,gd⟩ way rest) ⟨env,H,gl⟩:=qu4 (mn2 hs hx hox hl hle) rfl hg rfl hw h
end
namespace Al
def vu0 (A ns:List ByteArray)(k:Int):Prop:=(k=-1/\∀ s∈ns,s∈A)\/∃ i:Nat,k=i/\i<ns.length/\(∀ h:i<ns.length,ns[i]∉A)/\∀ s∈ns.take i,s∈A
attribute [local irreducible] TR TC
theorem mj7 (A:List ByteArray)(s:ByteArray):FnE prog gl 26 [.d (.str s),.ptr 1007 0] [(1007,.box [.d (.map (Dl A) (Dn A))])] (λv H1=>v=.d (.bool (!decide (s∈A)))/\H1=[(1007,.box [.d (.map (Dl A) (Dn A))])]):=by
 (refine j3 func26 ntmps26 results26 λw M E b0=>?_)
 (repeat' first|apply Ca 6;(refine jm2 (λhin=>?_) (λhin=>?_))|refine yyp ?_|refine yy ?_|apply ah;refine Cc [0,1,3,4,5,6] ?_|refine Cb λK hK=>?_|apply_assumption -exfalso -symm)
 ·(refine j1 (j8 ⟨?_,rfl⟩))
  rw[Bm hin];rfl
 ·(refine j1 (j8 ⟨?_,rfl⟩))
  rw[Bl hin];rfl
theorem va1 (A ns rest:List ByteArray)(hn:ns.length<=1000000000):FnE prog gl 44 [.win 951 0 0 ns.length,.clo (.func 26) [] [.ptr 1007 0]] [(951,.row 9 1 false ((ns++rest).map .str) 0),(1007,.box [.d (.map (Dl A) (Dn A))])] (λv H1=>∃ k:Int,vu0 A ns k/\v=.d (.int .i64 k)/\H1=[(951,.row 9 1 false ((ns++rest).map .str) 0),(1007,.box [.d (.map (Dl A) (Dn A))])]):=by
 (refine j3 func44 ntmps44 results44 λw M E b0=>?_)
 (repeat' first|apply Ca 7;(refine z_p (je7 rfl rfl rfl) ?_)|refine yyp ?_;try refine Ce ?_ ?_<;>intro hb|refine yy ?_|apply ah;refine Cc Uy ?_|refine Cb λK hK=>?_|apply_assumption -exfalso -symm)
 refine k9 [4,5,8,9,10,11,12,13,14,15,16,17,18] [] (λj:Nat=>[(8,.d (.int .i64 j))]) (λ_=>[]) (λj=>j<=ns.length/\∀ s∈ns.take j,s∈A) (λj=>ns.length - j) 0 ⟨Ak _,by simp⟩ λj ⟨hj,hin⟩=>?_;dsimp only[Ac,Ae];rcases Ai j ns.length with hj2|hj2
 ·have hget:((ns++rest).map D.str)[0+j]? =some (.str ns[j]):=by rw[Es,Bp,En hj2,Ar hj2];rfl
  have c1:=mj7 gl A ns[j];by_cases hm:ns[j]∈A
  ·rw[Bm hm]at c1
   (repeat' first|apply Ca 14;(refine z_p (Ie (i:=j) rfl rfl rfl rfl rfl rfl hj2) ?_)|apply Ca 15;(refine z_q (jc8 rfl rfl rfl hget (by first|exact Fv.agg _|constructor) rfl) ?_)|apply Ca 16;refine Ch (hc:=c1) ?_;try refine Ce ?_ ?_<;>intro hb|refine yyp ?_;try refine Ce ?_ ?_<;>intro hb|refine yy ?_|apply ah;refine Cc Uy ?_|refine Cb λK hK=>?_|apply_assumption -exfalso -symm)
   refine⟨j+1,⟨by omega,λs hs=>?_⟩,by omega,v6⟩;rw[An hj2,Au,Bs]at hs;rcases hs with hs|rfl
   ·exact hin s hs
   ·exact hm
  ·rw[Bl hm]at c1
   (repeat' first|apply Ca 14;(refine z_p (Ie (i:=j) rfl rfl rfl rfl rfl rfl hj2) ?_)|apply Ca 15;(refine z_q (jc8 rfl rfl rfl hget (by first|exact Fv.agg _|constructor) rfl) ?_)|apply Ca 16;refine Ch (hc:=c1) ?_;try refine Ce ?_ ?_<;>intro hb|refine yyp ?_;try refine Ce ?_ ?_<;>intro hb|refine yy ?_|apply ah;refine Cc Uy ?_|refine Cb λK hK=>?_|apply_assumption -exfalso -symm)
   exact j1 (j8 ⟨(j:Nat),.inr ⟨j,rfl,hj2,λ_=>hm,hin⟩,rfl,rfl⟩)
 ·rw[Ba hj2]at hin
  (repeat' first|refine yyp ?_;try refine Ce ?_ ?_<;>intro hb|refine yy ?_|apply ah;refine Cc Uy ?_|refine Cb λK hK=>?_|apply_assumption -exfalso -symm)
  exact j1 (j8 ⟨-1,.inl ⟨rfl,hin⟩,rfl,rfl⟩)
end Al
end
section
def Ry:List Nat:=[0,1,4,5,6,7,12,19,29]
namespace Al
noncomputable def je6 (A ns:List ByteArray):List ByteArray:=ns.filter λs=>decide (s∈A)
theorem jl0 {A ns:List ByteArray}(h:∀ s∈ns,s∈A):je6 A ns=ns:=List.filter_eq_self.2 λs hs=>by simpa using h s hs
theorem kn8 {A ns:List ByteArray}{j:Nat}(hj:j<ns.length):je6 A (ns.take (j+1))=je6 A (ns.take j)++(if ns[j]∈A then [ns[j]] else []):=by
 unfold je6;rw[An hj,List.filter_append];congr 1;split
 ·rename_i h;simp[h]
 ·rename_i h;simp[h]
structure Rb (A ns rest:List ByteArray)(j i:Nat)(L:List ByteArray):Prop where
 lt:i<j
 le:j<=ns.length
 len:L.length=(ns++rest).length
 take:L.take i=je6 A (ns.take j)
 drop:L.drop j=(ns++rest).drop j
theorem Rb.get {A ns rest L:List ByteArray}{j i:Nat}(h:Rb A ns rest j i L)(hj:j<ns.length):L[j]? =some ns[j]:=by
 have h1:(L.drop j)[0]? =((ns++rest).drop j)[0]? :=by rw[h.drop]
 rw[Eo,Eo,Nat.add_zero,En hj,Ar hj]at h1;exact h1
theorem Rb.yes {A ns rest L:List ByteArray}{j i:Nat}(h:Rb A ns rest j i L)(hj:j<ns.length)(hm:ns[j]∈A):Rb A ns rest (j+1) (i+1) (L.set i ns[j]):=by
 have h1:=h.lt;have h2:=h.len;have h3:i<L.length:=by rw[h2,Ag];omega
 refine⟨by omega,by omega,by rw[List.length_set];exact h2,?_,?_⟩
 ·rw[kn8 hj,Ad hm,<-h.take];apply Fm;intro k;simp only[Et,List.getElem?_set,List.getElem?_append,Aq]
  grind
 ·rw[List.drop_set_of_lt (by omega),<-List.drop_drop,h.drop,List.drop_drop]
theorem Rb.no {A ns rest L:List ByteArray}{j i:Nat}(h:Rb A ns rest j i L)(hj:j<ns.length)(hm:ns[j]∉A):Rb A ns rest (j+1) i L:=by
 have h1:=h.lt;refine⟨by omega,by omega,h.len,?_,?_⟩
 ·rw[kn8 hj,Af hm,Ey,h.take]
 ·rw[<-List.drop_drop,h.drop,List.drop_drop]
theorem Rb.start {A ns:List ByteArray}(rest:List ByteArray){i:Nat}(hi:i<ns.length)(h1:ns[i]∉A)(h2:∀ s∈ns.take i,s∈A):Rb A ns rest (i+1) i (ns++rest):=by
 refine⟨by omega,by omega,rfl,?_,rfl⟩;rw[kn8 hi,Af h1,Ey,jl0 h2,List.take_append_of_le_length (by omega)]
attribute [local irreducible] TR TC
theorem vk3 (A ns rest:List ByteArray)(hn:ns.length<=1000000000):FnE prog gl 25 [.win 951 0 0 ns.length,.clo (.func 26) [] [.ptr 1007 0]] [(951,.row 9 1 false ((ns++rest).map .str) 0),(1007,.box [.d (.map (Dl A) (Dn A))])] (λv H1=>∃ L:List ByteArray,((je6 A ns).length<=L.length/\L.take (je6 A ns).length=je6 A ns)/\v=.win 951 0 0 (je6 A ns).length/\H1=[(951,.row 9 1 false (L.map .str) 0),(1007,.box [.d (.map (Dl A) (Dn A))])]):=by
 have c1:=va1 gl A ns rest hn
 (refine j3 func25 ntmps25 results25 λw M E b0=>?_)
 ((repeat' first|apply Ca 10;(refine Fy (hc:=c1) ?_;rintro kx hkx)|apply Cg 2;refine halt ?_|refine yyp ?_;try refine Ce ?_ ?_<;>intro hb|refine yy ?_|apply ah;refine Cc Ry ?_|refine Cb λK hK=>?_|apply_assumption -exfalso -symm);all_goals try refine unhalt ?_)
 rcases hkx with ⟨rfl,hall⟩|⟨i0,rfl,hi0,hni,htk⟩
 ·(repeat' first|refine yyp ?_;try refine Ce ?_ ?_<;>intro hb|refine yy ?_|apply ah;refine Cc Ry ?_|refine Cb λK hK=>?_|apply_assumption -exfalso -symm)
  refine j1 (ja3 ⟨ns++rest,⟨?_,?_⟩,?_,rfl⟩)
  ·rw[jl0 hall];simp
  ·rw[jl0 hall];simp
  ·rw[jl0 hall];rfl
 ·have hst:=Rb.start rest hi0 (hni hi0) htk
  (repeat' first|refine yyp ?_;try refine Ce ?_ ?_<;>intro hb|refine yy ?_|apply ah;refine Cc Ry ?_|refine Cb λK hK=>?_|apply_assumption -exfalso -symm)
  refine k9 [5,6,7,16,17,18,19,20,21,22,23,24,25,26,27,28,29,30,31,32,33,34,35] [951] (λx:Nat × Nat × List ByteArray=>[(6,.d (.int .i64 x.1)),(5,.d (.int .i64 x.2.1))]) (λx=>[(951,.row 9 1 false (x.2.2.map .str) 0)]) (λx=>Rb A ns rest x.1 x.2.1 x.2.2) (λx=>ns.length - x.1) (i0+1,i0,ns++rest) hst λ⟨j,i,L⟩ hP=>?_;dsimp only[Ac,Ae]at hP ⊢;have q1:=hP.lt;have q2:=hP.le;have q3:=hP.len;rw[Ag]at q3;rcases Ai j ns.length with hj2|hj2
  ·have hget:(L.map D.str)[0+j]? =some (.str ns[j]):=by rw[Es,Bp,hP.get hj2];rfl
   have c2:=mj7 gl A ns[j];by_cases hm:ns[j]∈A
   ·rw[Bm hm]at c2
    (repeat' first|apply Ca 18;(refine z_p (je7 rfl rfl rfl) ?_)|apply Ca 24;(refine z_p (Ie (i:=j) rfl rfl rfl rfl rfl rfl hj2) ?_)|apply Ca 25;(refine z_q (jc8 rfl rfl rfl hget (by first|exact Fv.agg _|constructor) rfl) ?_)|apply Ca 28;refine Ch (hc:=c2) ?_;try refine Ce ?_ ?_<;>intro hb|apply Ca 33;(refine z_p (Ie (i:=i) rfl rfl rfl rfl rfl rfl (by omega)) ?_)|refine yyp ?_;try refine Ce ?_ ?_<;>intro hb|refine yy ?_|apply ah;refine Cc Ry ?_|refine Cb λK hK=>?_|apply_assumption -exfalso -symm)
    refine⟨(j+1,i+1,L.set i ns[j]),hP.yes hj2 hm,by dsimp only;omega,?_⟩;dsimp only;rw[List.map_set];simp only[Es];exact v6
   ·rw[Bl hm]at c2
    (repeat' first|apply Ca 18;(refine z_p (je7 rfl rfl rfl) ?_)|apply Ca 24;(refine z_p (Ie (i:=j) rfl rfl rfl rfl rfl rfl hj2) ?_)|apply Ca 25;(refine z_q (jc8 rfl rfl rfl hget (by first|exact Fv.agg _|constructor) rfl) ?_)|apply Ca 28;refine Ch (hc:=c2) ?_;try refine Ce ?_ ?_<;>intro hb|refine yyp ?_;try refine Ce ?_ ?_<;>intro hb|refine yy ?_|apply ah;refine Cc Ry ?_|refine Cb λK hK=>?_|apply_assumption -exfalso -symm)
    exact⟨(j+1,i,L),hP.no hj2 hm,by dsimp only;omega,v6⟩
  ·obtain rfl:j=ns.length:=by omega
   have ht:=hP.take;rw[Bv]at ht;have hil:i=(je6 A ns).length:=by rw[<-ht,Aq];omega
   (repeat' first|apply Ca 18;(refine z_p (je7 rfl rfl rfl) ?_)|apply Ca 38;(refine z_p (ms1 (l:=i) rfl rfl rfl rfl rfl rfl (by omega)) ?_)|refine ke4 3 ?_;(refine qu5 ?_ (hle:=by rw[Ab];omega))|apply Ca 41;(refine z_p (ms3 (l:=i) rfl rfl rfl rfl rfl rfl (by omega)) ?_)|refine yyp ?_;try refine Ce ?_ ?_<;>intro hb|refine yy ?_|apply ah;refine Cc Ry ?_|refine Cb λK hK=>?_|apply_assumption -exfalso -symm)
   have hrow:List.take (0+i) (List.map D.str L)++List.replicate (ns.length - i) (D.str ByteArray.empty)++List.drop (0+i+(ns.length - i)) (List.map D.str L)=(L.take i++List.replicate (ns.length - i) ByteArray.empty++L.drop (i+(ns.length - i))).map D.str:=by
    simp only[Es,Av,Fc,List.map_drop,List.map_replicate]
   rw[hrow];refine j1 (ja3 ⟨_,⟨?_,?_⟩,?_,rfl⟩)
   ·rw[<-hil];simp only[Ag,Aq];omega
   ·rw[<-hil,Eg,List.take_append_of_le_length (by rw[Aq];omega),List.take_take,Nat.min_self,ht]
   ·rw[<-hil];rfl
end Al
end
end Go.Proofs.YtklklgfpkpglgaaGreatDoor
