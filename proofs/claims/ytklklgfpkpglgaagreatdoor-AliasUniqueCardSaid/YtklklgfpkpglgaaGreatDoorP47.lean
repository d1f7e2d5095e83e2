/- Parts: A21, A22, A23, A24. -/
import Derived.Test.YtklklgfpkpglgaaGreatDoorP46
set_option linter.all false
set_option maxRecDepth 100000
set_option maxHeartbeats 16000000
namespace Go.Proofs.YtklklgfpkpglgaaGreatDoor
open Go.RowKit Go.Proofs.Tryz
section
def Uw:List Nat:=[0,1,2,3,4,5,6,7]
open Go.RowKit Go.Sort
variable {mm:Int}
theorem mo7 (gl:List (Nat × List D))(q k:Nat)(l:List ByteArray):
 FnE prog gl 33 [.own q k] [(q,.row 9 1 false (l.map .str) k)]
  (fun v H1=>v=.win q k 0 (Lib.compact (kp5 l)).length/\H1=[(q,.row 9 1 false (((Lib.compact (kp5 l)++List.replicate (l.length - (Lib.compact (kp5 l)).length) []).map Sc.toB).map .str) k)]):=by
 intro w M β us hM hus ho hg;simp only[Cv]at hus;obtain⟨v,r,rfl,hv,rfl⟩:=hus;have hl0:look q [(q,Ob.row 9 1 false (l.map .str) k)]=some (.row 9 1 false (l.map .str) k):=by rw[j5,Ad rfl]
 have hv':v=(β q).v:=hv 9 1 false _ hl0;subst hv';obtain⟨ys,h3,h4⟩:=ho.obs q _ hl0;rw[jj7]at h4;subst h4;rw[Ab]at h3;obtain⟨c,hc⟩:∃ c,c=Lib.compact (kp5 l):=⟨_,rfl⟩;have hcl:c.length<=l.length:=by rw[hc,<-y5 l];exact Lib.compact_length_le _
 rw[<-hc];obtain⟨m,hm⟩:∃ m,m=(c++List.replicate (l.length - c.length) []).map Sc.toB:=⟨_,rfl⟩;rw[<-hm];have hlen:m.length=l.length:=by
  rw[hm,Ab,Ag,Eh];omega
 have hpre:m.take c.length=c.map Sc.toB:=by
  rw[hm,<-Eg,List.take_left'];rfl
 have fin:∀ w' x,w.grownBy w' (β q).v.ownBlock->w'.ownsRow 0 9 1 (β q).v l.length (m.map .string)->(∀ a n cp,(β q).v=.slice a n cp->x=.slice a c.length cp)->∃ (v:V) (x':Value) (H1:List (Nat × Ob)) (β1:Nat->Hd),(v=.win q k 0 c.length/\H1=[(q,.row 9 1 false (m.map .str) k)])/\Np [(q,.row 9 1 false (l.map .str) k)] H1 v=true/\Ending.returned x=.returned x'/\Frm (mb5 β [(q,.row 9 1 false (l.map .str) k)]) w w'/\(∀ n,(look n [(q,Ob.row 9 1 false (l.map .str) k)]).isSome=true->(β1 n).v=(β n).v)/\
  (∀ n ob b,look n H1=some ob->own (β1 n) ob b->b∈mb5 β [(q,.row 9 1 false (l.map .str) k)]\/w.heap.size<=b)/\Obs w' M β1 H1/\Dp w' (Mut M β1 H1) β1 H1 v x':=fun w' x g1 g2 g3=>by
  obtain⟨t1,t2,t3⟩:=kc2 (sh':=false) hlen ho hM g1 g2;refine⟨_,x,_,β,⟨rfl,rfl⟩,?_,rfl,t1,fun _ _=>rfl,t2,t3,?_⟩
  ·simp[Np,mj6,mj5,kp4,kf9,j5,Ob.cells,jf3,V.within]
  ·intro e sz sh xs hlk;obtain⟨_,hrow⟩:=jo3 hlk;rcases g2.2 with ⟨e1,e2⟩|⟨g,cap,cur,e1,e2,e3,e4,e5,e6,e7⟩
   ·have hc0:c.length=0:=by omega
    exact⟨none,0,0,none,0,e1,by omega,g3 _ _ _ e1,by omega,fun h=>absurd hc0 h,Ai _,fun _=>rfl⟩
   ·refine⟨some ⟨g,0,none⟩,l.length,cap,some ⟨g,0,none⟩,cap,e1,by omega,g3 _ _ _ e1,by omega,fun _=>?_,e5,fun h=>by cases h⟩;simp[jg9]
 rcases h3.2 with ⟨e1,e2⟩|⟨g,cap,cur,e1,e2,e3,e4,e5,e6,e7⟩
 ·have hc0:c.length=0:=by omega
  rw[e1]at fin ⊢;refine(Tryz.slices_Compact_string_empty none 0 w).mono ?_;rintro en w' ⟨rfl,rfl⟩;refine fin _ _ ⟨rfl,rfl,rfl,Au _,fun _ _ _=>rfl⟩ ⟨by rw[Ab,hlen];omega,.inl ⟨rfl,e2⟩⟩ fun a n cp h=>?_;cases h;rw[hc0]
 ·rw[e1]at fin ⊢;rw[Nat.mul_one,<-js5,<-y5 l]at e7;have hh:=holds_of_block e3 e7;have hs:=Tryz.slices_Compact_string g 0 cap (kp5 l) w hh (by rw[y5];have:maxLen=9223372036854775807:=rfl;omega) (by rw[y5];exact e4);rw[y5,<-hc]at hs;refine hs.mono ?_;rintro en w' ⟨rfl,n,rfl⟩;have hts:(c++List.replicate (l.length - c.length) []).length=(kp5 l).length:=by
   rw[y5,Ag,Eh];omega
  have h5:=ownsRow_sorted (ss:=kp5 l) (ts:=c++List.replicate (l.length - c.length) []) (n:=n) (os:=#[]) (base:=0) hts e2 e3 (by rw[y5];exact e4) e5 e6;have h6:=grownBy_sorted (w:=w) (g:=g) (n:=n) (os:=#[]) (c++List.replicate (l.length - c.length) []).toArray;have hgr:∀ u:World,grow u #[]=u:=grow_empty;rw[hgr]at h5 h6;have h7:List.map encStr (c++List.replicate (l.length - c.length) [])=m.map Value.string:=by rw[hm,<-js5,kg4]
  rw[y5,h7]at h5;refine fin _ _ h6 h5 fun a n cp h=>?_;cases h;rfl
attribute [local irreducible] TR TC
theorem rb8 (p:Pr)(hm:Lx.He p=true):FnE prog (glS mm) 10 [.d (dPr p)] [] (fun v H1=>∃ rest:List ByteArray,True/\v=.tup [.win 951 0 0 (Sc.Cx p).length,.d (.int .i64 0)]/\H1=[(951,.row 9 1 false ((Sc.Cx p++rest).map .str) 0)]):=by
 have c1:=kw1 (mm:=mm) p;have hcan:=Sc.Qz hm;have hfit:=hcan.fit0;have c2:=jl6 (glS mm) .free [];have c3:=kg7 (mm:=mm) .free _ p (Au _) hcan.ok hcan.cap (Sc.start []) hfit;have hg:=Sc.Ll p (Sc.start []);obtain⟨r,hr⟩:∃ r,r=Sc.Fx (Sc.start []) p:=⟨_,rfl⟩;have hF:Sc.Cx p=Sc.once (Sc.Hw r.2.ev):=by rw[hr];rfl
 rw[<-hr]at c3 hg;have he:=hg.ev;have hroom:=hfit.room;have hlen:=Sc.La r.2.ev;unfold Sc.W.room at hroom;have c4:=qh2 (glS mm) 951 0 (Sc.Hw r.2.ev) (by omega);have c5:=mo7 (glS mm) 951 0 ((Sc.Jt (Sc.Hw r.2.ev)).map Sc.toB);rw[Sc.Tf,As,Sc.Oq,<-hF]at c5;have hcl:(Lib.compact (Sc.Jt (Sc.Hw r.2.ev))).length=(Sc.Cx p).length:=by
  rw[hF,<-Sc.Oq,Ab]
 rw[hcl]at c5;generalize (List.replicate (((Sc.Jt (Sc.Hw r.2.ev)).map Sc.toB).length - (Sc.Cx p).length) ([]:List UInt8)).map Sc.toB=rest at c5;rw[hm]at c1;dsimp only[HW,ja0,z6,Sc.start,Sc.Hw,Ax]at c2 c3;clear hr hg he hroom hlen hfit hcan hF hcl;rw[j9]at c1 c3 ⊢
 (refine j2 func10 ntmps10 results10 fun w M E b0=>?_)
 ((repeat' first|refine Ca 1 ?_;(refine Cq 1001 ?_)|refine Ca 4 ?_;(refine j3 903 ?_)|refine Cf 4 ?_;refine halt ?_|refine yyp ?_;try refine Ce ?_ ?_<;>intro hb|refine yy ?_|refine Ch 28 ?_;refine Ck (hc:=c1) ?_;try refine Ce ?_ ?_<;>intro hb|refine at_nil ?_;refine Cc Uw ?_|refine Cb fun K hK=>?_|apply_assumption -exfalso -symm);all_goals try refine unhalt ?_)
 refine jp5 903 951 0 (e:=9) (sz:=1) rfl rfl rfl ?_;refine jm4 (kq4 951 rfl) ?_;refine jm4 (kb0 (n:=903) (q:=951) (i:=0) rfl rfl rfl rfl (by(repeat (first|exact Drop.nil|apply Drop.drop rfl|apply Drop.take rfl));fail_if_success intros) rfl) ?_
 ((repeat' first|refine Ca 9 ?_;refine Cg (hc:=c2) ?_|refine Ca 11 ?_;refine Cg (hc:=c3) ?_|refine Cf 5 ?_;refine halt ?_|refine yyp ?_|refine at_nil ?_;refine Cc Uw ?_|refine Hz ?_ ?_|(apply Hy (x:=.region 4 _ _);focus ((refine Cf 4 ?_;refine j0 [1,3] q0o ?_);(repeat' (first|refine Ca 1 ?_;(refine Cq 1001 ?_)));(all_goals first|exact Wk.refl _ _|exact k8);done))|refine Cb fun K hK=>?_|refine Cf 4 ?_;refine j0 [1,3] q0o ?_|apply_assumption -exfalso -symm);all_goals try refine unhalt ?_)
 all_goals (refine jm4 (ju3 (n:=903) (q:=951) rfl rfl) ?_)
 all_goals (repeat' first|refine Ca 13 ?_;refine Cg (hc:=c4) ?_|refine Ca 15 ?_;refine Cg (hc:=c5) ?_|refine yyp ?_|refine yy ?_|refine at_nil ?_;refine Cc Uw ?_|refine Cb fun K hK=>?_|refine Cf 4 ?_;refine j0 [] (lin [0,9,6,14]) ?_|apply_assumption -exfalso -symm)
 all_goals exact j1 (ja2 ⟨rest,trivial,rfl,rfl⟩)
namespace Al
theorem rp8 (gl:List (Nat × List D))(Ks ns rest:List ByteArray)(hn:ns.length<=1000000000):FnE prog gl 40 [.map 901,.win 951 0 0 ns.length] [(901,.map (Dq Ks) (Dr Ks)),(951,.row 9 1 false ((ns++rest).map .str) 0)] (fun v H1=>v=.tup []/\H1=[(901,.map (Dq (Il Ks ns)) (Dr (Il Ks ns))),(951,.row 9 1 false ((ns++rest).map .str) 0)]):=by
 (refine j2 func40 ntmps40 results40 fun w M E b0=>?_)
 (repeat' first|refine Ca 7 ?_;(refine z_p (je7 rfl rfl rfl) ?_)|refine yyp ?_;try refine Ce ?_ ?_<;>intro hb|refine yy ?_|refine at_nil ?_;refine Cc [0,1,5,6,7,8,9] ?_|refine Cb fun K hK=>?_|apply_assumption -exfalso -symm)
 refine j6 [5,8,9,10,11,12,13,14] [901] (fun j:Nat=>[(8,.d (.int .i64 j))]) (fun j=>[(901,.map (Dq (Il Ks (ns.take j))) (Dr (Il Ks (ns.take j))))]) (fun j=>j<=ns.length) (fun j=>ns.length - j) 0 (Ai _) fun j hj=>?_;dsimp only[Ac,Af];rcases Ah j ns.length with hj2|hj2
 ·have hget:((ns++rest).map D.str)[0+j]? =some (.str ns[j]):=by rw[Es,Bp,Ej hj2,At hj2];rfl
  (repeat' first|refine Ca 10 ?_;(refine z_p (Im (i:=j) rfl rfl rfl rfl rfl rfl hj2) ?_)|refine Ca 11 ?_;(refine z_q (jc7 rfl rfl rfl hget (by first|exact Gg.agg _|constructor) rfl) ?_)|refine jg0 2 ?_;(refine jm0 ?_)|refine yyp ?_;try refine Ce ?_ ?_<;>intro hb|refine yy ?_|refine at_nil ?_;refine Cc [0,1,5,6,7,8,9] ?_|refine Cb fun K hK=>?_|apply_assumption -exfalso -symm)
  refine⟨j+1,by omega,by omega,?_⟩;rw[jn5 hj2];exact k8
 ·(repeat' first|refine yyp ?_;try refine Ce ?_ ?_<;>intro hb|refine yy ?_|refine at_nil ?_;refine Cc [0,1,5,6,7,8,9] ?_|refine Cb fun K hK=>?_|apply_assumption -exfalso -symm)
  rw[Am hj2];exact g8 ⟨rfl,rfl⟩
open Lx Sc
theorem kz8 {p:Pr}(h:He p=true):(Cx p).length<=1000000000:=by
 obtain⟨h1,h2⟩:=jf0 h;have h3:=kw3 p h1;have hg:=(Ll p (Sc.start [])).ev;have hlen:=La (Fx (Sc.start []) p).2.ev;have ho:=kw5 (Hw (Fx (Sc.start []) p).2.ev);have hs:(Sc.start []).ev.length=0:=rfl;unfold Cx;omega
noncomputable def w0 (p:Pr):Wd:=⟨Il [] (Cx p),[],[]⟩
theorem qp0 {p:Pr}(hm:He p=true)(hc:(Ij p (Cx p)).2=0):isR (rk (Sc.start (Dx p)).has) (Dc p):=by
 have hev:=kc9 _ _ hc;refine qn3 p (Sc.start (Dx p)) (jf0 hm).1 (fun s x hx=>by cases hx) (Ed 0) rfl fun s hs=>?_;rw[Sc.Qy (Dx p) []]at hs;rw[jx6];left;rw[kw7];exact hs
theorem kz9 (p:Pr)(h0:Ht p=0):FnE prog (glS mm) 23 [.d (dPr p)] [] (fun v H1=>∃ x:List ByteArray × Wd,(Sim x.2 (x7 (w0 p) (Dc p))/\Kq (rk (Sc.start (Dx p)).has) x.2)/\v=.tup [.ptr 900 0,.d (dPr (Dc p)),.win 951 0 0 (Cx p).length,.d (.int .i64 0)]/\H1=(951,.row 9 1 false ((Cx p++x.1).map .str) 0)::HA x.2):=by
 obtain⟨hm,hc⟩:=kg6 h0;have na:=jv3 h0;have hrk:=qp0 hm hc;have hR0:Kq (rk (Sc.start (Dx p)).has) (w0 p):=fun x hx=>by cases hx
 have c1:=kc6 (mm:=mm) p;rw[h0,na.un]at c1;have c2:=rb8 (mm:=mm) p hm;have c3:=fun rest=>rp8 (glS mm) [] (Cx p) rest (kz8 hm);have c4:=qo8 (glS mm) (r:=rk (Sc.start (Dx p)).has) _ (Dc p) (Au _) hrk (jf0 na.mayq).1 (w0 p) hR0;simp only[j9]at c1 c2 c4 ⊢;dsimp only[HA,w0,Dq,Dr,Md,Mw,Ax]at c3 c4 ⊢
 (refine j2 func23 ntmps23 results23 fun w M E b0=>?_)
 (repeat' first|refine Ca 1 ?_;(refine Cq 1 ?_)|refine Ca 3 ?_;(refine j3 3 ?_)|refine Ca 6 ?_;(refine j3 6 ?_)|refine Ca 22 ?_;(refine Gi (hc:=c2) ?_;rintro rest _)|refine Ca 25 ?_;(refine Iz 901 ?_)|refine Ca 26 ?_;(refine Iz 902 ?_)|refine Ca 27 ?_;(refine Iz 903 ?_)|refine Ca 29 ?_;(refine Cq 900 ?_)|refine Ca 35 ?_;refine Cg (hc:=c3 rest) ?_|refine Ca 38 ?_;(refine Gi (hc:=c4) ?_;rintro ω hω)|refine yyp ?_|refine yy ?_|refine Ch 12 ?_;refine Ck (hc:=c1) ?_|refine at_nil ?_;refine Cc [0,1,2,3,4,5,6,7,8,10,17,45] ?_|refine Cb fun K hK=>?_|refine Cf 3 ?_;refine j0 [3] (lin [4,8,1,15,16,20]) ?_|refine Cf 8 ?_;refine j0 [4] (lin [0,8,12,5,19,20,24]) ?_|apply_assumption -exfalso -symm)
 exact j1 (ja2 ⟨(rest,ω),⟨hω,kh7 hω hR0 hrk⟩,rfl,rfl⟩)
theorem ko2 (p:Pr)(h0:Ht p≠0):FnE prog (glS mm) 23 [.d (dPr p)] [] (fun v H1=>v=.tup [.d (.raw (.pointer none)),.d (dPr p),.nils 1,.d (.int .i64 (Ht p))]/\H1=[]):=by
 have c1:=kc6 (mm:=mm) p;simp only[j9]at c1 ⊢
 (refine j2 func23 ntmps23 results23 fun w M E b0=>?_)
 (repeat' first|refine Ca 1 ?_;(refine Cq 1 ?_)|refine Ca 3 ?_;(refine j3 3 ?_)|refine Ca 6 ?_;(refine j3 6 ?_)|refine yyp ?_;try refine Ce ?_ ?_<;>intro hb|refine yy ?_|refine Ch 12 ?_;refine Ck (hc:=c1) ?_|refine at_nil ?_;refine Cc [0,1,2,3,4,5,6,7,8,10,17,45] ?_|refine Cb fun K hK=>?_|refine Cf 3 ?_;refine j0 [3] (lin [4,8,1,15,16,20]) ?_|refine Cf 8 ?_;refine j0 [4] (lin [0,8,12,5,19,20,24]) ?_|apply_assumption -exfalso -symm)
 all_goals first
  |(exfalso;omega)
  |exact j1 (ja2 ⟨rfl,rfl⟩)
end Al
end
section
def Tw:List Nat:=[0,1,2,3,4,5,6,7,8,17,26]
variable {mm:Int}
namespace Al
open Lx Sc
attribute [local irreducible] TR TC
theorem qp1 (p:Pr)(h0:Ht p=0):FnD prog (glS mm) 13 [.d (dPr p)] (fun v=>∃ n:ByteArray,∃ ω,Sim ω (x7 (w0 p) (Dc p))/\(brB ω (Dc p)=true->Nm ω p (Dc p) n)/\v=.tup [.d (.str (if brB ω (Dc p)=true then n else ByteArray.empty)),.d (.int .i64 (if brB ω (Dc p)=true then 150 else 0))]):=by
 have na:=jv3 h0;have hnew:=ms7 p (Sc.start (Dx p)) (fun s x hx=>by cases hx) (Ed 0) (kw8 na.may) (jf0 na.may).1;have c1:=kz9 (mm:=mm) p h0;have c2:=fun(ω:Wd) (h:Rank ω.is)=>ry8 (glS mm) ω h _ p (Dc p) (Au _) hnew.1 (jf0 na.may).1 (jf0 na.mayq).1;simp only[j9]at c1 c2 ⊢;dsimp only[HA]at c1 c2
 (refine j7 func13 ntmps13 results13 fun w M=>?_)
 ((repeat' first|refine Ca 1 ?_;(refine Cq 1 ?_)|refine Ca 11 ?_;(refine Gi (hc:=c1) ?_;rintro⟨rest,ω⟩ ⟨hω,hR⟩)|refine Ca 5 ?_;(refine j3 5 ?_)|refine Cf 4 ?_;refine halt ?_|refine yyp ?_|refine yy ?_|refine at_nil ?_;refine Cc Tw ?_|refine Cb fun K hK=>?_|apply_assumption -exfalso -symm);all_goals try refine unhalt ?_)
 have c3:=c2 ω hR.rank;cases hb:brB ω (Dc p) with
 |true=>
  rw[hb]at c3
  (repeat' first|refine Ca 23 ?_;(refine Gi (hc:=c3) ?_;rintro n hn)|refine yyp ?_;try refine Ce ?_ ?_<;>intro hb|refine yy ?_|refine at_nil ?_;refine Cc Tw ?_|refine Cb fun K hK=>?_|apply_assumption -exfalso -symm)
  refine j1 (k7 ⟨n,ω,hω,fun _=>hn rfl,?_⟩);rw[hb];rfl
 |false=>
  rw[hb]at c3
  (repeat' first|refine Ca 23 ?_;(refine Gi (hc:=c3) ?_;rintro n hn)|refine yyp ?_;try refine Ce ?_ ?_<;>intro hb|refine yy ?_|refine at_nil ?_;refine Cc Tw ?_|refine Cb fun K hK=>?_|apply_assumption -exfalso -symm)
  refine j1 (k7 ⟨n,ω,hω,(fun h=>by rw[hb]at h;cases h),?_⟩);rw[hb];rfl
theorem qa7 (p:Pr)(h0:Ht p≠0):FnD prog (glS mm) 13 [.d (dPr p)] (fun v=>v=.tup [.d (.str ByteArray.empty),.d (.int .i64 (Ht p))]):=by
 have c1:=ko2 (mm:=mm) p h0;simp only[j9]at c1 ⊢
 (refine j7 func13 ntmps13 results13 fun w M=>?_)
 (repeat' first|refine Ca 1 ?_;(refine Cq 1 ?_)|refine Ca 11 ?_;refine Cg (hc:=c1) ?_|refine Ca 5 ?_;(refine j3 5 ?_)|refine yyp ?_;try refine Ce ?_ ?_<;>intro hb|refine yy ?_|refine at_nil ?_;refine Cc Tw ?_|refine Cb fun K hK=>?_|apply_assumption -exfalso -symm)
 all_goals first
  |(exfalso;omega)
  |(refine j1 (k7 ?_)
    rfl)
end Al
end
section
def Tx:List Nat:=[0,1,4,5,6,7,8,9,16]
section
variable {E:Set}{Q:Exit->Sd->Prop}{ops:Array Oper}{draw:Bool}{rest:Todo}{way:Jh}{ty:TypeId}{pos:String}{af:Array Edge}{gd:Option (Nat × Bool)}
theorem qp2 {S S':Sd}{o:Oper}{v:V}(hq:Vx E S o S' v)(hdst:o.dst=none)(hg:S.gd ops o=some true)(hdf:p9 o=false)(hw:Js draw way=true)(h:TR E draw ops Q rest S'):TR E draw ops Q (.step o way rest) S:=fun a w hS=>by
 have hS0:=hS;have key:∀ w1,Grows w w1->∀ K:Act->World->Prop,(∀ a2 w2,St E.C S' a2 w2->K a2 w2)->o.wp E.P a w1 K (Qof E.C Q):=fun w1 g K hK=>by
  obtain⟨β,hB⟩:=hS.later g;obtain⟨x,w',β',h1,h2,h3⟩:=hq.out β a w1 hB;refine n9 h1 (hK _ _ ?_);rw[hdst];exact⟨β',h2⟩
 cases draw with
 |true=>
  dsimp only;cases way with
  |pure=>cases hw
  |quiet=>cases hw
  |grow=>cases hw
  |bar=>
   simp only[r9];intro n;rw[Sd.Fy hS0 hg,Ad rfl];exact key n.w n.grows _ fun a2 w2 hs2=>h _ _ hs2
 |false=>exact y4 hS0 hg hdf fun K hK=>key w (Grows.refl w) K fun a2 w2 hs2=>hK _ _ (h _ _ hs2)
variable {env:List (Nat × V)}{H:List (Nat × Ob)}{gl:List (Nat × List D)}
theorem qp3 {t n k p m e:Nat}{x:Operand}{xs:List D}{z:D}[ht:TSlice E.P t e 1][hz:Pv E.P e z](h:TR E draw ops Q rest ⟨env,(n,.row e 1 false (xs.take p++List.replicate m z++xs.drop (p+m)) k)::H,gl⟩)(hs:z.scalar=true:=by exact rfl)(hx:Sd.ev ⟨env,H,gl⟩ x=some (.win n k p m):=by exact rfl)(hox:Cn x=true:=by exact rfl)(hl:look n H=some (.row e 1 false xs k):=by exact rfl)(hle:p+m<=xs.length)
 (hg:Sd.gd ⟨env,H,gl⟩ ops ⟨none,.call {callee:=.builtin .clear,args:=#[x],argTypes:=#[t]},ty,pos,af,gd⟩=some true:=by exact rfl) (hw:Js draw way=true:=by exact rfl):
 TR E draw ops Q (.step ⟨none,.call {callee:=.builtin .clear,args:=#[x],argTypes:=#[t]},ty,pos,af,gd⟩ way rest) ⟨env,H,gl⟩:=qp2 (ml4 hs hx hox hl hle) rfl hg rfl hw h
end
namespace Al
def vi0 (A ns:List ByteArray)(k:Int):Prop:=(k=-1/\∀ s∈ns,s∈A)\/∃ i:Nat,k=i/\i<ns.length/\(∀ h:i<ns.length,ns[i]∉A)/\∀ s∈ns.take i,s∈A
attribute [local irreducible] TR TC
theorem mi0 (gl:List (Nat × List D))(A:List ByteArray)(s:ByteArray):FnE prog gl 26 [.d (.str s),.ptr 1007 0] [(1007,.box [.d (.map (Dq A) (Dr A))])] (fun v H1=>v=.d (.bool (!decide (s∈A)))/\H1=[(1007,.box [.d (.map (Dq A) (Dr A))])]):=by
 (refine j2 func26 ntmps26 results26 fun w M E b0=>?_)
 (repeat' first|refine Ca 6 ?_;(refine jn6 (fun hin=>?_) (fun hin=>?_))|refine yyp ?_|refine yy ?_|refine at_nil ?_;refine Cc [0,1,3,4,5,6] ?_|refine Cb fun K hK=>?_|apply_assumption -exfalso -symm)
 ·(refine j1 (j4 ⟨?_,rfl⟩))
  rw[Eb hin];rfl
 ·(refine j1 (j4 ⟨?_,rfl⟩))
  rw[Ee hin];rfl
theorem rp9 (gl:List (Nat × List D))(A ns rest:List ByteArray)(hn:ns.length<=1000000000):FnE prog gl 44 [.win 951 0 0 ns.length,.clo (.func 26) [] [.ptr 1007 0]] [(951,.row 9 1 false ((ns++rest).map .str) 0),(1007,.box [.d (.map (Dq A) (Dr A))])] (fun v H1=>∃ k:Int,vi0 A ns k/\v=.d (.int .i64 k)/\H1=[(951,.row 9 1 false ((ns++rest).map .str) 0),(1007,.box [.d (.map (Dq A) (Dr A))])]):=by
 (refine j2 func44 ntmps44 results44 fun w M E b0=>?_)
 (repeat' first|refine Ca 7 ?_;(refine z_p (je7 rfl rfl rfl) ?_)|refine yyp ?_;try refine Ce ?_ ?_<;>intro hb|refine yy ?_|refine at_nil ?_;refine Cc Tx ?_|refine Cb fun K hK=>?_|apply_assumption -exfalso -symm)
 refine j6 [4,5,8,9,10,11,12,13,14,15,16,17,18] [] (fun j:Nat=>[(8,.d (.int .i64 j))]) (fun _=>[]) (fun j=>j<=ns.length/\∀ s∈ns.take j,s∈A) (fun j=>ns.length - j) 0 ⟨Ai _,by simp⟩ fun j ⟨hj,hin⟩=>?_;dsimp only[Ac,Af];rcases Ah j ns.length with hj2|hj2
 ·have hget:((ns++rest).map D.str)[0+j]? =some (.str ns[j]):=by rw[Es,Bp,Ej hj2,At hj2];rfl
  have c1:=mi0 gl A ns[j];by_cases hm:ns[j]∈A
  ·rw[Eb hm]at c1
   (repeat' first|refine Ca 14 ?_;(refine z_p (Im (i:=j) rfl rfl rfl rfl rfl rfl hj2) ?_)|refine Ca 15 ?_;(refine z_q (jc7 rfl rfl rfl hget (by first|exact Gg.agg _|constructor) rfl) ?_)|refine Ca 16 ?_;refine Cg (hc:=c1) ?_;try refine Ce ?_ ?_<;>intro hb|refine yyp ?_;try refine Ce ?_ ?_<;>intro hb|refine yy ?_|refine at_nil ?_;refine Cc Tx ?_|refine Cb fun K hK=>?_|apply_assumption -exfalso -symm)
   refine⟨j+1,⟨by omega,fun s hs=>?_⟩,by omega,k8⟩;rw[Ao hj2,Ap,Bn]at hs;rcases hs with hs|rfl
   ·exact hin s hs
   ·exact hm
  ·rw[Ee hm]at c1
   (repeat' first|refine Ca 14 ?_;(refine z_p (Im (i:=j) rfl rfl rfl rfl rfl rfl hj2) ?_)|refine Ca 15 ?_;(refine z_q (jc7 rfl rfl rfl hget (by first|exact Gg.agg _|constructor) rfl) ?_)|refine Ca 16 ?_;refine Cg (hc:=c1) ?_;try refine Ce ?_ ?_<;>intro hb|refine yyp ?_;try refine Ce ?_ ?_<;>intro hb|refine yy ?_|refine at_nil ?_;refine Cc Tx ?_|refine Cb fun K hK=>?_|apply_assumption -exfalso -symm)
   exact j1 (j4 ⟨(j:Nat),.inr ⟨j,rfl,hj2,fun _=>hm,hin⟩,rfl,rfl⟩)
 ·rw[Am hj2]at hin
  (repeat' first|refine yyp ?_;try refine Ce ?_ ?_<;>intro hb|refine yy ?_|refine at_nil ?_;refine Cc Tx ?_|refine Cb fun K hK=>?_|apply_assumption -exfalso -symm)
  exact j1 (j4 ⟨-1,.inl ⟨rfl,hin⟩,rfl,rfl⟩)
end Al
end
section
def Ro:List Nat:=[0,1,4,5,6,7,12,19,29]
namespace Al
noncomputable def ji5 (A ns:List ByteArray):List ByteArray:=ns.filter fun s=>decide (s∈A)
theorem jm2 {A ns:List ByteArray}(h:∀ s∈ns,s∈A):ji5 A ns=ns:=List.filter_eq_self.2 fun s hs=>by simpa using h s hs
theorem ko3 {A ns:List ByteArray}{j:Nat}(hj:j<ns.length):ji5 A (ns.take (j+1))=ji5 A (ns.take j)++(if ns[j]∈A then [ns[j]] else []):=by
 unfold ji5;rw[Ao hj,List.filter_append];congr 1;split
 ·rename_i h;simp[h]
 ·rename_i h;simp[h]
structure Qu (A ns rest:List ByteArray)(j i:Nat)(L:List ByteArray):Prop where
 lt:i<j
 le:j<=ns.length
 len:L.length=(ns++rest).length
 take:L.take i=ji5 A (ns.take j)
 drop:L.drop j=(ns++rest).drop j
theorem Qu.get {A ns rest L:List ByteArray}{j i:Nat}(h:Qu A ns rest j i L)(hj:j<ns.length):L[j]? =some ns[j]:=by
 have h1:(L.drop j)[0]? =((ns++rest).drop j)[0]? :=by rw[h.drop]
 rw[Eo,Eo,Nat.add_zero,Ej hj,At hj]at h1;exact h1
theorem Qu.yes {A ns rest L:List ByteArray}{j i:Nat}(h:Qu A ns rest j i L)(hj:j<ns.length)(hm:ns[j]∈A):Qu A ns rest (j+1) (i+1) (L.set i ns[j]):=by
 have h1:=h.lt;have h2:=h.len;have h3:i<L.length:=by rw[h2,Ag];omega
 refine⟨by omega,by omega,by rw[List.length_set];exact h2,?_,?_⟩
 ·rw[ko3 hj,Ad hm,<-h.take];apply Fu;intro k;simp only[Et,List.getElem?_set,List.getElem?_append,Aj]
  grind
 ·rw[List.drop_set_of_lt (by omega),<-List.drop_drop,h.drop,List.drop_drop]
theorem Qu.no {A ns rest L:List ByteArray}{j i:Nat}(h:Qu A ns rest j i L)(hj:j<ns.length)(hm:ns[j]∉A):Qu A ns rest (j+1) i L:=by
 have h1:=h.lt;refine⟨by omega,by omega,h.len,?_,?_⟩
 ·rw[ko3 hj,Ae hm,Ea,h.take]
 ·rw[<-List.drop_drop,h.drop,List.drop_drop]
theorem Qu.start {A ns:List ByteArray}(rest:List ByteArray){i:Nat}(hi:i<ns.length)(h1:ns[i]∉A)(h2:∀ s∈ns.take i,s∈A):Qu A ns rest (i+1) i (ns++rest):=by
 refine⟨by omega,by omega,rfl,?_,rfl⟩;rw[ko3 hi,Ae h1,Ea,jm2 h2,List.take_append_of_le_length (by omega)]
attribute [local irreducible] TR TC
theorem ry9 (gl:List (Nat × List D))(A ns rest:List ByteArray)(hn:ns.length<=1000000000):FnE prog gl 25 [.win 951 0 0 ns.length,.clo (.func 26) [] [.ptr 1007 0]] [(951,.row 9 1 false ((ns++rest).map .str) 0),(1007,.box [.d (.map (Dq A) (Dr A))])] (fun v H1=>∃ L:List ByteArray,((ji5 A ns).length<=L.length/\L.take (ji5 A ns).length=ji5 A ns)/\v=.win 951 0 0 (ji5 A ns).length/\H1=[(951,.row 9 1 false (L.map .str) 0),(1007,.box [.d (.map (Dq A) (Dr A))])]):=by
 have c1:=rp9 gl A ns rest hn
 (refine j2 func25 ntmps25 results25 fun w M E b0=>?_)
 ((repeat' first|refine Ca 10 ?_;(refine Gi (hc:=c1) ?_;rintro kx hkx)|refine Cf 2 ?_;refine halt ?_|refine yyp ?_;try refine Ce ?_ ?_<;>intro hb|refine yy ?_|refine at_nil ?_;refine Cc Ro ?_|refine Cb fun K hK=>?_|apply_assumption -exfalso -symm);all_goals try refine unhalt ?_)
 rcases hkx with ⟨rfl,hall⟩|⟨i0,rfl,hi0,hni,htk⟩
 ·(repeat' first|refine yyp ?_;try refine Ce ?_ ?_<;>intro hb|refine yy ?_|refine at_nil ?_;refine Cc Ro ?_|refine Cb fun K hK=>?_|apply_assumption -exfalso -symm)
  refine j1 (ja2 ⟨ns++rest,⟨?_,?_⟩,?_,rfl⟩)
  ·rw[jm2 hall];simp
  ·rw[jm2 hall];simp
  ·rw[jm2 hall];rfl
 ·have hst:=Qu.start rest hi0 (hni hi0) htk
  (repeat' first|refine yyp ?_;try refine Ce ?_ ?_<;>intro hb|refine yy ?_|refine at_nil ?_;refine Cc Ro ?_|refine Cb fun K hK=>?_|apply_assumption -exfalso -symm)
  refine j6 [5,6,7,16,17,18,19,20,21,22,23,24,25,26,27,28,29,30,31,32,33,34,35] [951] (fun x:Nat × Nat × List ByteArray=>[(6,.d (.int .i64 x.1)),(5,.d (.int .i64 x.2.1))]) (fun x=>[(951,.row 9 1 false (x.2.2.map .str) 0)]) (fun x=>Qu A ns rest x.1 x.2.1 x.2.2) (fun x=>ns.length - x.1) (i0+1,i0,ns++rest) hst fun⟨j,i,L⟩ hP=>?_;dsimp only[Ac,Af]at hP ⊢;have q1:=hP.lt;have q2:=hP.le;have q3:=hP.len;rw[Ag]at q3;rcases Ah j ns.length with hj2|hj2
  ·have hget:(L.map D.str)[0+j]? =some (.str ns[j]):=by rw[Es,Bp,hP.get hj2];rfl
   have c2:=mi0 gl A ns[j];by_cases hm:ns[j]∈A
   ·rw[Eb hm]at c2
    (repeat' first|refine Ca 18 ?_;(refine z_p (je7 rfl rfl rfl) ?_)|refine Ca 24 ?_;(refine z_p (Im (i:=j) rfl rfl rfl rfl rfl rfl hj2) ?_)|refine Ca 25 ?_;(refine z_q (jc7 rfl rfl rfl hget (by first|exact Gg.agg _|constructor) rfl) ?_)|refine Ca 28 ?_;refine Cg (hc:=c2) ?_;try refine Ce ?_ ?_<;>intro hb|refine Ca 33 ?_;(refine z_p (Im (i:=i) rfl rfl rfl rfl rfl rfl (by omega)) ?_)|refine yyp ?_;try refine Ce ?_ ?_<;>intro hb|refine yy ?_|refine at_nil ?_;refine Cc Ro ?_|refine Cb fun K hK=>?_|apply_assumption -exfalso -symm)
    refine⟨(j+1,i+1,L.set i ns[j]),hP.yes hj2 hm,by dsimp only;omega,?_⟩;dsimp only;rw[List.map_set];simp only[Es];exact k8
   ·rw[Ee hm]at c2
    (repeat' first|refine Ca 18 ?_;(refine z_p (je7 rfl rfl rfl) ?_)|refine Ca 24 ?_;(refine z_p (Im (i:=j) rfl rfl rfl rfl rfl rfl hj2) ?_)|refine Ca 25 ?_;(refine z_q (jc7 rfl rfl rfl hget (by first|exact Gg.agg _|constructor) rfl) ?_)|refine Ca 28 ?_;refine Cg (hc:=c2) ?_;try refine Ce ?_ ?_<;>intro hb|refine yyp ?_;try refine Ce ?_ ?_<;>intro hb|refine yy ?_|refine at_nil ?_;refine Cc Ro ?_|refine Cb fun K hK=>?_|apply_assumption -exfalso -symm)
    exact⟨(j+1,i,L),hP.no hj2 hm,by dsimp only;omega,k8⟩
  ·obtain rfl:j=ns.length:=by omega
   have ht:=hP.take;rw[Bg]at ht;have hil:i=(ji5 A ns).length:=by rw[<-ht,Aj];omega
   (repeat' first|refine Ca 18 ?_;(refine z_p (je7 rfl rfl rfl) ?_)|refine Ca 38 ?_;(refine z_p (mq6 (l:=i) rfl rfl rfl rfl rfl rfl (by omega)) ?_)|refine jg0 3 ?_;(refine qp3 ?_ (hle:=by rw[Ab];omega))|refine Ca 41 ?_;(refine z_p (mq7 (l:=i) rfl rfl rfl rfl rfl rfl (by omega)) ?_)|refine yyp ?_;try refine Ce ?_ ?_<;>intro hb|refine yy ?_|refine at_nil ?_;refine Cc Ro ?_|refine Cb fun K hK=>?_|apply_assumption -exfalso -symm)
   have hrow:List.take (0+i) (List.map D.str L)++List.replicate (ns.length - i) (D.str ByteArray.empty)++List.drop (0+i+(ns.length - i)) (List.map D.str L)=(L.take i++List.replicate (ns.length - i) ByteArray.empty++L.drop (i+(ns.length - i))).map D.str:=by
    simp only[Es,As,Eg,List.map_drop,List.map_replicate]
   rw[hrow];refine j1 (ja2 ⟨_,⟨?_,?_⟩,?_,rfl⟩)
   ·rw[<-hil];simp only[Ag,Aj];omega
   ·rw[<-hil,Bv,List.take_append_of_le_length (by rw[Aj];omega),List.take_take,Nat.min_self,ht]
   ·rw[<-hil];rfl
end Al
end
end Go.Proofs.YtklklgfpkpglgaaGreatDoor
