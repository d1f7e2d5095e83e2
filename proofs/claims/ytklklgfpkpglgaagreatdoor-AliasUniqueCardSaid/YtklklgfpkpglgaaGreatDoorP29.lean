/- Parts: S41, R6, O26, S42, S43. -/
import Derived.Sort.OwnSorted
import Derived.Lib.RowBridge
import Derived.Test.YtklklgfpkpglgaaGreatDoorP19
import Derived.Test.YtklklgfpkpglgaaGreatDoorP18
import Derived.Test.YtklklgfpkpglgaaGreatDoorP37
set_option linter.all false
set_option maxRecDepth 100000
set_option maxHeartbeats 16000000
namespace Go.Proofs.YtklklgfpkpglgaaGreatDoor
open Go.RowKit Go.Proofs.Tryz
section
open Go.RowKit Go.Sort
def kp5 (l:List ByteArray):List (List UInt8):=l.map fun s=>s.data.toList
theorem y5 (l:List ByteArray):(kp5 l).length=l.length:=Ab ..
theorem rl4 (s:ByteArray):Sc.toB s.data.toList=s:=by simp[Sc.toB]
theorem rl5 (s:List UInt8):(Sc.toB s).data.toList=s:=by simp[Sc.toB]
theorem kg4 (l:List (List UInt8)):kp5 (l.map Sc.toB)=l:=by
 unfold kp5;rw[List.map_map]
 conv=>rhs;rw[<-List.map_id l]
 exact List.map_congr_left fun s _=>rl5 s
theorem js5 (l:List ByteArray):(kp5 l).map encStr=l.map Value.string:=by
 unfold kp5;rw[List.map_map];exact List.map_congr_left fun s _=>congrArg Value.string (rl4 s)
theorem jj7 {w:World}{M:Nat->Nat->Prop}:∀ {l:List ByteArray} {ys:List Value},Gn w M 1 (l.map .str) ys↔ys=l.map Value.string
 |[],ys=>by simp[Gn]
 |s::l,ys=>by
  simp only[Aq,Gn];constructor
  ·rintro⟨v,r,rfl,_,h3,h4⟩;simp only[Gw]at h3;subst h3;rw[jj7.1 h4];rfl
  ·rintro rfl;exact⟨.string s,l.map .string,rfl,rfl,rfl,jj7.2 rfl⟩
theorem jo3 {q m:Nat}{ob ob':Ob}(h:look m [(q,ob)]=some ob'):m=q/\ob'=ob:=by
 rw[j5]at h;split at h
 ·rename_i e';cases h;exact⟨e'.symm,rfl⟩
 ·cases h
theorem mm7 (v:Value)(h:∃ a n c,v=.slice a n c):hb v=v.ownBlock:=by
 obtain⟨a,n,c,rfl⟩:=h;cases a<;>rfl
theorem kc2 {w w':World}{M:Nat->Nat->Prop}{β:Nat->Hd}{q e k:Nat}{sh sh':Bool}{l m:List ByteArray}(hlen:m.length=l.length)(ho:Obs w M β [(q,.row e 1 sh (l.map .str) k)])(hM:∀ b o,M b o->b<w.heap.size)
 (hg:w.grownBy w' (β q).v.ownBlock) (hm:w'.ownsRow 0 e 1 (β q).v l.length (m.map .string)):
 Frm (mb5 β [(q,.row e 1 sh (l.map .str) k)]) w w'/\(∀ n ob b,look n [(q,Ob.row e 1 sh' (m.map .str) k)]=some ob->own (β n) ob b->b∈mb5 β [(q,.row e 1 sh (l.map .str) k)]\/w.heap.size<=b)/\Obs w' M β [(q,.row e 1 sh' (m.map .str) k)]:=by
 have hs:∃ a n c,(β q).v=.slice a n c:=by
  rcases hm.2 with ⟨h,_⟩|⟨g,cap,cur,h,_⟩
  ·exact⟨_,_,_,h⟩
  ·exact⟨_,_,_,h⟩
 have hown:∀ b (sh':Bool) (xs:List D),own (β q) (.row e 1 sh' xs k) b↔(β q).v.ownBlock=some b:=fun b sh' xs=>by
  rw[x9 rfl,mm7 _ hs]
 have hl0:look q [(q,Ob.row e 1 sh (l.map .str) k)]=some (.row e 1 sh (l.map .str) k):=by rw[j5,Ad rfl]
 have hin:∀ b,(β q).v.ownBlock=some b->b∈mb5 β [(q,Ob.row e 1 sh (l.map .str) k)]:=fun b hb2=>jj1.2 ⟨q,_,hl0,(hown b _ _).2 hb2⟩;obtain⟨g1,g2,g3,g4,g5⟩:=hg;refine⟨⟨?_,?_,?_,g4,fun b hb2 hnot=>g5 b hb2 fun e1=>hnot (hin b e1.symm)⟩,fun n ob b h1 h2=>?_,⟨fun n ob h1=>?_,fun n n' b ob ob' hne h1 h2 _=>?_,fun n ob b o h1 h2 h3=>?_⟩⟩
 ·first|exact g1|exact g2|exact g3
 ·first|exact g1|exact g2|exact g3
 ·first|exact g1|exact g2|exact g3
 ·obtain⟨rfl,rfl⟩:=jo3 h1;exact .inl (hin b ((hown b _ _).1 h2))
 ·obtain⟨rfl,rfl⟩:=jo3 h1;refine⟨m.map .string,?_,jj7.2 rfl⟩;rw[Ab,hlen];exact hm
 ·obtain⟨rfl,_⟩:=jo3 h1;obtain⟨rfl,_⟩:=jo3 h2;exact absurd rfl hne
 ·obtain⟨rfl,rfl⟩:=jo3 h1;exact ho.out n _ b o hl0 ((hown b _ _).2 ((hown b _ _).1 h2)) h3
theorem qh2 (gl:List (Nat × List D))(q k:Nat)(l:List ByteArray)(hl:l.length<4611686018427387904):
 FnE prog gl 32 [.own q k] [(q,.row 9 1 false (l.map .str) k)] (fun v H1=>v=.tup []/\H1=[(q,.row 9 1 false (((Sc.Jt l).map Sc.toB).map .str) k)]):=by
 intro w M β us hM hus ho hg;simp only[Cv]at hus;obtain⟨v,r,rfl,hv,rfl⟩:=hus;have hl0:look q [(q,Ob.row 9 1 false (l.map .str) k)]=some (.row 9 1 false (l.map .str) k):=by rw[j5,Ad rfl]
 have hv':v=(β q).v:=hv 9 1 false _ hl0;subst hv';obtain⟨ys,h3,h4⟩:=ho.obs q _ hl0;rw[jj7]at h4;subst h4;rw[Ab]at h3;have hlen:((Sc.Jt l).map Sc.toB).length=l.length:=by
  rw[Ab];unfold Sc.Jt;rw[List.length_mergeSort,Ab]
 have fin:∀ w',w.grownBy w' (β q).v.ownBlock->w'.ownsRow 0 9 1 (β q).v l.length (((Sc.Jt l).map Sc.toB).map .string)->∃ (v:V) (x:Value) (H1:List (Nat × Ob)) (β1:Nat->Hd),(v=.tup []/\H1=[(q,.row 9 1 false (((Sc.Jt l).map Sc.toB).map .str) k)])/\Np [(q,.row 9 1 false (l.map .str) k)] H1 v=true/\Ending.returned (Value.tuple #[])=.returned x/\Frm (mb5 β [(q,.row 9 1 false (l.map .str) k)]) w w'/\(∀ n,(look n [(q,Ob.row 9 1 false (l.map .str) k)]).isSome=true->(β1 n).v=(β n).v)/\
  (∀ n ob b,look n H1=some ob->own (β1 n) ob b->b∈mb5 β [(q,.row 9 1 false (l.map .str) k)]\/w.heap.size<=b)/\Obs w' M β1 H1/\Dp w' (Mut M β1 H1) β1 H1 v x:=fun w' g1 g2=>by
  obtain⟨t1,t2,t3⟩:=kc2 (sh':=false) hlen ho hM g1 g2;refine⟨.tup [],_,_,β,⟨rfl,rfl⟩,?_,rfl,t1,fun _ _=>rfl,t2,t3,[],rfl,rfl⟩;simp[Np,mj6,mj5,kp4,kf9,j5,Ob.cells,jf3,V.within]
 rcases h3.2 with ⟨e1,e2⟩|⟨g,cap,cur,e1,e2,e3,e4,e5,e6,e7⟩
 ·have h0:l=[]:=Ar e2;subst h0;rw[e1]at fin ⊢;refine(Tryz.slices_Sort_string_none none 0 w).mono ?_;rintro en w' ⟨rfl,rfl⟩;exact fin _ ⟨rfl,rfl,rfl,Au _,fun _ _ _=>rfl⟩ ⟨by rw[Ab,hlen];rfl,.inl ⟨rfl,rfl⟩⟩
 ·rw[e1]at fin ⊢;rw[Nat.mul_one,<-js5,<-y5 l]at e7;have hh:=holds_of_block e3 e7;have hs:=Tryz.slices_Sort_string g 0 cap (kp5 l) w hh (Br.1 e3).1 (by rw[y5];exact hl);rw[y5]at hs;refine hs.mono ?_;rintro en w' ⟨rfl,n,os,rfl⟩;refine fin _ (grownBy_sorted _) ?_;have h5:=ownsRow_sorted (ss:=kp5 l) (ts:=Sc.Jt l) (n:=n) (os:=os) (base:=0) (by rw[y5,<-hlen,Ab]) e2 e3 (by rw[y5];exact e4) e5 e6;rw[y5,show(Sc.Jt l).map encStr=((Sc.Jt l).map Sc.toB).map Value.string by rw[<-js5,kg4]]at h5;exact h5
theorem my2 (gl:List (Nat × List D))(q k:Nat)(l:List ByteArray):
 FnE prog gl 33 [.own q k] [(q,.row 9 1 false (l.map .str) k)]
  (fun v H1=>v=.d (.list 1 (((Lib.compact (kp5 l)).map Sc.toB).map .str))/\H1=[(q,.row 9 1 true (((Lib.compact (kp5 l)++List.replicate (l.length - (Lib.compact (kp5 l)).length) []).map Sc.toB).map .str) k)]):=by
 intro w M β us hM hus ho hg;simp only[Cv]at hus;obtain⟨v,r,rfl,hv,rfl⟩:=hus;have hl0:look q [(q,Ob.row 9 1 false (l.map .str) k)]=some (.row 9 1 false (l.map .str) k):=by rw[j5,Ad rfl]
 have hv':v=(β q).v:=hv 9 1 false _ hl0;subst hv';obtain⟨ys,h3,h4⟩:=ho.obs q _ hl0;rw[jj7]at h4;subst h4;rw[Ab]at h3;obtain⟨c,hc⟩:∃ c,c=Lib.compact (kp5 l):=⟨_,rfl⟩;have hcl:c.length<=l.length:=by rw[hc,<-y5 l];exact Lib.compact_length_le _
 rw[<-hc];obtain⟨m,hm⟩:∃ m,m=(c++List.replicate (l.length - c.length) []).map Sc.toB:=⟨_,rfl⟩;rw[<-hm];have hlen:m.length=l.length:=by
  rw[hm,Ab,Ag,Eh];omega
 have hpre:m.take c.length=c.map Sc.toB:=by
  rw[hm,<-Eg,List.take_left'];rfl
 have fin:∀ w' x,w.grownBy w' (β q).v.ownBlock->w'.ownsRow 0 9 1 (β q).v l.length (m.map .string)->(∀ a n cp,(β q).v=.slice a n cp->x=.slice a c.length cp)->∃ (v:V) (x':Value) (H1:List (Nat × Ob)) (β1:Nat->Hd),(v=.d (.list 1 ((c.map Sc.toB).map .str))/\H1=[(q,.row 9 1 true (m.map .str) k)])/\Np [(q,.row 9 1 false (l.map .str) k)] H1 v=true/\Ending.returned x=.returned x'/\Frm (mb5 β [(q,.row 9 1 false (l.map .str) k)]) w w'/\(∀ n,(look n [(q,Ob.row 9 1 false (l.map .str) k)]).isSome=true->(β1 n).v=(β n).v)/\
  (∀ n ob b,look n H1=some ob->own (β1 n) ob b->b∈mb5 β [(q,.row 9 1 false (l.map .str) k)]\/w.heap.size<=b)/\Obs w' M β1 H1/\Dp w' (Mut M β1 H1) β1 H1 v x':=fun w' x g1 g2 g3=>by
  obtain⟨t1,t2,t3⟩:=kc2 (sh':=true) hlen ho hM g1 g2;refine⟨_,x,_,β,⟨rfl,rfl⟩,?_,rfl,t1,fun _ _=>rfl,t2,t3,?_⟩
  ·simp[Np,mj6,mj5,kp4,kf9,j5,Ob.cells,jf3,V.within]
  ·show Gw _ _ _ _;have hcl2:((c.map Sc.toB).map D.str).length=c.length:=by rw[Ab,Ab]
   simp only[Gw];rw[hcl2];rcases g2.2 with ⟨e1,e2⟩|⟨g,cap,cur,e1,e2,e3,e4,e5,e6,e7⟩
   ·have hc0:c.length=0:=by omega
    have hc1:c=[]:=Ar hc0;refine⟨none,0,[],g3 _ _ _ e1,by omega,Ai _,fun _=>rfl,?_,fun j y hj=>by simp at hj⟩;rw[hc1];simp[Gn]
   ·refine⟨some ⟨g,0,none⟩,cap,(c.map Sc.toB).map .string,g3 _ _ _ e1,by omega,e5,fun h=>(by cases h),jj7.2 rfl,fun j y hj=>?_⟩;have hj2:j<c.length:=by
     have:=(Ay.1 hj).1;simpa using this
    refine⟨g,0,rfl,?_,?_⟩
    ·rintro(h|⟨n,ob,h1,h2,h3⟩)
     ·exact ho.out q _ g _ hl0 ((x9 rfl).2 (by rw[e1];rfl)) h
     ·obtain⟨rfl,rfl⟩:=jo3 h1;rcases h3 with h3|h3
      ·cases h3
      ·rw[Ab,hlen]at h3;omega
    ·rw[<-hpre]at hj;rw[Eg,<-e7,List.take_take,List.getElem?_take_of_lt (by omega)]at hj;simp only[World.cell?,e3,Es];simp only[Option.isSome_none,Ba,if_false];rw[<-Array.getElem?_toList];exact hj
 rcases h3.2 with ⟨e1,e2⟩|⟨g,cap,cur,e1,e2,e3,e4,e5,e6,e7⟩
 ·have hc0:c.length=0:=by omega
  rw[e1]at fin ⊢;refine(Tryz.slices_Compact_string_empty none 0 w).mono ?_;rintro en w' ⟨rfl,rfl⟩;refine fin _ _ ⟨rfl,rfl,rfl,Au _,fun _ _ _=>rfl⟩ ⟨by rw[Ab,hlen];omega,.inl ⟨rfl,e2⟩⟩ fun a n cp h=>?_;cases h;rw[hc0]
 ·rw[e1]at fin ⊢;rw[Nat.mul_one,<-js5,<-y5 l]at e7;have hh:=holds_of_block e3 e7;have hs:=Tryz.slices_Compact_string g 0 cap (kp5 l) w hh (by rw[y5];have:maxLen=9223372036854775807:=rfl;omega) (by rw[y5];exact e4);rw[y5,<-hc]at hs;refine hs.mono ?_;rintro en w' ⟨rfl,n,rfl⟩;have hts:(c++List.replicate (l.length - c.length) []).length=(kp5 l).length:=by
   rw[y5,Ag,Eh];omega
  have h5:=ownsRow_sorted (ss:=kp5 l) (ts:=c++List.replicate (l.length - c.length) []) (n:=n) (os:=#[]) (base:=0) hts e2 e3 (by rw[y5];exact e4) e5 e6;have h6:=grownBy_sorted (w:=w) (g:=g) (n:=n) (os:=#[]) (c++List.replicate (l.length - c.length) []).toArray;have hgr:∀ u:World,grow u #[]=u:=grow_empty;rw[hgr]at h5 h6;have h7:List.map encStr (c++List.replicate (l.length - c.length) [])=m.map Value.string:=by rw[hm,<-js5,kg4]
  rw[y5,h7]at h5;refine fin _ _ h6 h5 fun a n cp h=>?_;cases h;rfl
end
section
section
variable {E:Set}{Q:Exit->Sd->Prop}{ops:Array Oper}{draw:Bool}{rest:Todo}{way:Jh}{ty:TypeId}{pos:String}{af:Array Edge}{gd:Option (Nat × Bool)}{dst:Option Tmp}
variable {env:List (Nat × V)}{H:List (Nat × Ob)}{gl:List (Nat × List D)}{d:Nat}
end
end
section
variable {mm:Int}
theorem rl6:∀ (n:Nat) (p:Pr),SizeOf.sizeOf p<=n->∀ (depth left:Int) (pl:Bool),0<=left->left<=2048->0<=depth->depth<=34->
 FnE prog (glS mm) 45 [.ptr 5 0,.d (dPr p),.d (.int .i64 depth),.d (.bool pl)] [(5,.box [.d (.int .i64 left)])]
  (fun v H1=>v=.d (.bool (Lx.Dh depth left pl p).1)/\H1=[(5,.box [.d (.int .i64 (Lx.Dh depth left pl p).2)])]):=by
 intro n
 induction n with
 |zero=>intro p h;cases p;simp only[Pr.mk.sizeOf_spec]at h;omega
 |succ n ih=>
  intro p hp depth left pl h0 h1 h2 h3;exact Vl p depth left pl h0 h1 h2 h3 fun x hx d l q g0 g1 g2 g3=>ih x (by omega) d l q g0 g1 g2 g3
attribute [local irreducible] TR TC
theorem kw1 (p:Pr):FnD prog (glS mm) 28 [.d (dPr p)] (fun v=>v=.d (.bool (Lx.He p))):=by
 have h:=rl6 (mm:=mm) _ p (Au _) 0 2048 true (by omega) (by omega) (by omega) (by omega);unfold Lx.He;rw[j9]at h ⊢
 (refine j7 func28 ntmps28 results28 fun w M=>?_)
 (repeat' first|refine Ca 1 ?_;(refine Cq 1 ?_)|refine Ca 5 ?_;(refine Cq 5 ?_)|refine Ca 8 ?_;refine Cg (hc:=h) ?_|refine yyp ?_|refine yy ?_|refine at_nil ?_;refine Cc [0,1,2,3,4,5,6] ?_|refine Cb fun K hK=>?_|apply_assumption -exfalso -symm)
 (refine j1 (k7 ?_))
 rfl
end
section
def Ub:List Nat:=[0,1,2,3,4,5,6,7]
variable {mm:Int}
namespace Sc
def start (tk:List (ByteArray × Int)):W:=⟨fun _=>[],tk,0,[]⟩
noncomputable def Cx (p:Pr):List ByteArray:=once (Hw (Fx (start []) p).2.ev)
theorem Tf (l:List ByteArray):kp5 ((Jt l).map toB)=Jt l:=kg4 _
end Sc
attribute [local irreducible] TR TC
theorem qh3 (p:Pr)(hw:Lx.He p=true->Sc.Sn p/\kx1 p/\(Sc.start []).fit (Sc.prN p+1)):
 FnD prog (glS mm) 10 [.d (dPr p)] (fun v=>v=.tup [.d (.list 1 (if Lx.He p=true then (Sc.Cx p).map .str else [])),.d (.int .i64 (if Lx.He p=true then 0 else 2))]):=by
 have c1:=kw1 (mm:=mm) p;by_cases hm:Lx.He p=true
 ·obtain⟨hok,hcap,hfit⟩:=hw hm;have c2:=jl6 (glS mm) .free [];have c3:=kg7 (mm:=mm) .free _ p (Au _) hok hcap (Sc.start []) hfit;have hg:=Sc.Ll p (Sc.start []);obtain⟨r,hr⟩:∃ r,r=Sc.Fx (Sc.start []) p:=⟨_,rfl⟩;have hF:Sc.Cx p=Sc.once (Sc.Hw r.2.ev):=by rw[hr];rfl
  rw[<-hr]at c3 hg;have he:=hg.ev;have hroom:=hfit.room;have hlen:=Sc.La r.2.ev;unfold Sc.W.room at hroom;have c4:=qh2 (glS mm) 951 0 (Sc.Hw r.2.ev) (by omega);have c5:=my2 (glS mm) 951 0 ((Sc.Jt (Sc.Hw r.2.ev)).map Sc.toB);rw[Sc.Tf,Sc.Oq,<-hF]at c5;rw[Ad hm,Ad hm];rw[hm]at c1;dsimp only[HW,ja0,z6,Sc.start,Sc.Hw,Ax]at c2 c3;clear hr hg he hroom hlen hfit hok hcap hF;rw[j9]at c1 c3 ⊢
  (refine j7 func10 ntmps10 results10 fun w M=>?_)
  ((repeat' first|refine Ca 1 ?_;(refine Cq 1001 ?_)|refine Ca 4 ?_;(refine j3 903 ?_)|refine Cf 4 ?_;refine halt ?_|refine yyp ?_;try refine Ce ?_ ?_<;>intro hb|refine yy ?_|refine Ch 28 ?_;refine Ck (hc:=c1) ?_;try refine Ce ?_ ?_<;>intro hb|refine at_nil ?_;refine Cc Ub ?_|refine Cb fun K hK=>?_|apply_assumption -exfalso -symm);all_goals try refine unhalt ?_)
  refine jp5 903 951 0 (e:=9) (sz:=1) rfl rfl rfl ?_;refine jm4 (kq4 951 rfl) ?_;refine jm4 (kb0 (n:=903) (q:=951) (i:=0) rfl rfl rfl rfl (by(repeat (first|exact Drop.nil|apply Drop.drop rfl|apply Drop.take rfl));fail_if_success intros) rfl) ?_
  ((repeat' first|refine Ca 9 ?_;refine Cg (hc:=c2) ?_|refine Ca 11 ?_;refine Cg (hc:=c3) ?_|refine Cf 5 ?_;refine halt ?_|refine yyp ?_|refine at_nil ?_;refine Cc Ub ?_|refine Hz ?_ ?_|(apply Hy (x:=.region 4 _ _);focus ((refine Cf 4 ?_;refine j0 [1,3] q0o ?_);(repeat' (first|refine Ca 1 ?_;(refine Cq 1001 ?_)));(all_goals first|exact Wk.refl _ _|exact k8);done))|refine Cb fun K hK=>?_|refine Cf 4 ?_;refine j0 [1,3] q0o ?_|apply_assumption -exfalso -symm);all_goals try refine unhalt ?_)
  all_goals (refine jm4 (ju3 (n:=903) (q:=951) rfl rfl) ?_)
  all_goals (repeat' first|refine Ca 13 ?_;refine Cg (hc:=c4) ?_|refine Ca 15 ?_;refine Cg (hc:=c5) ?_|refine yyp ?_|refine yy ?_|refine at_nil ?_;refine Cc Ub ?_|refine Cb fun K hK=>?_|refine Cf 4 ?_;refine j0 [] (lin [0,9,6,14]) ?_|apply_assumption -exfalso -symm)
  all_goals (refine j1 (k7 ?_))
  all_goals rfl
 ·rw[Ae hm,Ae hm];rw[show Lx.He p=false by simpa using hm]at c1;rw[j9]at c1 ⊢
  (refine j7 func10 ntmps10 results10 fun w M=>?_)
  (repeat' first|refine Ca 1 ?_;(refine Cq 1001 ?_)|refine yyp ?_;try refine Ce ?_ ?_<;>intro hb|refine yy ?_|refine Ch 28 ?_;refine Ck (hc:=c1) ?_;try refine Ce ?_ ?_<;>intro hb|refine at_nil ?_;refine Cc Ub ?_|refine Cb fun K hK=>?_|refine Cf 4 ?_;refine j0 [] (lin [0,9,6,14]) ?_|apply_assumption -exfalso -symm)
  all_goals (refine j1 (k7 ?_))
  all_goals rfl
end
section
def Uc:List Nat:=[0,1,2,3,4,5,6,7,8,9,49]
variable {mm:Int}
namespace Sc
noncomputable def Ij (p:Pr)(ns:List ByteArray):ByteArray × Int:=Ih ns (Fx (start []) p).2.ev
end Sc
attribute [local irreducible] TR TC
theorem qx2 (p:Pr)(nn:List ByteArray)(hw:Lx.He p=true->Sc.Sn p/\kx1 p/\(Sc.start []).fit (Sc.prN p+1)):
 FnD prog (glS mm) 34 [.d (dPr p),.d (.list 1 (nn.map .str))] (fun v=>v=.tup [.d (.str (if Lx.He p=true then (Sc.Ij p nn).1 else ByteArray.empty)),.d (.int .i64 (if Lx.He p=true then (Sc.Ij p nn).2 else 2))]):=by
 have c1:=kw1 (mm:=mm) p;by_cases hm:Lx.He p=true
 ·obtain⟨hok,hcap,hfit⟩:=hw hm;have c2:=jl6 (glS mm) (.check nn) [];have c3:=kg7 (mm:=mm) (.check nn) _ p (Au _) hok hcap (Sc.start []) hfit;have hF:Sc.Ij p nn=Sc.Ih nn (Sc.Fx (Sc.start []) p).2.ev:=rfl;obtain⟨r,hr⟩:∃ r,r=Sc.Fx (Sc.start []) p:=⟨_,rfl⟩;rw[<-hr]at c3 hF;rw[Ad hm,Ad hm,hF];rw[hm]at c1;dsimp only[HW,ja0,z6,Sc.start,Sc.Ih,Ax]at c2 c3;clear hr hfit hok hcap hF;rw[j9]at c1 c3 ⊢
  (refine j7 func34 ntmps34 results34 fun w M=>?_)
  (repeat' first|refine Ca 2 ?_;(refine Cq 1002 ?_)|refine Ca 3 ?_;(refine Cq 903 ?_)|refine Ca 4 ?_;(refine j3 904 ?_)|refine Ca 5 ?_;(refine j3 905 ?_)|refine Ca 8 ?_;refine yyp ?_;try refine Ce ?_ ?_<;>intro hb|refine yyp ?_|refine yy ?_|refine Ch 28 ?_;refine Ck (hc:=c1) ?_|refine at_nil ?_;refine Cc Uc ?_|(apply Hy (x:=.region 3 _ _);focus ((refine Cf 3 ?_;refine j0 [1,3] q0o ?_);(repeat' (first|refine Ca 10 ?_;refine Cg (hc:=c2) ?_|refine Ca 12 ?_;refine Cg (hc:=c3) ?_|refine yyp ?_|refine at_nil ?_;refine Cc Uc ?_|refine Hz ?_ ?_));(all_goals first|exact Wk.refl _ _|exact k8);done))|(apply Hy (x:=.region 4 _ _);focus ((refine Cf 4 ?_;refine j0 [2,3] q0n ?_);(repeat' (first|refine yyp ?_|refine yy ?_|refine at_nil ?_;refine Cc Uc ?_|refine Hz ?_ ?_));(all_goals first|exact Wk.refl _ _|exact k8);done))|refine Cb fun K hK=>?_|refine Cf 3 ?_;refine j0 [1,3] q0o ?_|refine Cf 4 ?_;refine j0 [2,3] q0n ?_|apply_assumption -exfalso -symm)
  all_goals (refine j1 (k7 ?_ (Res.cell rfl rfl rfl (Arg.d _) (Res.cell rfl rfl rfl (Arg.d _) Res.nil))))
  all_goals rfl
 ·rw[Ae hm,Ae hm];rw[show Lx.He p=false by simpa using hm]at c1;rw[j9]at c1 ⊢
  (refine j7 func34 ntmps34 results34 fun w M=>?_)
  (repeat' first|refine Ca 2 ?_;(refine Cq 1002 ?_)|refine Ca 3 ?_;(refine Cq 1003 ?_)|refine Ca 4 ?_;(refine j3 1004 ?_)|refine Ca 5 ?_;(refine j3 1005 ?_)|refine yyp ?_;try refine Ce ?_ ?_<;>intro hb|refine yy ?_|refine Ch 28 ?_;refine Ck (hc:=c1) ?_;try refine Ce ?_ ?_<;>intro hb|refine at_nil ?_;refine Cc Uc ?_|(apply Hy (x:=.region 4 _ _);focus ((refine Cf 4 ?_;refine j0 [2,3] q0n ?_);(repeat' (first|refine Ca 2 ?_;(refine Cq 1002 ?_)));(all_goals first|exact Wk.refl _ _|exact k8);done))|refine Cb fun K hK=>?_|refine Cf 3 ?_;refine j0 [] (lin [0,9,6,14]) ?_|refine Cf 4 ?_;refine j0 [2,3] q0n ?_|apply_assumption -exfalso -symm)
  all_goals (refine j1 (k7 ?_ (Res.cell rfl rfl rfl (Arg.d _) (Res.cell rfl rfl rfl (Arg.d _) Res.nil))))
  all_goals rfl
end
end Go.Proofs.YtklklgfpkpglgaaGreatDoor
