/- Parts. -/
import Derived.Sort.OwnSorted
import Derived.Lib.RowBridge
import Derived.Test.YtklklgfpkpglgaaGreatDoorW21
import Derived.Test.YtklklgfpkpglgaaGreatDoorW32
set_option linter.all false
set_option maxRecDepth 100000
set_option maxHeartbeats 0
namespace Go.Proofs.YtklklgfpkpglgaaGreatDoor
open Go.RowKit Go.Proofs.Tryz Sc Lx
variable (gl:List (Nat × List D))
section
open Go.RowKit Go.Sort
def ko0 (l:List ByteArray):List (List UInt8):=l.map λs=>s.data.toList
theorem l6 (l:List ByteArray):(ko0 l).length=l.length:=Aa ..
theorem rm5 (s:ByteArray):Sc.toB s.data.toList=s:=by simp[Sc.toB]
theorem rm6 (s:List UInt8):(Sc.toB s).data.toList=s:=by simp[Sc.toB]
theorem kf4 (l:List (List UInt8)):ko0 (l.map Sc.toB)=l:=by
 unfold ko0;rw[List.map_map]
 conv=>rhs;rw[<-List.map_id l]
 exact List.map_congr_left λs _=>rm6 s
theorem js5 (l:List ByteArray):(ko0 l).map encStr=l.map Value.string:=by
 unfold ko0;rw[List.map_map];exact List.map_congr_left λs _=>congrArg Value.string (rm5 s)
theorem jj5 {w:World}{M:Nat->Nat->Prop}:∀ {l:List ByteArray} {ys:List Value},Gg w M 1 (l.map .str) ys↔ys=l.map Value.string
 |[],ys=>by simp[Gg]
 |s::l,ys=>by
  simp only[Ap,Gg];constructor
  ·rintro⟨v,r,rfl,_,h3,h4⟩;simp only[Gm]at h3;subst h3;rw[jj5.1 h4];rfl
  ·rintro rfl;exact⟨.string s,l.map .string,rfl,rfl,rfl,jj5.2 rfl⟩
theorem jo2 {q m:Nat}{ob ob':Ob}(h:look m [(q,ob)]=some ob'):m=q/\ob'=ob:=by
 rw[j7]at h;split at h
 ·rename_i e';cases h;exact⟨e'.symm,rfl⟩
 ·cases h
theorem ml3 (v:Value)(h:∃ a n c,v=.slice a n c):hb v=v.ownBlock:=by
 obtain⟨a,n,c,rfl⟩:=h;cases a<;>rfl
theorem kb3 {w w':World}{M:Nat->Nat->Prop}{β:Nat->Hd}{q e k:Nat}{sh sh':Bool}{l m:List ByteArray}(hlen:m.length=l.length)(ho:Obs w M β [(q,.row e 1 sh (l.map .str) k)])(hM:∀ b o,M b o->b<w.heap.size)
 (hg:w.grownBy w' (β q).v.ownBlock) (hm:w'.ownsRow 0 e 1 (β q).v l.length (m.map .string)):
 Frm (ma3 β [(q,.row e 1 sh (l.map .str) k)]) w w'/\(∀ n ob b,look n [(q,Ob.row e 1 sh' (m.map .str) k)]=some ob->own (β n) ob b->b∈ma3 β [(q,.row e 1 sh (l.map .str) k)]\/w.heap.size<=b)/\Obs w' M β [(q,.row e 1 sh' (m.map .str) k)]:=by
 have hs:∃ a n c,(β q).v=.slice a n c:=by
  rcases hm.2 with ⟨h,_⟩|⟨g,cap,cur,h,_⟩
  ·exact⟨_,_,_,h⟩
  ·exact⟨_,_,_,h⟩
 have hown:∀ b (sh':Bool) (xs:List D),own (β q) (.row e 1 sh' xs k) b↔(β q).v.ownBlock=some b:=λb sh' xs=>by
  rw[z8 rfl,ml3 _ hs]
 have hl0:look q [(q,Ob.row e 1 sh (l.map .str) k)]=some (.row e 1 sh (l.map .str) k):=by rw[j7,Ae rfl]
 have hin:∀ b,(β q).v.ownBlock=some b->b∈ma3 β [(q,Ob.row e 1 sh (l.map .str) k)]:=λb hb2=>jj1.2 ⟨q,_,hl0,(hown b _ _).2 hb2⟩;obtain⟨g1,g2,g3,g4,g5⟩:=hg;refine⟨⟨?_,?_,?_,g4,λb hb2 hnot=>g5 b hb2 λe1=>hnot (hin b e1.symm)⟩,λn ob b h1 h2=>?_,⟨λn ob h1=>?_,λn n' b ob ob' hne h1 h2 _=>?_,λn ob b o h1 h2 h3=>?_⟩⟩
 ·first|exact g1|exact g2|exact g3
 ·first|exact g1|exact g2|exact g3
 ·first|exact g1|exact g2|exact g3
 ·obtain⟨rfl,rfl⟩:=jo2 h1;exact .inl (hin b ((hown b _ _).1 h2))
 ·obtain⟨rfl,rfl⟩:=jo2 h1;refine⟨m.map .string,?_,jj5.2 rfl⟩;rw[Aa,hlen];exact hm
 ·obtain⟨rfl,_⟩:=jo2 h1;obtain⟨rfl,_⟩:=jo2 h2;exact absurd rfl hne
 ·obtain⟨rfl,rfl⟩:=jo2 h1;exact ho.out n _ b o hl0 ((hown b _ _).2 ((hown b _ _).1 h2)) h3
theorem qh4 (q k:Nat)(l:List ByteArray)(hl:l.length<4611686018427387904):
 FnE prog gl 32 [.own q k] [(q,.row 9 1 false (l.map .str) k)] (λv H1=>v=.tup []/\H1=[(q,.row 9 1 false (((Jz l).map Sc.toB).map .str) k)]):=by
 intro w M β us hM hus ho hg;simp only[Ct]at hus;obtain⟨v,r,rfl,hv,rfl⟩:=hus;have hl0:look q [(q,Ob.row 9 1 false (l.map .str) k)]=some (.row 9 1 false (l.map .str) k):=by rw[j7,Ae rfl]
 have hv':v=(β q).v:=hv 9 1 false _ hl0;subst hv';obtain⟨ys,h3,h4⟩:=ho.obs q _ hl0;rw[jj5]at h4;subst h4;rw[Aa]at h3;have hlen:((Jz l).map Sc.toB).length=l.length:=by
  rw[Aa];unfold Jz;rw[List.length_mergeSort,Aa]
 have fin:∀ w',w.grownBy w' (β q).v.ownBlock->w'.ownsRow 0 9 1 (β q).v l.length (((Jz l).map Sc.toB).map .string)->∃ (v:V) (x:Value) (H1:List (Nat × Ob)) (β1:Nat->Hd),(v=.tup []/\H1=[(q,.row 9 1 false (((Jz l).map Sc.toB).map .str) k)])/\Nt [(q,.row 9 1 false (l.map .str) k)] H1 v=true/\Ending.returned (Value.tuple #[])=.returned x/\Frm (ma3 β [(q,.row 9 1 false (l.map .str) k)]) w w'/\(∀ n,(look n [(q,Ob.row 9 1 false (l.map .str) k)]).isSome=true->(β1 n).v=(β n).v)/\
  (∀ n ob b,look n H1=some ob->own (β1 n) ob b->b∈ma3 β [(q,.row 9 1 false (l.map .str) k)]\/w.heap.size<=b)/\Obs w' M β1 H1/\Dh w' (Mut M β1 H1) β1 H1 v x:=λw' g1 g2=>by
  obtain⟨t1,t2,t3⟩:=kb3 (sh':=false) hlen ho hM g1 g2;refine⟨.tup [],_,_,β,⟨rfl,rfl⟩,?_,rfl,t1,λ_ _=>rfl,t2,t3,[],rfl,rfl⟩;simp[Nt,mi0,mh9,kn9,ke7,j7,Ob.cells,jf5,V.within]
 rcases h3.2 with ⟨e1,e2⟩|⟨g,cap,cur,e1,e2,e3,e4,e5,e6,e7⟩
 ·have h0:l=[]:=As e2;subst h0;rw[e1]at fin ⊢;refine(Tryz.slices_Sort_string_none none 0 w).mono ?_;rintro en w' ⟨rfl,rfl⟩;exact fin _ ⟨rfl,rfl,rfl,Au _,λ_ _ _=>rfl⟩ ⟨by rw[Aa,hlen];rfl,.inl ⟨rfl,rfl⟩⟩
 ·rw[e1]at fin ⊢;rw[Nat.mul_one,<-js5,<-l6 l]at e7;have hh:=holds_of_block e3 e7;have hs:=Tryz.slices_Sort_string g 0 cap (ko0 l) w hh (Bv.1 e3).1 (by rw[l6];exact hl);rw[l6]at hs;refine hs.mono ?_;rintro en w' ⟨rfl,n,os,rfl⟩;refine fin _ (grownBy_sorted _) ?_;have h5:=ownsRow_sorted (ss:=ko0 l) (ts:=Jz l) (n:=n) (os:=os) (base:=0) (by rw[l6,<-hlen,Aa]) e2 e3 (by rw[l6];exact e4) e5 e6;rw[l6,show(Jz l).map encStr=((Jz l).map Sc.toB).map Value.string by rw[<-js5,kf4]]at h5;exact h5
theorem mv8 (q k:Nat)(l:List ByteArray):
 FnE prog gl 33 [.own q k] [(q,.row 9 1 false (l.map .str) k)]
  (λv H1=>v=.d (.list 1 (((Lib.compact (ko0 l)).map Sc.toB).map .str))/\H1=[(q,.row 9 1 true (((Lib.compact (ko0 l)++List.replicate (l.length - (Lib.compact (ko0 l)).length) []).map Sc.toB).map .str) k)]):=by
 intro w M β us hM hus ho hg;simp only[Ct]at hus;obtain⟨v,r,rfl,hv,rfl⟩:=hus;have hl0:look q [(q,Ob.row 9 1 false (l.map .str) k)]=some (.row 9 1 false (l.map .str) k):=by rw[j7,Ae rfl]
 have hv':v=(β q).v:=hv 9 1 false _ hl0;subst hv';obtain⟨ys,h3,h4⟩:=ho.obs q _ hl0;rw[jj5]at h4;subst h4;rw[Aa]at h3;obtain⟨c,hc⟩:∃ c,c=Lib.compact (ko0 l):=⟨_,rfl⟩;have hcl:c.length<=l.length:=by rw[hc,<-l6 l];exact Lib.compact_length_le _
 rw[<-hc];obtain⟨m,hm⟩:∃ m,m=(c++List.replicate (l.length - c.length) []).map Sc.toB:=⟨_,rfl⟩;rw[<-hm];have hlen:m.length=l.length:=by
  rw[hm,Aa,Ag,El];omega
 have hpre:m.take c.length=c.map Sc.toB:=by
  rw[hm,<-Ek,List.take_left'];rfl
 have fin:∀ w' x,w.grownBy w' (β q).v.ownBlock->w'.ownsRow 0 9 1 (β q).v l.length (m.map .string)->(∀ a n cp,(β q).v=.slice a n cp->x=.slice a c.length cp)->∃ (v:V) (x':Value) (H1:List (Nat × Ob)) (β1:Nat->Hd),(v=.d (.list 1 ((c.map Sc.toB).map .str))/\H1=[(q,.row 9 1 true (m.map .str) k)])/\Nt [(q,.row 9 1 false (l.map .str) k)] H1 v=true/\Ending.returned x=.returned x'/\Frm (ma3 β [(q,.row 9 1 false (l.map .str) k)]) w w'/\(∀ n,(look n [(q,Ob.row 9 1 false (l.map .str) k)]).isSome=true->(β1 n).v=(β n).v)/\
  (∀ n ob b,look n H1=some ob->own (β1 n) ob b->b∈ma3 β [(q,.row 9 1 false (l.map .str) k)]\/w.heap.size<=b)/\Obs w' M β1 H1/\Dh w' (Mut M β1 H1) β1 H1 v x':=λw' x g1 g2 g3=>by
  obtain⟨t1,t2,t3⟩:=kb3 (sh':=true) hlen ho hM g1 g2;refine⟨_,x,_,β,⟨rfl,rfl⟩,?_,rfl,t1,λ_ _=>rfl,t2,t3,?_⟩
  ·simp[Nt,mi0,mh9,kn9,ke7,j7,Ob.cells,jf5,V.within]
  ·show Gm _ _ _ _;have hcl2:((c.map Sc.toB).map D.str).length=c.length:=by rw[Aa,Aa]
   simp only[Gm];rw[hcl2];rcases g2.2 with ⟨e1,e2⟩|⟨g,cap,cur,e1,e2,e3,e4,e5,e6,e7⟩
   ·have hc0:c.length=0:=by omega
    have hc1:c=[]:=As hc0;refine⟨none,0,[],g3 _ _ _ e1,by omega,Ai _,λ_=>rfl,?_,λj y hj=>by simp at hj⟩;rw[hc1];simp[Gg]
   ·refine⟨some ⟨g,0,none⟩,cap,(c.map Sc.toB).map .string,g3 _ _ _ e1,by omega,e5,λh=>(by cases h),jj5.2 rfl,λj y hj=>?_⟩;have hj2:j<c.length:=by
     have:=(Bb.1 hj).1;simpa using this
    refine⟨g,0,rfl,?_,?_⟩
    ·rintro(h|⟨n,ob,h1,h2,h3⟩)
     ·exact ho.out q _ g _ hl0 ((z8 rfl).2 (by rw[e1];rfl)) h
     ·obtain⟨rfl,rfl⟩:=jo2 h1;rcases h3 with h3|h3
      ·cases h3
      ·rw[Aa,hlen]at h3;omega
    ·rw[<-hpre]at hj;rw[Ek,<-e7,List.take_take,List.getElem?_take_of_lt (by omega)]at hj;simp only[World.cell?,e3,Eu];simp only[Option.isSome_none,Az,if_false];rw[<-Array.getElem?_toList];exact hj
 rcases h3.2 with ⟨e1,e2⟩|⟨g,cap,cur,e1,e2,e3,e4,e5,e6,e7⟩
 ·have hc0:c.length=0:=by omega
  rw[e1]at fin ⊢;refine(Tryz.slices_Compact_string_empty none 0 w).mono ?_;rintro en w' ⟨rfl,rfl⟩;refine fin _ _ ⟨rfl,rfl,rfl,Au _,λ_ _ _=>rfl⟩ ⟨by rw[Aa,hlen];omega,.inl ⟨rfl,e2⟩⟩ λa n cp h=>?_;cases h;rw[hc0]
 ·rw[e1]at fin ⊢;rw[Nat.mul_one,<-js5,<-l6 l]at e7;have hh:=holds_of_block e3 e7;have hs:=Tryz.slices_Compact_string g 0 cap (ko0 l) w hh (by rw[l6];have:maxLen=9223372036854775807:=rfl;omega) (by rw[l6];exact e4);rw[l6,<-hc]at hs;refine hs.mono ?_;rintro en w' ⟨rfl,n,rfl⟩;have hts:(c++List.replicate (l.length - c.length) []).length=(ko0 l).length:=by
   rw[l6,Ag,El];omega
  have h5:=ownsRow_sorted (ss:=ko0 l) (ts:=c++List.replicate (l.length - c.length) []) (n:=n) (os:=#[]) (base:=0) hts e2 e3 (by rw[l6];exact e4) e5 e6;have h6:=grownBy_sorted (w:=w) (g:=g) (n:=n) (os:=#[]) (c++List.replicate (l.length - c.length) []).toArray;have hgr:∀ u:World,grow u #[]=u:=grow_empty;rw[hgr]at h5 h6;have h7:List.map encStr (c++List.replicate (l.length - c.length) [])=m.map Value.string:=by rw[hm,<-js5,kf4]
  rw[l6,h7]at h5;refine fin _ _ h6 h5 λa n cp h=>?_;cases h;rfl
end
section
section
variable {E:Set}{Q:Exit->Sd->Prop}{ops:Array Oper}{draw:Bool}{rest:Todo}{way:Jj}{ty:TypeId}{pos:String}{af:Array Edge}{gd:Option (Nat × Bool)}{dst:Option Tmp}
variable {env:List (Nat × V)}{H:List (Nat × Ob)}{gl:List (Nat × List D)}{d:Nat}
end
end
section
variable {mm:Int}
theorem rm7:∀ (n:Nat) (p:Pr),SizeOf.sizeOf p<=n->∀ (depth left:Int) (pl:Bool),0<=left->left<=2048->0<=depth->depth<=34->
 FnE prog (glS mm) 45 [.ptr 5 0,.d (dPr p),.d (.int .i64 depth),.d (.bool pl)] [(5,.box [.d (.int .i64 left)])]
  (λv H1=>v=.d (.bool (Dw depth left pl p).1)/\H1=[(5,.box [.d (.int .i64 (Dw depth left pl p).2)])]):=by
 intro n
 induction n with
 |zero=>intro p h;cases p;simp only[Pr.mk.sizeOf_spec]at h;omega
 |succ n ih=>
  intro p hp depth left pl h0 h1 h2 h3;exact rl4 p depth left pl h0 h1 h2 h3 λx hx d l q g0 g1 g2 g3=>ih x (by omega) d l q g0 g1 g2 g3
attribute [local irreducible] TR TC
theorem kv7 (p:Pr):FnD prog (glS mm) 28 [.d (dPr p)] (λv=>v=.d (.bool (Gr p))):=by
 have h:=rm7 (mm:=mm) _ p (Au _) 0 2048 true (by omega) (by omega) (by omega) (by omega);unfold Gr;rw[v6]at h ⊢
 (refine j5 func28 ntmps28 results28 λw M=>?_)
 (repeat' first|apply Ca 1;(refine Cm 1 ?_)|apply Ca 5;(refine Cm 5 ?_)|apply Ca 8;refine Ch (hc:=h) ?_|refine yyp ?_|refine yy ?_|apply ah;refine Cc [0,1,2,3,4,5,6] ?_|refine Cb λK hK=>?_|apply_assumption -exfalso -symm)
 (refine j1 (j8 ?_))
 rfl
end
section
def Vg:List Nat:=[0,1,2,3,4,5,6,7]
variable {mm:Int}
namespace Sc
def start (tk:List (ByteArray × Int)):W:=⟨λ_=>[],tk,0,[]⟩
noncomputable def Db (p:Pr):List ByteArray:=once (Hr (Dp (start []) p).2.ev)
theorem Uh (l:List ByteArray):ko0 ((Jz l).map toB)=Jz l:=kf4 _
end Sc
attribute [local irreducible] TR TC
theorem rm8 (p:Pr)(hw:Gr p=true->Uu p/\kv4 p/\(Sc.start []).fit (Sc.prN p+1)):
 FnD prog (glS mm) 10 [.d (dPr p)] (λv=>v=.tup [.d (.list 1 (if Gr p=true then (Db p).map .str else [])),.d (.int .i64 (if Gr p=true then 0 else 2))]):=by
 have c1:=kv7 (mm:=mm) p;by_cases hm:Gr p=true
 ·obtain⟨hok,hcap,hfit⟩:=hw hm;have c2:=jl0 (glS mm) .free [];have c3:=kf3 (mm:=mm) .free _ p (Au _) hok hcap (Sc.start []) hfit;have hg:=Me p (Sc.start []);obtain⟨r,hr⟩:∃ r,r=Dp (Sc.start []) p:=⟨_,rfl⟩;have hF:Db p=Sc.once (Hr r.2.ev):=by rw[hr];rfl
  rw[<-hr]at c3 hg;have he:=hg.ev;have hroom:=hfit.room;have hlen:=Lm r.2.ev;unfold W.room at hroom;have c4:=qh4 (glS mm) 951 0 (Hr r.2.ev) (by omega);have c5:=mv8 (glS mm) 951 0 ((Jz (Hr r.2.ev)).map Sc.toB);rw[Uh,Ph,<-hF]at c5;rw[Ae hm,Ae hm];rw[hm]at c1;dsimp only[HW,ja9,n7,Sc.start,Hr,Ba]at c2 c3;clear hr hg he hroom hlen hfit hok hcap hF;rw[v6]at c1 c3 ⊢
  (refine j5 func10 ntmps10 results10 λw M=>?_)
  ((repeat' first|apply Ca 1;(refine Cm 1001 ?_)|apply Ca 4;(refine j3 903 ?_)|apply Cf 4;refine halt ?_|refine yyp ?_;try refine Ce ?_ ?_<;>intro hb|refine yy ?_|apply Cg 28;refine Ci (hc:=c1) ?_;try refine Ce ?_ ?_<;>intro hb|apply ah;refine Cc Vg ?_|refine Cb λK hK=>?_|apply_assumption -exfalso -symm);all_goals try refine unhalt ?_)
  refine jp5 903 951 0 (e:=9) (sz:=1) rfl rfl rfl ?_;refine jm1 (kp8 951 rfl) ?_;refine jm1 (ka2 (n:=903) (q:=951) (i:=0) rfl rfl rfl rfl (by(repeat (first|exact Drop.nil|apply Drop.drop rfl|apply Drop.take rfl));fail_if_success intros) rfl) ?_
  ((repeat' first|apply Ca 9;refine Ch (hc:=c2) ?_|apply Ca 11;refine Ch (hc:=c3) ?_|apply Cf 5;refine halt ?_|refine yyp ?_|apply ah;refine Cc Vg ?_|refine Ht ?_ ?_|(apply Gn (x:=.region 4 _ _);focus ((apply Cf 4;refine j0 [1,3] q0p ?_);(repeat' (first|apply Ca 1;(refine Cm 1001 ?_)));(all_goals first|exact Wk.refl _ _|exact r9);done))|refine Cb λK hK=>?_|apply Cf 4;refine j0 [1,3] q0p ?_|apply_assumption -exfalso -symm);all_goals try refine unhalt ?_)
  all_goals (refine jm1 (ju5 (n:=903) (q:=951) rfl rfl) ?_)
  all_goals (repeat' first|apply Ca 13;refine Ch (hc:=c4) ?_|apply Ca 15;refine Ch (hc:=c5) ?_|refine yyp ?_|refine yy ?_|apply ah;refine Cc Vg ?_|refine Cb λK hK=>?_|apply Cf 4;refine j0 [] (lin [0,9,6,14]) ?_|apply_assumption -exfalso -symm)
  all_goals (refine j1 (j8 ?_))
  all_goals rfl
 ·rw[Af hm,Af hm];rw[show Gr p=false by simpa using hm]at c1;rw[v6]at c1 ⊢
  (refine j5 func10 ntmps10 results10 λw M=>?_)
  (repeat' first|apply Ca 1;(refine Cm 1001 ?_)|refine yyp ?_;try refine Ce ?_ ?_<;>intro hb|refine yy ?_|apply Cg 28;refine Ci (hc:=c1) ?_;try refine Ce ?_ ?_<;>intro hb|apply ah;refine Cc Vg ?_|refine Cb λK hK=>?_|apply Cf 4;refine j0 [] (lin [0,9,6,14]) ?_|apply_assumption -exfalso -symm)
  all_goals (refine j1 (j8 ?_))
  all_goals rfl
end
section
def Vh:List Nat:=[0,1,2,3,4,5,6,7,8,9,49]
variable {mm:Int}
namespace Sc
noncomputable def Kb (p:Pr)(ns:List ByteArray):ByteArray × Int:=Hz ns (Dp (start []) p).2.ev
end Sc
attribute [local irreducible] TR TC
theorem qx6 (p:Pr)(nn:List ByteArray)(hw:Gr p=true->Uu p/\kv4 p/\(Sc.start []).fit (Sc.prN p+1)):
 FnD prog (glS mm) 34 [.d (dPr p),.d (.list 1 (nn.map .str))] (λv=>v=.tup [.d (.str (if Gr p=true then (Kb p nn).1 else ByteArray.empty)),.d (.int .i64 (if Gr p=true then (Kb p nn).2 else 2))]):=by
 have c1:=kv7 (mm:=mm) p;by_cases hm:Gr p=true
 ·obtain⟨hok,hcap,hfit⟩:=hw hm;have c2:=jl0 (glS mm) (.check nn) [];have c3:=kf3 (mm:=mm) (.check nn) _ p (Au _) hok hcap (Sc.start []) hfit;have hF:Kb p nn=Hz nn (Dp (Sc.start []) p).2.ev:=rfl;obtain⟨r,hr⟩:∃ r,r=Dp (Sc.start []) p:=⟨_,rfl⟩;rw[<-hr]at c3 hF;rw[Ae hm,Ae hm,hF];rw[hm]at c1;dsimp only[HW,ja9,n7,Sc.start,Hz,Ba]at c2 c3;clear hr hfit hok hcap hF;rw[v6]at c1 c3 ⊢
  (refine j5 func34 ntmps34 results34 λw M=>?_)
  (repeat' first|apply Ca 2;(refine Cm 1002 ?_)|apply Ca 3;(refine Cm 903 ?_)|apply Ca 4;(refine j3 904 ?_)|apply Ca 5;(refine j3 905 ?_)|apply Ca 8;refine yyp ?_;try refine Ce ?_ ?_<;>intro hb|refine yyp ?_|refine yy ?_|apply Cg 28;refine Ci (hc:=c1) ?_|apply ah;refine Cc Vh ?_|(apply Gn (x:=.region 3 _ _);focus ((apply Cf 3;refine j0 [1,3] q0p ?_);(repeat' (first|apply Ca 10;refine Ch (hc:=c2) ?_|apply Ca 12;refine Ch (hc:=c3) ?_|refine yyp ?_|apply ah;refine Cc Vh ?_|refine Ht ?_ ?_));(all_goals first|exact Wk.refl _ _|exact r9);done))|(apply Gn (x:=.region 4 _ _);focus ((apply Cf 4;refine j0 [2,3] q0o ?_);(repeat' (first|refine yyp ?_|refine yy ?_|apply ah;refine Cc Vh ?_|refine Ht ?_ ?_));(all_goals first|exact Wk.refl _ _|exact r9);done))|refine Cb λK hK=>?_|apply Cf 3;refine j0 [1,3] q0p ?_|apply Cf 4;refine j0 [2,3] q0o ?_|apply_assumption -exfalso -symm)
  all_goals (refine j1 (j8 ?_ (Res.cell rfl rfl rfl (Arg.d _) (Res.cell rfl rfl rfl (Arg.d _) Res.nil))))
  all_goals rfl
 ·rw[Af hm,Af hm];rw[show Gr p=false by simpa using hm]at c1;rw[v6]at c1 ⊢
  (refine j5 func34 ntmps34 results34 λw M=>?_)
  (repeat' first|apply Ca 2;(refine Cm 1002 ?_)|apply Ca 3;(refine Cm 1003 ?_)|apply Ca 4;(refine j3 1004 ?_)|apply Ca 5;(refine j3 1005 ?_)|refine yyp ?_;try refine Ce ?_ ?_<;>intro hb|refine yy ?_|apply Cg 28;refine Ci (hc:=c1) ?_;try refine Ce ?_ ?_<;>intro hb|apply ah;refine Cc Vh ?_|(apply Gn (x:=.region 4 _ _);focus ((apply Cf 4;refine j0 [2,3] q0o ?_);(repeat' (first|apply Ca 2;(refine Cm 1002 ?_)));(all_goals first|exact Wk.refl _ _|exact r9);done))|refine Cb λK hK=>?_|apply Cf 3;refine j0 [] (lin [0,9,6,14]) ?_|apply Cf 4;refine j0 [2,3] q0o ?_|apply_assumption -exfalso -symm)
  all_goals (refine j1 (j8 ?_ (Res.cell rfl rfl rfl (Arg.d _) (Res.cell rfl rfl rfl (Arg.d _) Res.nil))))
  all_goals rfl
end
end Go.Proofs.YtklklgfpkpglgaaGreatDoor
