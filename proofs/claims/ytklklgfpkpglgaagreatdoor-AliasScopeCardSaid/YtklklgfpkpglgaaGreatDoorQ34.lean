/- Parts. -/
import Derived.Sort.OwnSorted
import Derived.Lib.RowBridge
import Derived.Test.YtklklgfpkpglgaaGreatDoorQ22
import Derived.Test.YtklklgfpkpglgaaGreatDoorQ33
set_option linter.all false
set_option maxRecDepth 100000
set_option maxHeartbeats 0
namespace Go.Proofs.YtklklgfpkpglgaaGreatDoor
open Go.RowKit Go.Proofs.Tryz Sc Lx
variable (gl:List (Nat × List D))
theorem n5 {n k:Nat}{ob ob':Ob}(h:look k [(n,ob)]=some ob'):k=n/\ob'=ob:=by
 rw[j6]at h;split at h
 ·rename_i e;cases h;exact⟨e.symm,rfl⟩
 ·cases h
section
open Go.RowKit Go.Sort
def kp3 (l:List ByteArray):List (List UInt8):=l.map λs=>s.data.toList
theorem l7 (l:List ByteArray):(kp3 l).length=l.length:=Ab ..
theorem rw2 (s:ByteArray):Sc.toB s.data.toList=s:=by simp[Sc.toB]
theorem rw3 (s:List UInt8):(Sc.toB s).data.toList=s:=by simp[Sc.toB]
theorem kf4 (l:List (List UInt8)):kp3 (l.map Sc.toB)=l:=by
 unfold kp3;rw[List.map_map]
 conv=>rhs;rw[<-List.map_id l]
 exact List.map_congr_left λs _=>rw3 s
theorem jr5 (l:List ByteArray):(kp3 l).map encStr=l.map Value.string:=by
 unfold kp3;rw[List.map_map];exact List.map_congr_left λs _=>congrArg Value.string (rw2 s)
theorem ji6 {w:World}{M:Nat->Nat->Prop}:∀ {l:List ByteArray} {ys:List Value},Gb w M 1 (l.map .str) ys↔ys=l.map Value.string
 |[],ys=>by simp[Gb]
 |s::l,ys=>by
  simp only[List.map_cons,Gb];constructor
  ·rintro⟨v,r,rfl,_,h3,h4⟩;simp only[Gv]at h3;subst h3;rw[ji6.1 h4];rfl
  ·rintro rfl;exact⟨.string s,l.map .string,rfl,rfl,rfl,ji6.2 rfl⟩
theorem mo2 (v:Value)(h:∃ a n c,v=.slice a n c):hb v=v.ownBlock:=by
 obtain⟨a,n,c,rfl⟩:=h;cases a<;>rfl
theorem ka7 {w w':World}{M:Nat->Nat->Prop}{β:Nat->Hd}{q e k:Nat}{sh sh':Bool}{l m:List ByteArray}(hlen:m.length=l.length)(ho:Obs w M β [(q,.row e 1 sh (l.map .str) k)])(hM:∀ b o,M b o->b<w.heap.size)
 (hg:w.grownBy w' (β q).v.ownBlock) (hm:w'.ownsRow 0 e 1 (β q).v l.length (m.map .string)):
 Frm (kp2 β [(q,.row e 1 sh (l.map .str) k)]) w w'/\(∀ n ob b,look n [(q,Ob.row e 1 sh' (m.map .str) k)]=some ob->own (β n) ob b->b∈kp2 β [(q,.row e 1 sh (l.map .str) k)]\/w.heap.size<=b)/\Obs w' M β [(q,.row e 1 sh' (m.map .str) k)]:=by
 have hs:∃ a n c,(β q).v=.slice a n c:=by
  rcases hm.2 with ⟨h,_⟩|⟨g,cap,cur,h,_⟩
  ·exact⟨_,_,_,h⟩
  ·exact⟨_,_,_,h⟩
 have hown:∀ b (sh':Bool) (xs:List D),own (β q) (.row e 1 sh' xs k) b↔(β q).v.ownBlock=some b:=λb sh' xs=>by
  rw[z8 rfl,mo2 _ hs]
 have hl0:look q [(q,Ob.row e 1 sh (l.map .str) k)]=some (.row e 1 sh (l.map .str) k):=by rw[j6,Ad rfl]
 have hin:∀ b,(β q).v.ownBlock=some b->b∈kp2 β [(q,Ob.row e 1 sh (l.map .str) k)]:=λb hb2=>ji2.2 ⟨q,_,hl0,(hown b _ _).2 hb2⟩;obtain⟨g1,g2,g3,g4,g5⟩:=hg;refine⟨⟨?_,?_,?_,g4,λb hb2 hnot=>g5 b hb2 λe1=>hnot (hin b e1.symm)⟩,λn ob b h1 h2=>?_,⟨λn ob h1=>?_,λn n' b ob ob' hne h1 h2 _=>?_,λn ob b o h1 h2 h3=>?_⟩⟩
 ·first|exact g1|exact g2|exact g3
 ·first|exact g1|exact g2|exact g3
 ·first|exact g1|exact g2|exact g3
 ·obtain⟨rfl,rfl⟩:=n5 h1;exact .inl (hin b ((hown b _ _).1 h2))
 ·obtain⟨rfl,rfl⟩:=n5 h1;refine⟨m.map .string,?_,ji6.2 rfl⟩;rw[Ab,hlen];exact hm
 ·obtain⟨rfl,_⟩:=n5 h1;obtain⟨rfl,_⟩:=n5 h2;exact absurd rfl hne
 ·obtain⟨rfl,rfl⟩:=n5 h1;exact ho.out n _ b o hl0 ((hown b _ _).2 ((hown b _ _).1 h2)) h3
theorem qm3 (q k:Nat)(l:List ByteArray)(hl:l.length<4611686018427387904):
 FnE prog gl 32 [.own q k] [(q,.row 9 1 false (l.map .str) k)] (λv H1=>v=.tup []/\H1=[(q,.row 9 1 false (((Jw l).map Sc.toB).map .str) k)]):=by
 intro w M β us hM hus ho hg;simp only[Cs]at hus;obtain⟨v,r,rfl,hv,rfl⟩:=hus;have hl0:look q [(q,Ob.row 9 1 false (l.map .str) k)]=some (.row 9 1 false (l.map .str) k):=by rw[j6,Ad rfl]
 have hv':v=(β q).v:=hv 9 1 false _ hl0;subst hv';obtain⟨ys,h3,h4⟩:=ho.obs q _ hl0;rw[ji6]at h4;subst h4;rw[Ab]at h3;have hlen:((Jw l).map Sc.toB).length=l.length:=by
  rw[Ab];unfold Jw;rw[List.length_mergeSort,Ab]
 have fin:∀ w',w.grownBy w' (β q).v.ownBlock->w'.ownsRow 0 9 1 (β q).v l.length (((Jw l).map Sc.toB).map .string)->∃ (v:V) (x:Value) (H1:List (Nat × Ob)) (β1:Nat->Hd),(v=.tup []/\H1=[(q,.row 9 1 false (((Jw l).map Sc.toB).map .str) k)])/\Na [(q,.row 9 1 false (l.map .str) k)] H1 v=true/\Ending.returned (Value.tuple #[])=.returned x/\Frm (kp2 β [(q,.row 9 1 false (l.map .str) k)]) w w'/\(∀ n,(look n [(q,Ob.row 9 1 false (l.map .str) k)]).isSome=true->(β1 n).v=(β n).v)/\
  (∀ n ob b,look n H1=some ob->own (β1 n) ob b->b∈kp2 β [(q,.row 9 1 false (l.map .str) k)]\/w.heap.size<=b)/\Obs w' M β1 H1/\Dc w' (Mut M β1 H1) β1 H1 v x:=λw' g1 g2=>by
  obtain⟨t1,t2,t3⟩:=ka7 (sh':=false) hlen ho hM g1 g2;refine⟨.tup [],_,_,β,⟨rfl,rfl⟩,?_,rfl,t1,λ_ _=>rfl,t2,t3,[],rfl,rfl⟩;simp[Na,kv2,kv1,kc7,kc6,j6,Ob.cells,jd8,V.within]
 rcases h3.2 with ⟨e1,e2⟩|⟨g,cap,cur,e1,e2,e3,e4,e5,e6,e7⟩
 ·have h0:l=[]:=Bg e2;subst h0;rw[e1]at fin ⊢;refine(Tryz.slices_Sort_string_none none 0 w).mono ?_;rintro en w' ⟨rfl,rfl⟩;exact fin _ ⟨rfl,rfl,rfl,Ap _,λ_ _ _=>rfl⟩ ⟨by rw[Ab,hlen];rfl,.inl ⟨rfl,rfl⟩⟩
 ·rw[e1]at fin ⊢;rw[Nat.mul_one,<-jr5,<-l7 l]at e7;have hh:=holds_of_block e3 e7;have hs:=Tryz.slices_Sort_string g 0 cap (kp3 l) w hh (Bw.1 e3).1 (by rw[l7];exact hl);rw[l7]at hs;refine hs.mono ?_;rintro en w' ⟨rfl,n,os,rfl⟩;refine fin _ (grownBy_sorted _) ?_;have h5:=ownsRow_sorted (ss:=kp3 l) (ts:=Jw l) (n:=n) (os:=os) (base:=0) (by rw[l7,<-hlen,Ab]) e2 e3 (by rw[l7];exact e4) e5 e6;rw[l7,show(Jw l).map encStr=((Jw l).map Sc.toB).map Value.string by rw[<-jr5,kf4]]at h5;exact h5
theorem qa1 (q k:Nat)(l:List ByteArray):
 FnE prog gl 33 [.own q k] [(q,.row 9 1 false (l.map .str) k)]
  (λv H1=>v=.d (.list 1 (((Lib.compact (kp3 l)).map Sc.toB).map .str))/\H1=[(q,.row 9 1 true (((Lib.compact (kp3 l)++List.replicate (l.length - (Lib.compact (kp3 l)).length) []).map Sc.toB).map .str) k)]):=by
 intro w M β us hM hus ho hg;simp only[Cs]at hus;obtain⟨v,r,rfl,hv,rfl⟩:=hus;have hl0:look q [(q,Ob.row 9 1 false (l.map .str) k)]=some (.row 9 1 false (l.map .str) k):=by rw[j6,Ad rfl]
 have hv':v=(β q).v:=hv 9 1 false _ hl0;subst hv';obtain⟨ys,h3,h4⟩:=ho.obs q _ hl0;rw[ji6]at h4;subst h4;rw[Ab]at h3;obtain⟨c,hc⟩:∃ c,c=Lib.compact (kp3 l):=⟨_,rfl⟩;have hcl:c.length<=l.length:=by rw[hc,<-l7 l];exact Lib.compact_length_le _
 rw[<-hc];obtain⟨m,hm⟩:∃ m,m=(c++List.replicate (l.length - c.length) []).map Sc.toB:=⟨_,rfl⟩;rw[<-hm];have hlen:m.length=l.length:=by
  rw[hm,Ab,Ag,Ff];omega
 have hpre:m.take c.length=c.map Sc.toB:=by
  rw[hm,<-Fc,List.take_left'];rfl
 have fin:∀ w' x,w.grownBy w' (β q).v.ownBlock->w'.ownsRow 0 9 1 (β q).v l.length (m.map .string)->(∀ a n cp,(β q).v=.slice a n cp->x=.slice a c.length cp)->∃ (v:V) (x':Value) (H1:List (Nat × Ob)) (β1:Nat->Hd),(v=.d (.list 1 ((c.map Sc.toB).map .str))/\H1=[(q,.row 9 1 true (m.map .str) k)])/\Na [(q,.row 9 1 false (l.map .str) k)] H1 v=true/\Ending.returned x=.returned x'/\Frm (kp2 β [(q,.row 9 1 false (l.map .str) k)]) w w'/\(∀ n,(look n [(q,Ob.row 9 1 false (l.map .str) k)]).isSome=true->(β1 n).v=(β n).v)/\
  (∀ n ob b,look n H1=some ob->own (β1 n) ob b->b∈kp2 β [(q,.row 9 1 false (l.map .str) k)]\/w.heap.size<=b)/\Obs w' M β1 H1/\Dc w' (Mut M β1 H1) β1 H1 v x':=λw' x g1 g2 g3=>by
  obtain⟨t1,t2,t3⟩:=ka7 (sh':=true) hlen ho hM g1 g2;refine⟨_,x,_,β,⟨rfl,rfl⟩,?_,rfl,t1,λ_ _=>rfl,t2,t3,?_⟩
  ·simp[Na,kv2,kv1,kc7,kc6,j6,Ob.cells,jd8,V.within]
  ·show Gv _ _ _ _;have hcl2:((c.map Sc.toB).map D.str).length=c.length:=by rw[Ab,Ab]
   simp only[Gv];rw[hcl2];rcases g2.2 with ⟨e1,e2⟩|⟨g,cap,cur,e1,e2,e3,e4,e5,e6,e7⟩
   ·have hc0:c.length=0:=by omega
    have hc1:c=[]:=Bg hc0;refine⟨none,0,[],g3 _ _ _ e1,by omega,Ak _,λ_=>rfl,?_,λj y hj=>by simp at hj⟩;rw[hc1];simp[Gb]
   ·refine⟨some ⟨g,0,none⟩,cap,(c.map Sc.toB).map .string,g3 _ _ _ e1,by omega,e5,λh=>(by cases h),ji6.2 rfl,λj y hj=>?_⟩;have hj2:j<c.length:=by
     have:=(Ay.1 hj).1;simpa using this
    refine⟨g,0,rfl,?_,?_⟩
    ·rintro(h|⟨n,ob,h1,h2,h3⟩)
     ·exact ho.out q _ g _ hl0 ((z8 rfl).2 (by rw[e1];rfl)) h
     ·obtain⟨rfl,rfl⟩:=n5 h1;rcases h3 with h3|h3
      ·cases h3
      ·rw[Ab,hlen]at h3;omega
    ·rw[<-hpre]at hj;rw[Fc,<-e7,List.take_take,List.getElem?_take_of_lt (by omega)]at hj;simp only[World.cell?,e3,Es];simp only[Option.isSome_none,Bb,if_false];rw[<-Array.getElem?_toList];exact hj
 rcases h3.2 with ⟨e1,e2⟩|⟨g,cap,cur,e1,e2,e3,e4,e5,e6,e7⟩
 ·have hc0:c.length=0:=by omega
  rw[e1]at fin ⊢;refine(Tryz.slices_Compact_string_empty none 0 w).mono ?_;rintro en w' ⟨rfl,rfl⟩;refine fin _ _ ⟨rfl,rfl,rfl,Ap _,λ_ _ _=>rfl⟩ ⟨by rw[Ab,hlen];omega,.inl ⟨rfl,e2⟩⟩ λa n cp h=>?_;cases h;rw[hc0]
 ·rw[e1]at fin ⊢;rw[Nat.mul_one,<-jr5,<-l7 l]at e7;have hh:=holds_of_block e3 e7;have hs:=Tryz.slices_Compact_string g 0 cap (kp3 l) w hh (by rw[l7];have:maxLen=9223372036854775807:=rfl;omega) (by rw[l7];exact e4);rw[l7,<-hc]at hs;refine hs.mono ?_;rintro en w' ⟨rfl,n,rfl⟩;have hts:(c++List.replicate (l.length - c.length) []).length=(kp3 l).length:=by
   rw[l7,Ag,Ff];omega
  have h5:=ownsRow_sorted (ss:=kp3 l) (ts:=c++List.replicate (l.length - c.length) []) (n:=n) (os:=#[]) (base:=0) hts e2 e3 (by rw[l7];exact e4) e5 e6;have h6:=grownBy_sorted (w:=w) (g:=g) (n:=n) (os:=#[]) (c++List.replicate (l.length - c.length) []).toArray;have hgr:∀ u:World,grow u #[]=u:=grow_empty;rw[hgr]at h5 h6;have h7:List.map encStr (c++List.replicate (l.length - c.length) [])=m.map Value.string:=by rw[hm,<-jr5,kf4]
  rw[l7,h7]at h5;refine fin _ _ h6 h5 λa n cp h=>?_;cases h;rfl
end
section
section
variable {E:Set}{Q:Exit->Sd->Prop}{ops:Array Oper}{draw:Bool}{rest:Todo}{way:Ji}{ty:TypeId}{pos:String}{af:Array Edge}{gd:Option (Nat × Bool)}{dst:Option Tmp}
variable {env:List (Nat × V)}{H:List (Nat × Ob)}{gl:List (Nat × List D)}{d:Nat}
end
end
section
variable {mm:Int}
theorem rw4:∀ (n:Nat) (p:Pr),SizeOf.sizeOf p<=n->∀ (depth left:Int) (pl:Bool),0<=left->left<=2048->0<=depth->depth<=34->
 FnE prog (glS mm) 45 [.ptr 5 0,.d (dPr p),.d (.int .i64 depth),.d (.bool pl)] [(5,.box [.d (.int .i64 left)])]
  (λv H1=>v=.d (.bool (Du depth left pl p).1)/\H1=[(5,.box [.d (.int .i64 (Du depth left pl p).2)])]):=by
 intro n
 induction n with
 |zero=>intro p h;cases p;simp only[Pr.mk.sizeOf_spec]at h;omega
 |succ n ih=>
  intro p hp depth left pl h0 h1 h2 h3;exact rv1 p depth left pl h0 h1 h2 h3 λx hx d l q g0 g1 g2 g3=>ih x (by omega) d l q g0 g1 g2 g3
attribute [local irreducible] TR TC
theorem kx8 (p:Pr):FnD prog (glS mm) 28 [.d (dPr p)] (λv=>v=.d (.bool (Gq p))):=by
 have h:=rw4 (mm:=mm) _ p (Ap _) 0 2048 true (by omega) (by omega) (by omega) (by omega);unfold Gq;rw[v7]at h ⊢
 (refine j4 func28 ntmps28 results28 λw M=>?_)
 (repeat' first|apply Ca 1;(refine Ck 1 ?_)|apply Ca 5;(refine Ck 5 ?_)|apply Ca 8;refine Ch (hc:=h) ?_|refine yyp ?_|refine yy ?_|apply ah;refine Cc [0,1,2,3,4,5,6] ?_|refine Cb λK hK=>?_|apply_assumption -exfalso -symm)
 (refine j1 (j7 ?_))
 rfl
end
section
def Vg:List Nat:=[0,1,2,3,4,5,6,7]
variable {mm:Int}
namespace Sc
def start (tk:List (ByteArray × Int)):W:=⟨λ_=>[],tk,0,[]⟩
noncomputable def Cy (p:Pr):List ByteArray:=once (Ho (Fz (start []) p).2.ev)
theorem Ui (l:List ByteArray):kp3 ((Jw l).map toB)=Jw l:=kf4 _
end Sc
attribute [local irreducible] TR TC
theorem qm4 (p:Pr)(hw:Gq p=true->Tj p/\kx5 p/\(Sc.start []).fit (Sc.prN p+1)):
 FnD prog (glS mm) 10 [.d (dPr p)] (λv=>v=.tup [.d (.list 1 (if Gq p=true then (Cy p).map .str else [])),.d (.int .i64 (if Gq p=true then 0 else 2))]):=by
 have c1:=kx8 (mm:=mm) p;by_cases hm:Gq p=true
 ·obtain⟨hok,hcap,hfit⟩:=hw hm;have c2:=jk0 (glS mm) .free [];have c3:=kf3 (mm:=mm) .free _ p (Ap _) hok hcap (Sc.start []) hfit;have hg:=Nb p (Sc.start []);obtain⟨r,hr⟩:∃ r,r=Fz (Sc.start []) p:=⟨_,rfl⟩;have hF:Cy p=Sc.once (Ho r.2.ev):=by rw[hr];rfl
  rw[<-hr]at c3 hg;have he:=hg.ev;have hroom:=hfit.room;have hlen:=Le r.2.ev;unfold W.room at hroom;have c4:=qm3 (glS mm) 951 0 (Ho r.2.ev) (by omega);have c5:=qa1 (glS mm) 951 0 ((Jw (Ho r.2.ev)).map Sc.toB);rw[Ui,Ov,<-hF]at c5;rw[Ad hm,Ad hm];rw[hm]at c1;dsimp only[HW,je0,jb3,Sc.start,Ho,Bj]at c2 c3;clear hr hg he hroom hlen hfit hok hcap hF;rw[v7]at c1 c3 ⊢
  (refine j4 func10 ntmps10 results10 λw M=>?_)
  ((repeat' first|apply Ca 1;(refine Ck 1001 ?_)|apply Ca 4;(refine j2 903 ?_)|apply Cg 4;refine halt ?_|refine yyp ?_;try refine Ce ?_ ?_<;>intro hb|refine yy ?_|apply Cf 28;refine Ci (hc:=c1) ?_;try refine Ce ?_ ?_<;>intro hb|apply ah;refine Cc Vg ?_|refine Cb λK hK=>?_|apply_assumption -exfalso -symm);all_goals try refine unhalt ?_)
  refine kh4 903 951 0 (e:=9) (sz:=1) rfl rfl rfl ?_;refine jl3 (kr1 951 rfl) ?_;refine jl3 (ka2 (n:=903) (q:=951) (i:=0) rfl rfl rfl rfl (by(repeat (first|exact Drop.nil|apply Drop.drop rfl|apply Drop.take rfl));fail_if_success intros) rfl) ?_
  ((repeat' first|apply Ca 9;refine Ch (hc:=c2) ?_|apply Ca 11;refine Ch (hc:=c3) ?_|apply Cg 5;refine halt ?_|refine yyp ?_|apply ah;refine Cc Vg ?_|refine Jd ?_ ?_|(apply Iz (x:=.region 4 _ _);focus ((apply Cg 4;refine j0 [1,3] q0o ?_);(repeat' (first|apply Ca 1;(refine Ck 1001 ?_)));(all_goals first|exact Wk.refl _ _|exact v6);done))|refine Cb λK hK=>?_|apply Cg 4;refine j0 [1,3] q0o ?_|apply_assumption -exfalso -symm);all_goals try refine unhalt ?_)
  all_goals (refine jl3 (jt8 (n:=903) (q:=951) rfl rfl) ?_)
  all_goals (repeat' first|apply Ca 13;refine Ch (hc:=c4) ?_|apply Ca 15;refine Ch (hc:=c5) ?_|refine yyp ?_|refine yy ?_|apply ah;refine Cc Vg ?_|refine Cb λK hK=>?_|apply Cg 4;refine j0 [] (lin [0,9,6,14]) ?_|apply_assumption -exfalso -symm)
  all_goals (refine j1 (j7 ?_))
  all_goals rfl
 ·rw[Af hm,Af hm];rw[show Gq p=false by simpa using hm]at c1;rw[v7]at c1 ⊢
  (refine j4 func10 ntmps10 results10 λw M=>?_)
  (repeat' first|apply Ca 1;(refine Ck 1001 ?_)|refine yyp ?_;try refine Ce ?_ ?_<;>intro hb|refine yy ?_|apply Cf 28;refine Ci (hc:=c1) ?_;try refine Ce ?_ ?_<;>intro hb|apply ah;refine Cc Vg ?_|refine Cb λK hK=>?_|apply Cg 4;refine j0 [] (lin [0,9,6,14]) ?_|apply_assumption -exfalso -symm)
  all_goals (refine j1 (j7 ?_))
  all_goals rfl
end
section
def Vh:List Nat:=[0,1,2,3,4,5,6,7,8,9,49]
variable {mm:Int}
namespace Sc
noncomputable def Ja (p:Pr)(ns:List ByteArray):ByteArray × Int:=Hq ns (Fz (start []) p).2.ev
end Sc
attribute [local irreducible] TR TC
theorem rf0 (p:Pr)(nn:List ByteArray)(hw:Gq p=true->Tj p/\kx5 p/\(Sc.start []).fit (Sc.prN p+1)):
 FnD prog (glS mm) 34 [.d (dPr p),.d (.list 1 (nn.map .str))] (λv=>v=.tup [.d (.str (if Gq p=true then (Ja p nn).1 else ByteArray.empty)),.d (.int .i64 (if Gq p=true then (Ja p nn).2 else 2))]):=by
 have c1:=kx8 (mm:=mm) p;by_cases hm:Gq p=true
 ·obtain⟨hok,hcap,hfit⟩:=hw hm;have c2:=jk0 (glS mm) (.check nn) [];have c3:=kf3 (mm:=mm) (.check nn) _ p (Ap _) hok hcap (Sc.start []) hfit;have hF:Ja p nn=Hq nn (Fz (Sc.start []) p).2.ev:=rfl;obtain⟨r,hr⟩:∃ r,r=Fz (Sc.start []) p:=⟨_,rfl⟩;rw[<-hr]at c3 hF;rw[Ad hm,Ad hm,hF];rw[hm]at c1;dsimp only[HW,je0,jb3,Sc.start,Hq,Bj]at c2 c3;clear hr hfit hok hcap hF;rw[v7]at c1 c3 ⊢
  (refine j4 func34 ntmps34 results34 λw M=>?_)
  (repeat' first|apply Ca 2;(refine Ck 1002 ?_)|apply Ca 3;(refine Ck 903 ?_)|apply Ca 4;(refine j2 904 ?_)|apply Ca 5;(refine j2 905 ?_)|apply Ca 8;refine yyp ?_;try refine Ce ?_ ?_<;>intro hb|refine yyp ?_|refine yy ?_|apply Cf 28;refine Ci (hc:=c1) ?_|apply ah;refine Cc Vh ?_|(apply Iz (x:=.region 3 _ _);focus ((apply Cg 3;refine j0 [1,3] q0o ?_);(repeat' (first|apply Ca 10;refine Ch (hc:=c2) ?_|apply Ca 12;refine Ch (hc:=c3) ?_|refine yyp ?_|apply ah;refine Cc Vh ?_|refine Jd ?_ ?_));(all_goals first|exact Wk.refl _ _|exact v6);done))|(apply Iz (x:=.region 4 _ _);focus ((apply Cg 4;refine j0 [2,3] q0n ?_);(repeat' (first|refine yyp ?_|refine yy ?_|apply ah;refine Cc Vh ?_|refine Jd ?_ ?_));(all_goals first|exact Wk.refl _ _|exact v6);done))|refine Cb λK hK=>?_|apply Cg 3;refine j0 [1,3] q0o ?_|apply Cg 4;refine j0 [2,3] q0n ?_|apply_assumption -exfalso -symm)
  all_goals (refine j1 (j7 ?_ (Res.cell rfl rfl rfl (Arg.d _) (Res.cell rfl rfl rfl (Arg.d _) Res.nil))))
  all_goals rfl
 ·rw[Af hm,Af hm];rw[show Gq p=false by simpa using hm]at c1;rw[v7]at c1 ⊢
  (refine j4 func34 ntmps34 results34 λw M=>?_)
  (repeat' first|apply Ca 2;(refine Ck 1002 ?_)|apply Ca 3;(refine Ck 1003 ?_)|apply Ca 4;(refine j2 1004 ?_)|apply Ca 5;(refine j2 1005 ?_)|refine yyp ?_;try refine Ce ?_ ?_<;>intro hb|refine yy ?_|apply Cf 28;refine Ci (hc:=c1) ?_;try refine Ce ?_ ?_<;>intro hb|apply ah;refine Cc Vh ?_|(apply Iz (x:=.region 4 _ _);focus ((apply Cg 4;refine j0 [2,3] q0n ?_);(repeat' (first|apply Ca 2;(refine Ck 1002 ?_)));(all_goals first|exact Wk.refl _ _|exact v6);done))|refine Cb λK hK=>?_|apply Cg 3;refine j0 [] (lin [0,9,6,14]) ?_|apply Cg 4;refine j0 [2,3] q0n ?_|apply_assumption -exfalso -symm)
  all_goals (refine j1 (j7 ?_ (Res.cell rfl rfl rfl (Arg.d _) (Res.cell rfl rfl rfl (Arg.d _) Res.nil))))
  all_goals rfl
end
end Go.Proofs.YtklklgfpkpglgaaGreatDoor
