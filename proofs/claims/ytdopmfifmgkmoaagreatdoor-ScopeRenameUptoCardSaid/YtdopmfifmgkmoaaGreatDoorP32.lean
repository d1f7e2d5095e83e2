/- Parts: R6, S41, O26, S42, S43. -/
import Derived.Sort.OwnSorted
import Derived.Lib.RowBridge
import Derived.Test.YtdopmfifmgkmoaaGreatDoorP19
import Derived.Test.YtdopmfifmgkmoaaGreatDoorP31
set_option linter.all false
set_option maxRecDepth 100000
set_option maxHeartbeats 16000000
namespace Go.Proofs.YtdopmfifmgkmoaaGreatDoor
open Go.RowKit Go.Proofs.Tryz
section
theorem ml2 {w:World}{M:Nat->Nat->Prop}{z:D}{u:Value}(hz:Gd w M z u)(h1:u.oneCell'=true):∀ {cs:List D} {us:List Value},Dv w M cs us->∀ (o:Nat),Dv w M (cs.set o z) (us.set o u)
 |[],_,h,o=>by simp only[Dv]at h;subst h;simp[Dv]
 |c::cs,_,h,0=>by
  simp only[Dv]at h;obtain⟨v,r,rfl,_,_,h4⟩:=h;exact⟨u,r,rfl,h1,hz,h4⟩
 |c::cs,_,h,o+1=>by
  simp only[Dv]at h;obtain⟨v,r,rfl,h2,h3,h4⟩:=h;exact⟨v,_,rfl,h2,h3,ml2 hz h1 h4 o⟩
theorem kz6 {w:World}{M:Nat->Nat->Prop}{sz:Nat}{z:D}{u:Value}(hz:Gd w M z u)(h1:u.oneCell'=true):∀ {xs:List D} {vs:List Value},Gl w M sz xs vs->∀ {i o:Nat} {cs:List D},xs[i]? =some (.agg cs)->o<sz->Gl w M sz (xs.set i (.agg (cs.set o z))) (vs.set (i * sz+o) u)
 |[],_,_,i,o,cs,hi,_=>by simp at hi
 |x::xs,_,⟨v,r,e,h2,h3,h4⟩,0,o,cs,hi,ho=>by
  subst e;simp only[List.getElem?_cons_zero,Bm]at hi;subst hi;simp only[Gd]at h3;obtain⟨us,rfl,h5⟩:=h3;have hl:us.length=sz:=by simpa [Value.cells]using h2
  refine⟨.agg (us.set o u).toArray,r,?_,by simpa [Value.cells]using hl,⟨us.set o u,rfl,ml2 hz h1 h5 o⟩,h4⟩;simp only[Nat.zero_mul,Ft,Value.cells];rw[List.set_append_left _ _ (by simpa using (by omega:o<us.length))]
 |x::xs,_,⟨v,r,e,h2,h3,h4⟩,i+1,o,cs,hi,ho=>by
  subst e;have hl:v.cells.toList.length=sz:=by simpa using h2
  refine⟨v,_,?_,h2,h3,kz6 hz h1 h4 (i:=i) (by simpa using hi) ho⟩;rw[Fe _ _ (by rw[hl,Es];omega)];congr 2;rw[hl,Es];omega
section
variable {E:Set}{Q:Exit->Sd->Prop}{ops:Array Oper}{draw:Bool}{rest:Todo}{way:Kt}{ty:TypeId}{pos:String}{af:Array Edge}{gd:Option (Nat × Bool)}{dst:Option Tmp}
variable {env:List (Nat × V)}{H:List (Nat × Ob)}{gl:List (Nat × List D)}{d:Nat}
theorem qc6 {α:Type}(l:List α)(o:Nat)(u:α)(ho:o<l.length):l.set o u=l.take o++[u]++l.drop (o+1):=by
 rw[List.set_eq_take_append_cons_drop,Ae ho];simp
theorem mg3 {S:Sd}{t n k i o e sz:Nat}{x y:Operand}{v:V}{z:D}{xs cs:List D}[ht:TSize E.P t 1](hx:S.ev x=some (.el n k i o))(hox:Cw x=true)(hl:look n S.H=some (.row e sz false xs k))(hy:S.ev y=some v)(hoy:Cw y=true)(hz:ToD S.H v z)(hc:Gy z [z])(hi:xs[i]? =some (.agg cs))(ho:o<sz):
 Turn E S ⟨none,.store t x y,ty,pos,af,gd⟩ {S with H:=(n,.row e sz false (xs.set i (.agg (cs.set o z))) k)::S.H}:=Turn.mk fun β a w h=>by
 obtain⟨b,l,c,h1,h2⟩:=h.ev hx hox e sz false xs hl;obtain⟨ys,h3,h4⟩:=h.obs n _ hl;have hzr:=hz.rep h (h.ev hy hoy);have hix:i<xs.length:=(Bh.1 hi).1;obtain⟨g,cap,cur,h5,h6,h7,h8,h9,h10,h11⟩:∃ g cap cur,(β n).v=.slice (some ⟨g,0,none⟩) xs.length cap/\0<=g/\w.heap[g]? =some (.cells cur e (0,0))/\xs.length<=cap/\cap<=maxLen/\cur.size=cap * sz/\cur.toList.take (xs.length * sz)=ys:=by
  rcases h3.2 with ⟨q,_⟩|q
  ·rw[h1]at q;cases q
  ·exact q
 rw[h1]at h5;simp only[Value.slice.injEq,Bm,Addr.mk.injEq,and_true]at h5;obtain⟨rfl,_,rfl⟩:=h5;cases hinf:E.P.info? t with
 |none=>have:=ht.ok;rw[hinf]at this;cases this
 |some inf=>
  have hsz:inf.size=1:=by have:=ht.ok;rw[hinf]at this;simpa using this
  have hzl:(a.eval y).cells.size=1:=by have:=(hc.rep hzr).length;simpa using this
  have hend:i * sz+sz<=xs.length * sz:=by
   rw[show i * sz+sz=(i+1) * sz by rw[Es];omega];exact Nat.mul_le_mul_right _ (by omega)
  have hend2:xs.length * sz<=cur.size:=by rw[h10];exact Nat.mul_le_mul_right _ h8
  have hlen:(a.eval y).cells.toList.length=1:=by simpa using hzl
  obtain⟨u,hu⟩:∃ u,(a.eval y).cells.toList=[u]:=List.length_eq_one_iff.1 hlen;have huv:Gd w (Mut E.C.M0 β S.H) z u/\u.oneCell'=true:=by
   have h12:u.oneCell'=true:=hzr.one u (by rw[hu];exact Em.2 rfl);refine⟨?_,h12⟩;have h13:=hc.rep hzr;rw[hu]at h13;simp only[Dv]at h13;obtain⟨v',r,e1,_,e3,_⟩:=h13;simp only[List.cons.injEq]at e1;rw[e1.1];exact e3
  have hst:=run_storeCells_at E.P b (i * sz+o) e (a.eval y).cells.toList 0 cur w h7 (by rw[hlen];simp;omega) (hzr.one);simp only[Nat.add_zero]at hst;have hbn:hb (β n).v=some b:=by rw[h1];rfl
  have hH:∀ m e' sz' sh' xs' k',look m ((n,Ob.row e sz false (xs.set i (.agg (cs.set o z))) k)::S.H)=some (.row e' sz' sh' xs' k')->∃ sh' xs',look m S.H=some (.row e' sz' sh' xs' k'):=fun m e' sz' sh' xs' k' hm=>by
   rw[ja1]at hm;split at hm
   ·rename_i eq;subst eq;cases hm;exact⟨false,xs,hl⟩
   ·exact⟨sh',xs',hm⟩
  refine⟨_,?_,β,h.turn (w':=w.setRow b (cur.toList.take (i * sz+o)++(a.eval y).cells.toList++cur.toList.drop (i * sz+o+(a.eval y).cells.toList.length)).toArray) hl (fun _ _=>rfl) rfl rfl rfl (by simp) (fun k _ hk=>setRow_other w b k _ (fun e=>hk (by rw[hbn,e]))) (fun b h=>.inl h) (fun b' o' y h4 h5 _=>absurd (.inl rfl) h5) (fun _ _ _ _ _=>.inl rfl)
   (fun k t x v _=>Dw.keep k (fun _=>rfl) hH x v) (fun _=>rfl) (fun k m cs vs _ _=>Dc.keep k (fun _=>rfl) hH _ vs) (fun kp=>?_)⟩
  ·simp only[Ey]at h2 hst ⊢;simp[execOp,h2,Instr.storeAt,Instr.sureAddr,storeVar,jc1 hinf,hsz,hzl,hst]
  ·have hyl:ys.length=xs.length * sz:=h4.length;have hin:i * sz+o<ys.length:=by omega
   rw[hu]at kp ⊢;refine⟨ys.set (i * sz+o) u,⟨?_,.inr ⟨b,c,_,?_,h6,setRow_heap w b _ _ e _ h7,by rw[List.length_set];exact h8,h9,?_,?_⟩⟩,kz6 (Gd.keep kp _ _ huv.1) huv.2 (Gl.keep kp _ _ _ h4) hi ho⟩
   ·simp only[List.length_set,hyl]
   ·rw[List.length_set];rw[h1];congr 1
   ·simp only[Fj,Ag,Aj,Bl,Array.length_toList,Ai,Aq];omega
   ·rw[<-h11,List.length_set];have hc1:cur.toList.take (i * sz+o)++[u]++cur.toList.drop (i * sz+o+[u].length)=cur.toList.set (i * sz+o) u:=(qc6 _ _ _ (by simp;omega)).symm;rw[hc1,List.take_set]
theorem mg4 {t n k i o e sz:Nat}{x y:Operand}{v:V}{z:D}{xs cs:List D}[ht:TSize E.P t 1](hx:Sd.ev ⟨env,H,gl⟩ x=some (.el n k i o))(hox:Cw x=true)(hl:look n H=some (.row e sz false xs k))(hy:Sd.ev ⟨env,H,gl⟩ y=some v)(hoy:Cw y=true)(hz:ToD H v z)(hc:Gy z [z])(hi:xs[i]? =some (.agg cs))(ho:o<sz)
 (hg:Sd.gd ⟨env,H,gl⟩ ops ⟨none,.store t x y,ty,pos,af,gd⟩=some true) (hw:Mr draw way=true)
 (h:TR E draw ops Q rest ⟨env,(n,.row e sz false (xs.set i (.agg (cs.set o z))) k)::H,gl⟩):TR E draw ops Q (.step ⟨none,.store t x y,ty,pos,af,gd⟩ way rest) ⟨env,H,gl⟩:=jy9 (mg3 hx hox hl hy hoy hz hc hi ho) rfl hg rfl hw h
theorem jq1 {C:Ctx}(n:Nat){e sz k:Nat}(hl:look n H=some (.row e sz true [] k)):Wk C ⟨env,H,gl⟩ ⟨env,(n,.row e sz false [] k)::H,gl⟩:=fun a w ⟨β,h⟩=>by
 have hH:∀ m e' sz' sh' xs' k',look m ((n,Ob.row e sz false [] k)::H)=some (.row e' sz' sh' xs' k')->∃ sh' xs',look m H=some (.row e' sz' sh' xs' k'):=fun m e' sz' sh' xs' k' hm=>by
  rw[ja1]at hm;split at hm
  ·rename_i e;subst e;cases hm;exact⟨true,[],hl⟩
  ·exact⟨sh',xs',hm⟩
 refine⟨β,h.turn (S:=⟨env,H,gl⟩) hl (fun _ _=>rfl) rfl rfl rfl (As _) (fun _ _ _=>rfl) (fun b h=>.inl h) (fun _ _ _ _ _ h=>h) (fun b o _ _ _=>.inr (by simp))
  (fun k t x v _=>Dw.keep k (fun _=>rfl) hH x v) (fun _=>rfl) (fun k m cs vs _ _=>Dc.keep k (fun _=>rfl) hH _ vs) (fun k=>?_)⟩
 obtain⟨ys,h1,h2⟩:=h.obs n _ hl;exact⟨ys,h1,Gl.keep k _ _ _ h2⟩
theorem jl3 {C:Ctx}(n j:Nat){sz:Nat}{cs:List V}(hl:look n H=some (.box cs))(hj:cs[j]? =some (.nils sz)):Wk C ⟨env,H,gl⟩ ⟨env,(n,.box (cs.set j (.d (.nil sz))))::H,gl⟩:=fun a w ⟨β,h⟩=>by
 have hH:∀ m e' sz' sh' xs' k',look m ((n,Ob.box (cs.set j (.d (.nil sz))))::H)=some (.row e' sz' sh' xs' k')->∃ sh' xs',look m H=some (.row e' sz' sh' xs' k'):=fun m e' sz' sh' xs' k' hm=>by
  rw[ja1]at hm;split at hm
  ·cases hm
  ·exact⟨sh',xs',hm⟩
 refine⟨β,h.turn (S:=⟨env,H,gl⟩) hl (fun _ _=>rfl) rfl rfl rfl (As _) (fun _ _ _=>rfl) (fun b h=>.inl h) (fun _ _ _ _ _ h=>h) (fun _ _ _ _ _=>trivial)
  (fun k t x v _=>Dw.keep k (fun _=>rfl) hH x v) (fun _=>rfl) (fun k m cs vs _ _=>Dc.keep k (fun _=>rfl) hH _ vs) (fun k=>?_)⟩
 obtain⟨b,vs,t,e1,e2,hL⟩:=h.obs n _ hl;have hr:=Dc.keep k (fun _=>rfl) hH _ _ hL;obtain⟨u,hu1,hu2⟩:=hr.get hj;have hu:u=.slice none 0 0:=hu2;subst hu;have hs:=hr.set j (x:=.d (.nil sz)) (v:=.slice none 0 0) (show _=_ from rfl);rw[show vs.set j (.slice none 0 0)=vs from by
  obtain⟨h3,h4⟩:=Bh.1 hu1;rw[<-h4];exact List.set_getElem_self h3]at hs
 exact⟨b,vs,t,e1,e2,hs⟩
end
end
section
open Go.RowKit Go.Sort
def mg5 (l:List ByteArray):List (List UInt8):=l.map fun s=>s.data.toList
theorem jb5 (l:List ByteArray):(mg5 l).length=l.length:=Aa ..
theorem rc1 (s:ByteArray):Sc.toB s.data.toList=s:=by simp[Sc.toB]
theorem rc2 (s:List UInt8):(Sc.toB s).data.toList=s:=by simp[Sc.toB]
theorem ks8 (l:List (List UInt8)):mg5 (l.map Sc.toB)=l:=by
 unfold mg5;rw[List.map_map]
 conv=>rhs;rw[<-List.map_id l]
 exact List.map_congr_left fun s _=>rc2 s
theorem kc7 (l:List ByteArray):(mg5 l).map encStr=l.map Value.string:=by
 unfold mg5;rw[List.map_map];exact List.map_congr_left fun s _=>congrArg Value.string (rc1 s)
theorem jl4 {w:World}{M:Nat->Nat->Prop}:∀ {l:List ByteArray} {ys:List Value},Gl w M 1 (l.map .str) ys↔ys=l.map Value.string
 |[],ys=>by simp[Gl]
 |s::l,ys=>by
  simp only[Am,Gl];constructor
  ·rintro⟨v,r,rfl,_,h3,h4⟩;simp only[Gd]at h3;subst h3;rw[jl4.1 h4];rfl
  ·rintro rfl;exact⟨.string s,l.map .string,rfl,rfl,rfl,jl4.2 rfl⟩
theorem jq2 {q m:Nat}{ob ob':Ob}(h:look m [(q,ob)]=some ob'):m=q/\ob'=ob:=by
 rw[j9]at h;split at h
 ·rename_i e';cases h;exact⟨e'.symm,rfl⟩
 ·cases h
theorem mg6 (v:Value)(h:∃ a n c,v=.slice a n c):hb v=v.ownBlock:=by
 obtain⟨a,n,c,rfl⟩:=h;cases a<;>rfl
theorem ko0 {w w':World}{M:Nat->Nat->Prop}{β:Nat->Hd}{q e k:Nat}{sh sh':Bool}{l m:List ByteArray}(hlen:m.length=l.length)(ho:Obs w M β [(q,.row e 1 sh (l.map .str) k)])(hM:∀ b o,M b o->b<w.heap.size)
 (hg:w.grownBy w' (β q).v.ownBlock) (hm:w'.ownsRow 0 e 1 (β q).v l.length (m.map .string)):
 Frm (mc3 β [(q,.row e 1 sh (l.map .str) k)]) w w'/\(∀ n ob b,look n [(q,Ob.row e 1 sh' (m.map .str) k)]=some ob->own (β n) ob b->b∈mc3 β [(q,.row e 1 sh (l.map .str) k)]\/w.heap.size<=b)/\Obs w' M β [(q,.row e 1 sh' (m.map .str) k)]:=by
 have hs:∃ a n c,(β q).v=.slice a n c:=by
  rcases hm.2 with ⟨h,_⟩|⟨g,cap,cur,h,_⟩
  ·exact⟨_,_,_,h⟩
  ·exact⟨_,_,_,h⟩
 have hown:∀ b (sh':Bool) (xs:List D),own (β q) (.row e 1 sh' xs k) b↔(β q).v.ownBlock=some b:=fun b sh' xs=>by
  rw[ja0 rfl,mg6 _ hs]
 have hl0:look q [(q,Ob.row e 1 sh (l.map .str) k)]=some (.row e 1 sh (l.map .str) k):=by rw[j9,Ae rfl]
 have hin:∀ b,(β q).v.ownBlock=some b->b∈mc3 β [(q,Ob.row e 1 sh (l.map .str) k)]:=fun b hb2=>jh3.2 ⟨q,_,hl0,(hown b _ _).2 hb2⟩;obtain⟨g1,g2,g3,g4,g5⟩:=hg;refine⟨⟨?_,?_,?_,g4,fun b hb2 hnot=>g5 b hb2 fun e1=>hnot (hin b e1.symm)⟩,fun n ob b h1 h2=>?_,⟨fun n ob h1=>?_,fun n n' b ob ob' hne h1 h2 _=>?_,fun n ob b o h1 h2 h3=>?_⟩⟩
 ·first|exact g1|exact g2|exact g3
 ·first|exact g1|exact g2|exact g3
 ·first|exact g1|exact g2|exact g3
 ·obtain⟨rfl,rfl⟩:=jq2 h1;exact .inl (hin b ((hown b _ _).1 h2))
 ·obtain⟨rfl,rfl⟩:=jq2 h1;refine⟨m.map .string,?_,jl4.2 rfl⟩;rw[Aa,hlen];exact hm
 ·obtain⟨rfl,_⟩:=jq2 h1;obtain⟨rfl,_⟩:=jq2 h2;exact absurd rfl hne
 ·obtain⟨rfl,rfl⟩:=jq2 h1;exact ho.out n _ b o hl0 ((hown b _ _).2 ((hown b _ _).1 h2)) h3
theorem rc3 (gl:List (Nat × List D))(q k:Nat)(l:List ByteArray)(hl:l.length<4611686018427387904):
 FnE prog gl 34 [.own q k] [(q,.row 9 1 false (l.map .str) k)] (fun v H1=>v=.tup []/\H1=[(q,.row 9 1 false (((Sc.Kq l).map Sc.toB).map .str) k)]):=by
 intro w M β us hM hus ho hg;simp only[Dc]at hus;obtain⟨v,r,rfl,hv,rfl⟩:=hus;have hl0:look q [(q,Ob.row 9 1 false (l.map .str) k)]=some (.row 9 1 false (l.map .str) k):=by rw[j9,Ae rfl]
 have hv':v=(β q).v:=hv 9 1 false _ hl0;subst hv';obtain⟨ys,h3,h4⟩:=ho.obs q _ hl0;rw[jl4]at h4;subst h4;rw[Aa]at h3;have hlen:((Sc.Kq l).map Sc.toB).length=l.length:=by
  rw[Aa];unfold Sc.Kq;rw[List.length_mergeSort,Aa]
 have fin:∀ w',w.grownBy w' (β q).v.ownBlock->w'.ownsRow 0 9 1 (β q).v l.length (((Sc.Kq l).map Sc.toB).map .string)->∃ (v:V) (x:Value) (H1:List (Nat × Ob)) (β1:Nat->Hd),(v=.tup []/\H1=[(q,.row 9 1 false (((Sc.Kq l).map Sc.toB).map .str) k)])/\Ot [(q,.row 9 1 false (l.map .str) k)] H1 v=true/\Ending.returned (Value.tuple #[])=.returned x/\Frm (mc3 β [(q,.row 9 1 false (l.map .str) k)]) w w'/\(∀ n,(look n [(q,Ob.row 9 1 false (l.map .str) k)]).isSome=true->(β1 n).v=(β n).v)/\
  (∀ n ob b,look n H1=some ob->own (β1 n) ob b->b∈mc3 β [(q,.row 9 1 false (l.map .str) k)]\/w.heap.size<=b)/\Obs w' M β1 H1/\Dw w' (Mut M β1 H1) β1 H1 v x:=fun w' g1 g2=>by
  obtain⟨t1,t2,t3⟩:=ko0 (sh':=false) hlen ho hM g1 g2;refine⟨.tup [],_,_,β,⟨rfl,rfl⟩,?_,rfl,t1,fun _ _=>rfl,t2,t3,[],rfl,rfl⟩;simp[Ot,mo5,mo4,ku8,kk3,j9,Ob.cells,jf8,V.within]
 rcases h3.2 with ⟨e1,e2⟩|⟨g,cap,cur,e1,e2,e3,e4,e5,e6,e7⟩
 ·have h0:l=[]:=At e2;subst h0;rw[e1]at fin ⊢;refine(Tryz.slices_Sort_string_none none 0 w).mono ?_;rintro en w' ⟨rfl,rfl⟩;exact fin _ ⟨rfl,rfl,rfl,As _,fun _ _ _=>rfl⟩ ⟨by rw[Aa,hlen];rfl,.inl ⟨rfl,rfl⟩⟩
 ·rw[e1]at fin ⊢;rw[Nat.mul_one,<-kc7,<-jb5 l]at e7;have hh:=holds_of_block e3 e7;have hs:=Tryz.slices_Sort_string g 0 cap (mg5 l) w hh (Bw.1 e3).1 (by rw[jb5];exact hl);rw[jb5]at hs;refine hs.mono ?_;rintro en w' ⟨rfl,n,os,rfl⟩;refine fin _ (grownBy_sorted _) ?_;have h5:=ownsRow_sorted (ss:=mg5 l) (ts:=Sc.Kq l) (n:=n) (os:=os) (base:=0) (by rw[jb5,<-hlen,Aa]) e2 e3 (by rw[jb5];exact e4) e5 e6;rw[jb5,show(Sc.Kq l).map encStr=((Sc.Kq l).map Sc.toB).map Value.string by rw[<-kc7,ks8]]at h5;exact h5
theorem mq7 (gl:List (Nat × List D))(q k:Nat)(l:List ByteArray):
 FnE prog gl 35 [.own q k] [(q,.row 9 1 false (l.map .str) k)]
  (fun v H1=>v=.d (.list 1 (((Lib.compact (mg5 l)).map Sc.toB).map .str))/\H1=[(q,.row 9 1 true (((Lib.compact (mg5 l)++List.replicate (l.length - (Lib.compact (mg5 l)).length) []).map Sc.toB).map .str) k)]):=by
 intro w M β us hM hus ho hg;simp only[Dc]at hus;obtain⟨v,r,rfl,hv,rfl⟩:=hus;have hl0:look q [(q,Ob.row 9 1 false (l.map .str) k)]=some (.row 9 1 false (l.map .str) k):=by rw[j9,Ae rfl]
 have hv':v=(β q).v:=hv 9 1 false _ hl0;subst hv';obtain⟨ys,h3,h4⟩:=ho.obs q _ hl0;rw[jl4]at h4;subst h4;rw[Aa]at h3;obtain⟨c,hc⟩:∃ c,c=Lib.compact (mg5 l):=⟨_,rfl⟩;have hcl:c.length<=l.length:=by rw[hc,<-jb5 l];exact Lib.compact_length_le _
 rw[<-hc];obtain⟨m,hm⟩:∃ m,m=(c++List.replicate (l.length - c.length) []).map Sc.toB:=⟨_,rfl⟩;rw[<-hm];have hlen:m.length=l.length:=by
  rw[hm,Aa,Ag,Ew];omega
 have hpre:m.take c.length=c.map Sc.toB:=by
  rw[hm,<-Ep,List.take_left'];rfl
 have fin:∀ w' x,w.grownBy w' (β q).v.ownBlock->w'.ownsRow 0 9 1 (β q).v l.length (m.map .string)->(∀ a n cp,(β q).v=.slice a n cp->x=.slice a c.length cp)->∃ (v:V) (x':Value) (H1:List (Nat × Ob)) (β1:Nat->Hd),(v=.d (.list 1 ((c.map Sc.toB).map .str))/\H1=[(q,.row 9 1 true (m.map .str) k)])/\Ot [(q,.row 9 1 false (l.map .str) k)] H1 v=true/\Ending.returned x=.returned x'/\Frm (mc3 β [(q,.row 9 1 false (l.map .str) k)]) w w'/\(∀ n,(look n [(q,Ob.row 9 1 false (l.map .str) k)]).isSome=true->(β1 n).v=(β n).v)/\
  (∀ n ob b,look n H1=some ob->own (β1 n) ob b->b∈mc3 β [(q,.row 9 1 false (l.map .str) k)]\/w.heap.size<=b)/\Obs w' M β1 H1/\Dw w' (Mut M β1 H1) β1 H1 v x':=fun w' x g1 g2 g3=>by
  obtain⟨t1,t2,t3⟩:=ko0 (sh':=true) hlen ho hM g1 g2;refine⟨_,x,_,β,⟨rfl,rfl⟩,?_,rfl,t1,fun _ _=>rfl,t2,t3,?_⟩
  ·simp[Ot,mo5,mo4,ku8,kk3,j9,Ob.cells,jf8,V.within]
  ·show Gd _ _ _ _;have hcl2:((c.map Sc.toB).map D.str).length=c.length:=by rw[Aa,Aa]
   simp only[Gd];rw[hcl2];rcases g2.2 with ⟨e1,e2⟩|⟨g,cap,cur,e1,e2,e3,e4,e5,e6,e7⟩
   ·have hc0:c.length=0:=by omega
    have hc1:c=[]:=At hc0;refine⟨none,0,[],g3 _ _ _ e1,by omega,Ak _,fun _=>rfl,?_,fun j y hj=>by simp at hj⟩;rw[hc1];simp[Gl]
   ·refine⟨some ⟨g,0,none⟩,cap,(c.map Sc.toB).map .string,g3 _ _ _ e1,by omega,e5,fun h=>(by cases h),jl4.2 rfl,fun j y hj=>?_⟩;have hj2:j<c.length:=by
     have:=(Bh.1 hj).1;simpa using this
    refine⟨g,0,rfl,?_,?_⟩
    ·rintro(h|⟨n,ob,h1,h2,h3⟩)
     ·exact ho.out q _ g _ hl0 ((ja0 rfl).2 (by rw[e1];rfl)) h
     ·obtain⟨rfl,rfl⟩:=jq2 h1;rcases h3 with h3|h3
      ·cases h3
      ·rw[Aa,hlen]at h3;omega
    ·rw[<-hpre]at hj;rw[Ep,<-e7,List.take_take,List.getElem?_take_of_lt (by omega)]at hj;simp only[World.cell?,e3,Ft];simp only[Option.isSome_none,Ay,if_false];rw[<-Array.getElem?_toList];exact hj
 rcases h3.2 with ⟨e1,e2⟩|⟨g,cap,cur,e1,e2,e3,e4,e5,e6,e7⟩
 ·have hc0:c.length=0:=by omega
  rw[e1]at fin ⊢;refine(Tryz.slices_Compact_string_empty none 0 w).mono ?_;rintro en w' ⟨rfl,rfl⟩;refine fin _ _ ⟨rfl,rfl,rfl,As _,fun _ _ _=>rfl⟩ ⟨by rw[Aa,hlen];omega,.inl ⟨rfl,e2⟩⟩ fun a n cp h=>?_;cases h;rw[hc0]
 ·rw[e1]at fin ⊢;rw[Nat.mul_one,<-kc7,<-jb5 l]at e7;have hh:=holds_of_block e3 e7;have hs:=Tryz.slices_Compact_string g 0 cap (mg5 l) w hh (by rw[jb5];have:maxLen=9223372036854775807:=rfl;omega) (by rw[jb5];exact e4);rw[jb5,<-hc]at hs;refine hs.mono ?_;rintro en w' ⟨rfl,n,rfl⟩;have hts:(c++List.replicate (l.length - c.length) []).length=(mg5 l).length:=by
   rw[jb5,Ag,Ew];omega
  have h5:=ownsRow_sorted (ss:=mg5 l) (ts:=c++List.replicate (l.length - c.length) []) (n:=n) (os:=#[]) (base:=0) hts e2 e3 (by rw[jb5];exact e4) e5 e6;have h6:=grownBy_sorted (w:=w) (g:=g) (n:=n) (os:=#[]) (c++List.replicate (l.length - c.length) []).toArray;have hgr:∀ u:World,grow u #[]=u:=grow_empty;rw[hgr]at h5 h6;have h7:List.map encStr (c++List.replicate (l.length - c.length) [])=m.map Value.string:=by rw[hm,<-kc7,ks8]
  rw[jb5,h7]at h5;refine fin _ _ h6 h5 fun a n cp h=>?_;cases h;rfl
end
section
variable {mm:Int}
theorem rc4:∀ (n:Nat) (p:Pr),SizeOf.sizeOf p<=n->∀ (depth left:Int) (pl:Bool),0<=left->left<=2048->0<=depth->depth<=34->
 FnE prog (glS mm) 55 [.ptr 5 0,.d (dPr p),.d (.int .i64 depth),.d (.bool pl)] [(5,.box [.d (.int .i64 left)])]
  (fun v H1=>v=.d (.bool (Lx.Fz depth left pl p).1)/\H1=[(5,.box [.d (.int .i64 (Lx.Fz depth left pl p).2)])]):=by
 intro n
 induction n with
 |zero=>intro p h;cases p;simp only[Pr.mk.sizeOf_spec]at h;omega
 |succ n ih=>
  intro p hp depth left pl h0 h1 h2 h3;exact rb1 p depth left pl h0 h1 h2 h3 fun x hx d l q g0 g1 g2 g3=>ih x (by omega) d l q g0 g1 g2 g3
attribute [local irreducible] TR TC
theorem ml3 (p:Pr):FnD prog (glS mm) 30 [.d (dPr p)] (fun v=>v=.d (.bool (Lx.Dz p))):=by
 have h:=rc4 (mm:=mm) _ p (As _) 0 2048 true (by omega) (by omega) (by omega) (by omega);unfold Lx.Dz;rw[v8]at h ⊢
 (refine j3 func30 ntmps30 results30 fun w M=>?_)
 (repeat' first|refine Ca 1 ?_;(refine j6 1 ?_)|refine Ca 5 ?_;(refine j6 5 ?_)|refine Ca 8 ?_;refine Ch (hc:=h) ?_|refine yyp ?_|refine yy ?_|refine at_nil ?_;refine Ce [0,1,2,3,4,5,6] ?_|refine Cb fun K hK=>?_|apply_assumption -exfalso -symm)
 (refine j0 (j5 ?_))
 rfl
end
section
def Um:List Nat:=[0,1,2,3,4,5,6,7]
variable {mm:Int}
namespace Sc
def start (tk:List (ByteArray × Int)):W:=⟨fun _=>[],tk,0,[]⟩
noncomputable def Dl (p:Pr):List ByteArray:=once (Ih (Fv (start []) p).2.ev)
theorem Xb (l:List ByteArray):mg5 ((Kq l).map toB)=Kq l:=ks8 _
end Sc
attribute [local irreducible] TR TC
theorem qc7 (p:Pr)(hw:Lx.Dz p=true->Sc.Ry p/\kc2 p/\(Sc.start []).fit (Sc.prN p+1)):
 FnD prog (glS mm) 12 [.d (dPr p)] (fun v=>v=.tup [.d (.list 1 (if Lx.Dz p=true then (Sc.Dl p).map .str else [])),.d (.int .i64 (if Lx.Dz p=true then 0 else 2))]):=by
 have c1:=ml3 (mm:=mm) p;by_cases hm:Lx.Dz p=true
 ·obtain⟨hok,hcap,hfit⟩:=hw hm;have c2:=jo1 (glS mm) .free [];have c3:=ks7 (mm:=mm) .free _ p (As _) hok hcap (Sc.start []) hfit;have hg:=Sc.Qx p (Sc.start []);obtain⟨r,hr⟩:∃ r,r=Sc.Fv (Sc.start []) p:=⟨_,rfl⟩;have hF:Sc.Dl p=Sc.once (Sc.Ih r.2.ev):=by rw[hr];rfl
  rw[<-hr]at c3 hg;have he:=hg.ev;have hroom:=hfit.room;have hlen:=Sc.Nr r.2.ev;unfold Sc.W.room at hroom;have c4:=rc3 (glS mm) 951 0 (Sc.Ih r.2.ev) (by omega);have c5:=mq7 (glS mm) 951 0 ((Sc.Kq (Sc.Ih r.2.ev)).map Sc.toB);rw[Sc.Xb,Sc.Uv,<-hF]at c5;rw[Ae hm,Ae hm];rw[hm]at c1;dsimp only[HW,ja4,n6,Sc.start,Sc.Ih,Aw]at c2 c3;clear hr hg he hroom hlen hfit hok hcap hF;rw[v8]at c1 c3 ⊢
  (refine j3 func12 ntmps12 results12 fun w M=>?_)
  ((repeat' first|refine Ca 1 ?_;(refine j6 1001 ?_)|refine Ca 4 ?_;(refine Cj 903 ?_)|refine Ck 4 ?_;refine halt ?_|refine yyp ?_;try refine Cc ?_ ?_<;>intro hb|refine yy ?_|refine Cf 30 ?_;refine Cg (hc:=c1) ?_;try refine Cc ?_ ?_<;>intro hb|refine at_nil ?_;refine Ce Um ?_|refine Cb fun K hK=>?_|apply_assumption -exfalso -symm);all_goals try refine unhalt ?_)
  refine ji5 903 951 0 (e:=9) (sz:=1) rfl rfl rfl ?_;refine jd9 (jq1 951 rfl) ?_;refine jd9 (jf3 (n:=903) (q:=951) (i:=0) rfl rfl rfl rfl (by(repeat (first|exact Drop.nil|apply Drop.drop rfl|apply Drop.take rfl));fail_if_success intros) rfl) ?_
  ((repeat' first|refine Ca 9 ?_;refine Ch (hc:=c2) ?_|refine Ca 11 ?_;refine Ch (hc:=c3) ?_|refine Ck 5 ?_;refine halt ?_|refine yyp ?_|refine at_nil ?_;refine Ce Um ?_|refine n9 ?_ ?_|(apply Dp (x:=.region 4 _ _);focus ((refine Ck 4 ?_;refine j1 [1,3] (Cm [0] (.mid 2 (lin [7,15]) 1 (lin [9,15]))) ?_);(repeat' (first|refine Ca 1 ?_;(refine j6 1001 ?_)));(all_goals first|exact Wk.refl _ _|exact v6);done))|refine Cb fun K hK=>?_|refine Ck 4 ?_;refine j1 [1,3] (Cm [0] (.mid 2 (lin [7,15]) 1 (lin [9,15]))) ?_|apply_assumption -exfalso -symm);all_goals try refine unhalt ?_)
  all_goals (refine jd9 (jf2 (n:=903) (q:=951) rfl rfl) ?_)
  all_goals (repeat' first|refine Ca 13 ?_;refine Ch (hc:=c4) ?_|refine Ca 15 ?_;refine Ch (hc:=c5) ?_|refine yyp ?_|refine yy ?_|refine at_nil ?_;refine Ce Um ?_|refine Cb fun K hK=>?_|refine Ck 4 ?_;refine j1 [] (lin [0,9,6,14]) ?_|apply_assumption -exfalso -symm)
  all_goals (refine j0 (j5 ?_))
  all_goals rfl
 ·rw[Af hm,Af hm];rw[show Lx.Dz p=false by simpa using hm]at c1;rw[v8]at c1 ⊢
  (refine j3 func12 ntmps12 results12 fun w M=>?_)
  (repeat' first|refine Ca 1 ?_;(refine j6 1001 ?_)|refine yyp ?_;try refine Cc ?_ ?_<;>intro hb|refine yy ?_|refine Cf 30 ?_;refine Cg (hc:=c1) ?_;try refine Cc ?_ ?_<;>intro hb|refine at_nil ?_;refine Ce Um ?_|refine Cb fun K hK=>?_|refine Ck 4 ?_;refine j1 [] (lin [0,9,6,14]) ?_|apply_assumption -exfalso -symm)
  all_goals (refine j0 (j5 ?_))
  all_goals rfl
end
section
def Uj:List Nat:=[0,1,2,3,4,5,6,7,8,9,48]
variable {mm:Int}
namespace Sc
noncomputable def Hq (p:Pr)(ns:List ByteArray):ByteArray × Int:=Hu ns (Fv (start []) p).2.ev
end Sc
attribute [local irreducible] TR TC
theorem ml4 (p:Pr)(nn:List ByteArray)(hw:Lx.Dz p=true->Sc.Ry p/\kc2 p/\(Sc.start []).fit (Sc.prN p+1)):
 FnD prog (glS mm) 15 [.d (dPr p),.d (.list 1 (nn.map .str))] (fun v=>v=.tup [.d (.str (if Lx.Dz p=true then (Sc.Hq p nn).1 else ByteArray.empty)),.d (.int .i64 (if Lx.Dz p=true then (Sc.Hq p nn).2 else 2))]):=by
 have c1:=ml3 (mm:=mm) p;by_cases hm:Lx.Dz p=true
 ·obtain⟨hok,hcap,hfit⟩:=hw hm;have c2:=jo1 (glS mm) (.check nn) [];have c3:=ks7 (mm:=mm) (.check nn) _ p (As _) hok hcap (Sc.start []) hfit;have hF:Sc.Hq p nn=Sc.Hu nn (Sc.Fv (Sc.start []) p).2.ev:=rfl;obtain⟨r,hr⟩:∃ r,r=Sc.Fv (Sc.start []) p:=⟨_,rfl⟩;rw[<-hr]at c3 hF;rw[Ae hm,Ae hm,hF];rw[hm]at c1;dsimp only[HW,ja4,n6,Sc.start,Sc.Hu,Aw]at c2 c3;clear hr hfit hok hcap hF;rw[v8]at c1 c3 ⊢
  (refine j3 func15 ntmps15 results15 fun w M=>?_)
  (repeat' first|refine Ca 2 ?_;(refine j6 1002 ?_)|refine Ca 3 ?_;(refine j6 903 ?_)|refine Ca 4 ?_;(refine Cj 904 ?_)|refine Ca 5 ?_;(refine Cj 905 ?_)|refine Ca 8 ?_;refine yyp ?_;try refine Cc ?_ ?_<;>intro hb|refine yyp ?_|refine yy ?_|refine Cf 30 ?_;refine Cg (hc:=c1) ?_|refine at_nil ?_;refine Ce Uj ?_|(apply Dp (x:=.region 3 _ _);focus ((refine Ck 3 ?_;refine j1 [1,3] (Cm [0] (.mid 2 (lin [7,15]) 1 (lin [9,15]))) ?_);(repeat' (first|refine Ca 10 ?_;refine Ch (hc:=c2) ?_|refine Ca 12 ?_;refine Ch (hc:=c3) ?_|refine yyp ?_|refine at_nil ?_;refine Ce Uj ?_|refine n9 ?_ ?_));(all_goals first|exact Wk.refl _ _|exact v6);done))|(apply Dp (x:=.region 4 _ _);focus ((refine Ck 4 ?_;refine j1 [2,3] (Cm [1] (.mid 1 (lin [11,15]) 2 (lin [5,15]))) ?_);(repeat' (first|refine yyp ?_|refine yy ?_|refine at_nil ?_;refine Ce Uj ?_|refine n9 ?_ ?_));(all_goals first|exact Wk.refl _ _|exact v6);done))|refine Cb fun K hK=>?_|refine Ck 3 ?_;refine j1 [1,3] (Cm [0] (.mid 2 (lin [7,15]) 1 (lin [9,15]))) ?_|refine Ck 4 ?_;refine j1 [2,3] (Cm [1] (.mid 1 (lin [11,15]) 2 (lin [5,15]))) ?_|apply_assumption -exfalso -symm)
  all_goals (refine j0 (j5 ?_ (Res.cell rfl rfl rfl (Arg.d _) (Res.cell rfl rfl rfl (Arg.d _) Res.nil))))
  all_goals rfl
 ·rw[Af hm,Af hm];rw[show Lx.Dz p=false by simpa using hm]at c1;rw[v8]at c1 ⊢
  (refine j3 func15 ntmps15 results15 fun w M=>?_)
  (repeat' first|refine Ca 2 ?_;(refine j6 1002 ?_)|refine Ca 3 ?_;(refine j6 1003 ?_)|refine Ca 4 ?_;(refine Cj 1004 ?_)|refine Ca 5 ?_;(refine Cj 1005 ?_)|refine yyp ?_;try refine Cc ?_ ?_<;>intro hb|refine yy ?_|refine Cf 30 ?_;refine Cg (hc:=c1) ?_;try refine Cc ?_ ?_<;>intro hb|refine at_nil ?_;refine Ce Uj ?_|(apply Dp (x:=.region 4 _ _);focus ((refine Ck 4 ?_;refine j1 [2,3] (Cm [1] (.mid 1 (lin [11,15]) 2 (lin [5,15]))) ?_);(repeat' (first|refine Ca 2 ?_;(refine j6 1002 ?_)));(all_goals first|exact Wk.refl _ _|exact v6);done))|refine Cb fun K hK=>?_|refine Ck 3 ?_;refine j1 [] (lin [0,9,6,14]) ?_|refine Ck 4 ?_;refine j1 [2,3] (Cm [1] (.mid 1 (lin [11,15]) 2 (lin [5,15]))) ?_|apply_assumption -exfalso -symm)
  all_goals (refine j0 (j5 ?_ (Res.cell rfl rfl rfl (Arg.d _) (Res.cell rfl rfl rfl (Arg.d _) Res.nil))))
  all_goals rfl
end
end Go.Proofs.YtdopmfifmgkmoaaGreatDoor
