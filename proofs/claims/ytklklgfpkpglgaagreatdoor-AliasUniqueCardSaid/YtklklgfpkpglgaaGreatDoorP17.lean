/- Parts: O11, O12, O15, O13, O16, D47, D35, D36. -/
import Derived.Test.YtklklgfpkpglgaaGreatDoorP16
import Derived.Maps.RangeRun
import Derived.LoopNIn
set_option linter.all false
set_option maxRecDepth 100000
set_option maxHeartbeats 16000000
namespace Go.Proofs.YtklklgfpkpglgaaGreatDoor
open Go.RowKit Go.Proofs.Tryz
section
def Qs:List Nat:=[0,2,3,4,5,6]
variable {mm:Int}
namespace Lx
def inside (s t:ByteArray):Bool:=(List.range (s.size+1)).any fun i=>t.data.toList.isPrefixOf (s.data.toList.drop i)
def kp6:List UInt8:=[32,65,70,84,69,82,32,65,76,84,32,65,78,68,32,66,79,79,76,32,66,89,84,69,32,67,65,83,69,32,67,72,65,78,32,69,76,83,69,32,70,65,76,83,69,32,70,79,82,32,73,70,32,73,78,84,32,73,83,32,77,73,78,85,83,32,78,79,84,32,79,70,32,79,82,32,80,65,82,32,80,76,65,67,69,68,32,80,76,85,83,32,80,82,73,32,80,82,79,67,32,80,82,79,67,69,83,83,79,82,32,80,82,79,84,79,67,79,76,32,83,69,81,32,83,73,90,69,32,83,75,73,80,32,83,84,79,80,32,84,73,77,69,82,32,84,73,77,69,83,32,84,82,85,69,32,86,65,76,32,87,72,73,76,69,32]
def Vi:ByteArray:=⟨kp6.toArray⟩
theorem md1:∀ (s t:List UInt8),(32:UInt8)∉s->(s++32::t).takeWhile (fun c=>c != 32)=s
 |[],t,_=>by simp
 |c::s,t,h=>by
  have h1:c≠32:=fun e=>h (by simp[e]);have h2:=md1 s t (fun e=>h (Bb _ e));simp[List.takeWhile_cons,h1,h2]
theorem rk6:∀ i<167,kp6[i]? =some 32->(kp6.drop (i+1)).takeWhile (fun c=>c != 32)=[]\/(keys.any fun k=>decide (k.data.toList=(kp6.drop (i+1)).takeWhile (fun c=>c != 32)))=true:=by decide+kernel
theorem qe5:∀ k∈keys.map (fun k=>k.data.toList),∃ i<167,(32::k++[32]).isPrefixOf (kp6.drop i)=true:=by decide+kernel
theorem mx2 {s:List UInt8}(h:s.all Ma=true):(32:UInt8)∉s:=fun hm=>by
 have:=Bt.1 h _ hm
 revert this
 decide
theorem Qp:Vi.size=166:=by decide+kernel
theorem Uh (s:ByteArray)(hw:s.data.toList.all Ma=true)(h0:s.data.toList≠[]):inside Vi ((⟨#[32]⟩++s)++⟨#[32]⟩)=isKey s:=by
 have hl:((⟨#[32]⟩++s)++⟨#[32]⟩:ByteArray).data.toList=32::s.data.toList++[32]:=by simp[ByteArray.data_append]
 unfold inside;rw[hl,Ez];have hK:Vi.data.toList=kp6:=rfl;rw[hK];constructor
 ·intro h;obtain⟨i,hi,hp⟩:=Em.1 h;have hi:i<167:=by have:=Ew.1 hi;rw[Qp]at this;omega
  obtain⟨t,ht⟩:=List.isPrefixOf_iff_prefix.1 hp;have h1:kp6[i]? =some 32:=by
   have:(kp6.drop i)[0]? =some 32:=by rw[<-ht];rfl
   rwa [Eo,Nat.add_zero]at this
  have h2:kp6.drop (i+1)=s.data.toList++32::t:=by
   have:(kp6.drop i).drop 1=s.data.toList++32::t:=by rw[<-ht];simp
   rwa [List.drop_drop]at this
  have h3:=rk6 i hi h1;rw[h2,md1 _ _ (mx2 hw)]at h3;rcases h3 with h3|h3
  ·exact absurd h3 h0
  ·unfold isKey;obtain⟨k,hk,hk2⟩:=Em.1 h3;refine Em.2 ⟨k,hk,?_⟩;have hk2:=of_decide_eq_true hk2;refine Eb ?_;cases k with|mk k=>cases s with|mk s=>cases k with|mk k=>cases s with|mk s=>exact congrArg (fun l=>ByteArray.mk (Array.mk l)) hk2
 ·intro h;unfold isKey at h;obtain⟨k,hk,hk2⟩:=Em.1 h;have hk2:=of_decide_eq_true hk2;subst hk2;obtain⟨i,hi,hp⟩:=qe5 k.data.toList (Bl.2 ⟨k,hk,rfl⟩);exact Em.2 ⟨i,Ew.2 (by rw[Qp];omega),hp⟩
end Lx
theorem ke3:∀ l sub:List UInt8,0<=Lib.index l sub↔∃ i,i<=l.length/\sub.isPrefixOf (l.drop i)=true
 |[],sub=>by
  cases sub with
  |nil=>simp[Lib.index]
  |cons c sub=>simp[Lib.index]
 |b::l,sub=>by
  have ih:=ke3 l sub;have hge:=Lib.index_ge l sub;rw[Lib.index];constructor
  ·intro h;split at h
   ·rename_i hp;exact⟨0,Ai _,hp⟩
   ·split at h
    ·omega
    ·rename_i hne;have hne:Lib.index l sub≠-1:=fun e=>hne (by rw[e];rfl);obtain⟨i,hi,hp⟩:=ih.1 (by omega);exact⟨i+1,by simp only[An];omega,hp⟩
  ·rintro⟨i,hi,hp⟩;split
   ·omega
   ·rename_i hn;cases i with
    |zero=>exact absurd hp hn
    |succ i=>
     have h0:=ih.2 ⟨i,by simp only[An]at hi;omega,hp⟩;have hne:¬(Lib.index l sub == -1)=true:=by
      intro e;have:=eq_of_beq e;omega
     rw[Ae hne];omega
theorem kj0 (s t:ByteArray):Lib.contains s.data.toList t.data.toList=Lx.inside s t:=by
 unfold Lib.contains Lx.inside;rw[Ez,Ak,ke3,Em];have hl:s.data.toList.length=s.size:=by simp
 constructor
 ·rintro⟨i,hi,hp⟩;exact⟨i,Ew.2 (by omega),hp⟩
 ·rintro⟨i,hi,hp⟩;exact⟨i,by have:=Ew.1 hi;omega,hp⟩
theorem ml1 (s t:ByteArray)(hs:s.size<=1000):FnD prog (glS mm) 194 [.d (.str s),.d (.str t)] (fun v=>v=.d (.bool (Lx.inside s t))):=by
 intro w M us hM hus hg;simp only[Cv]at hus;obtain⟨v,r,rfl,hv,u,r2,rfl,hu,rfl⟩:=hus;have hv':v=.string s:=hv;have hu':u=.string t:=hu;subst hv' hu';obtain⟨v1,t1,f1,q1,_,q2⟩:=hg 5 _ rfl;simp only[Gc]at q2;obtain⟨z,r3,rfl,_,hz,rfl⟩:=q2;have hz':z=.int .i64 mm:=hz;subst hz';refine(Tryz.strings_Contains s t mm w (by omega) ?_).mono ?_
 ·simp only[World.cell?,q1];rfl
 ·rintro e w' ⟨rfl,rfl⟩;exact⟨_,_,rfl,.d _,rfl,Below.refl _ _,by rw[kj0];rfl⟩
attribute [local irreducible] TR TC
theorem rv2 (s:ByteArray)(hs:s.size<=1000):FnD prog (glS mm) 164 [.d (.str s)] (fun v=>v=.d (.bool (Lx.isKey s))):=by
 have hsz:s.data.toList.length=s.size:=by simp
 have hrun:=rf4 (glS mm) s (by omega);have hc:=ml1 (mm:=mm) Lx.Vi ((⟨#[32]⟩++s)++⟨#[32]⟩) (by rw[Lx.Qp];omega);have hz:(⟨#[32]⟩:ByteArray).size=1:=rfl;have hz2:(⟨#[32]⟩++s:ByteArray).size=1+s.size:=by rw[ByteArray.size_append,hz]
 have hnk:∀ c∈Lx.keys,c.data.toList.all Lx.Ma=true/\c≠⟨#[]⟩:=by decide+kernel
 by_cases h0:s=⟨#[]⟩
 ·have hk:Lx.isKey s=false:=by rw[h0];decide+kernel
  (refine j7 func164 ntmps164 results164 fun w M=>?_)
  (repeat' first|refine yyp ?_;try refine Ce ?_ ?_<;>intro hb|refine yy ?_|refine yy2 ?_ ?_<;>intro hcmp|refine at_nil ?_;refine Cc Qs ?_|refine Cb fun K hK=>?_|apply_assumption -exfalso -symm)
  all_goals try contradiction
  (refine j1 (k7 ?_))
  rw[hk];rfl
 by_cases hw:s.data.toList.all Lx.Ma=true
 ·have h0':s.data.toList≠[]:=fun e=>h0 (by cases s with|mk s=>cases s with|mk s=>cases e;rfl);rw[Lx.Uh s hw h0']at hc;have hr:Lx.run s.data.toList=s.size:=by rw[<-hsz];exact(Lx.Ri _).2 hw
  rw[hr]at hrun
  (refine j7 func164 ntmps164 results164 fun w M=>?_)
  (repeat' first|refine yyp ?_;try refine Ce ?_ ?_<;>intro hb|refine yy ?_|refine yy2 ?_ ?_<;>intro hcmp|refine Ch 163 ?_;refine Ck (hc:=hrun) ?_|refine Ch 194 ?_;refine Ck (hc:=hc) ?_;try refine Ce ?_ ?_<;>intro hb|refine at_nil ?_;refine Cc Qs ?_|refine Cb fun K hK=>?_|apply_assumption -exfalso -symm)
  all_goals try contradiction
  all_goals
   (refine j1 (k7 ?_))
   simp only[oneOf, *]
 ·have hk:Lx.isKey s=false:=by
   cases h:Lx.isKey s with
   |false=>rfl
   |true=>
    obtain⟨k,hk,hk2⟩:=Em.1 h;have:=of_decide_eq_true hk2;subst this;exact absurd (hnk _ hk).1 hw
  have hr:¬Lx.run s.data.toList=s.size:=fun e=>hw ((Lx.Ri _).1 (by rw[hsz];exact e))
  (refine j7 func164 ntmps164 results164 fun w M=>?_)
  (repeat' first|refine yyp ?_;try refine Ce ?_ ?_<;>intro hb|refine yy ?_|refine yy2 ?_ ?_<;>intro hcmp|refine Ch 163 ?_;refine Ck (hc:=hrun) ?_|refine at_nil ?_;refine Cc Qs ?_|refine Cb fun K hK=>?_|apply_assumption -exfalso -symm)
  all_goals try contradiction
  (refine j1 (k7 ?_))
  rw[hk];rfl
theorem jk6 (s:ByteArray):FnD prog (glS mm) 125 [.d (.str s)] (fun v=>v=.d (.bool (Lx.Dg s))):=by
 have hsz:s.data.toList.length=s.size:=by simp
 cases hs:s.data.toList with
 |nil=>
  have h0:s=⟨#[]⟩:=by cases s with|mk s=>cases s with|mk s=>cases hs;rfl
  (refine j7 func125 ntmps125 results125 fun w M=>?_)
  (repeat' first|refine yyp ?_;try refine Ce ?_ ?_<;>intro hb|refine yy ?_|refine yy2 ?_ ?_<;>intro hcmp|refine at_nil ?_;refine Cc Qs ?_|refine Cb fun K hK=>?_|apply_assumption -exfalso -symm)
  all_goals try contradiction
  (refine j1 (k7 ?_))
  simp[oneOf,Lx.Dg,hs]
 |cons c l=>
  rw[hs]at hsz;simp only[An]at hsz;have h0:¬s=⟨#[]⟩:=fun e=>by rw[e]at hs;cases hs
  have hn:=qe4 s c l hs;have hc0:s.data.toList[0]? =some c:=by rw[hs];rfl
  by_cases h32:s.size<=32
  ·have hrun:=rf4 (glS mm) s (by omega);have hk:=rv2 (mm:=mm) s (by omega);by_cases hall:(c::l).all Lx.Ma=true
   ·have hr:Lx.run s.data.toList=s.size:=by rw[hs,(Lx.Ri _).2 hall];simpa using hsz
    rw[hr]at hrun
    (refine j7 func125 ntmps125 results125 fun w M=>?_)
    (repeat' first|refine yyp ?_;try refine Ce ?_ ?_<;>intro hb|refine yy ?_|refine yy2 ?_ ?_<;>intro hcmp|refine Ch 162 ?_;refine Ck (hc:=(ki7 (glS mm) c)) ?_;try refine Ce ?_ ?_<;>intro hb|refine Ch 163 ?_;refine Ck (hc:=hrun) ?_|refine Ch 164 ?_;refine Ck (hc:=hk) ?_;try refine Ce ?_ ?_<;>intro hb|refine at_nil ?_;refine Cc Qs ?_|refine Cb fun K hK=>?_|apply_assumption -exfalso -symm)
    all_goals try contradiction
    all_goals
     (refine j1 (k7 ?_))
     rw[hn];rw[Fe]at hall;have h31:l.length<32:=by omega
     simp only[Aa]at hall;simp only[oneOf, *,decide_true,Bi,Bw,Bj,Bool.not_true,Bool.not_false]
   ·have hr:¬Lx.run s.data.toList=s.size:=fun e=>hall ((Lx.Ri _).1 (by rw[hs]at e;rw[e];simpa using hsz.symm))
    (refine j7 func125 ntmps125 results125 fun w M=>?_)
    (repeat' first|refine yyp ?_;try refine Ce ?_ ?_<;>intro hb|refine yy ?_|refine yy2 ?_ ?_<;>intro hcmp|refine Ch 162 ?_;refine Ck (hc:=(ki7 (glS mm) c)) ?_;try refine Ce ?_ ?_<;>intro hb|refine Ch 163 ?_;refine Ck (hc:=hrun) ?_|refine at_nil ?_;refine Cc Qs ?_|refine Cb fun K hK=>?_|apply_assumption -exfalso -symm)
    all_goals try contradiction
    all_goals
     (refine j1 (k7 ?_))
     rw[hn];rw[Fe]at hall;simp only[oneOf,Bk,Be];have hlw:=ml0 c
     (repeat (rename (∀ S:Sd,TC _ _ _ S->_)=>hX;clear hX))
     clear hn hrun hk
     grind
  ·(refine j7 func125 ntmps125 results125 fun w M=>?_)
   (repeat' first|refine yyp ?_;try refine Ce ?_ ?_<;>intro hb|refine yy ?_|refine yy2 ?_ ?_<;>intro hcmp|refine at_nil ?_;refine Cc Qs ?_|refine Cb fun K hK=>?_|apply_assumption -exfalso -symm)
   all_goals try contradiction
   all_goals
    (refine j1 (k7 ?_))
    rw[hn];have h31:¬l.length<32:=by omega
    simp only[oneOf,h31,decide_false,Bj]
theorem ku7 (t:Ty):FnD prog (glS mm) 172 [.d (dTy t)] (fun v=>v=.d (.bool (Lx.Pp t))):=by
 (refine j7 func172 ntmps172 results172 fun w M=>?_)
 (repeat' first|refine Ca 1 ?_;(refine Cq 1 ?_)|refine yyp ?_;try refine Ce ?_ ?_<;>intro hb|refine yy ?_|refine yy2 ?_ ?_<;>intro hcmp|refine Ch 197 ?_;refine Ck (hc:=(by first|exact rk5 t.kind|exact rk5 t.item)) ?_;try refine Ce ?_ ?_<;>intro hb|refine Ch 125 ?_;refine Ck (hc:=(jk6 t.proto)) ?_;try refine Ce ?_ ?_<;>intro hb|refine at_nil ?_;refine Cc [0,1,2,3,4,5,6,12,24,31] ?_|refine Cb fun K hK=>?_|apply_assumption -exfalso -symm)
 all_goals try contradiction
 all_goals
  (refine j1 (k7 ?_))
  simp only[oneOf,Bk,Be,Lx.Pp]
  (repeat (rename (∀ S:Sd,TC _ _ _ S->_)=>hX;clear hX))
  simp only[jp2]at *
  grind [Lx.prim]
end
section
def Rs:List Nat:=[0,1,2,3,4,5,6,7,37,39,40,41,42,63]
variable {mm:Int}
theorem qe6 (pre l:List Va)(v:Va):Lx.Qf pre (v::l)=(Lx.Dg v.tag && Lx.Nu v.items 0 && !(pre.any fun w=>decide (w.tag=v.tag)) && Lx.Qf (pre++[v]) l):=rfl
theorem qe7 {α:Type}(l:List α)(k:Nat)(h:k<l.length):l.take k++[l[k]]=l.take (k+1):=(Ao h).symm
theorem qe8 {α β:Type}(f:α->β)(l:List α)(m:Nat):((l.map f).drop 0).take (m - 0)=(l.take m).map f:=by
 rw[Ev,Nat.sub_zero,Eg]
attribute [local irreducible] TR TC
theorem qe9 (l:List Va):FnD prog (glS mm) 174 [.d (dPt ⟨false,l⟩)] (fun v=>v=.d (.bool (Lx.Qm ⟨false,l⟩))):=by
 unfold dPt Lx.Qm;dsimp only
 match l with
 |[]=>
  (refine j7 func174 ntmps174 results174 fun w M=>?_)
  (repeat' first|refine Ca 1 ?_;(refine Cq 1 ?_)|refine yyp ?_;try refine Ce ?_ ?_<;>intro hb|refine yy ?_|refine yy2 ?_ ?_<;>intro hcmp|refine at_nil ?_;refine Cc Rs ?_|refine Cb fun K hK=>?_|apply_assumption -exfalso -symm)
  ((all_goals try contradiction);(all_goals try (exfalso;(repeat (rename (∀ S:Sd,TC _ _ _ S->_)=>hX;clear hX));simp only[An,Av,Ab]at * <;>omega)))
  all_goals
   (refine j1 (k7 ?_))
   rfl
 |[v]=>
  have hv:(dVa v)=.agg [.str v.tag,.list 1 (v.items.map (.int .u8))]:=rfl
  (refine j7 func174 ntmps174 results174 fun w M=>?_)
  (repeat' first|refine Ca 1 ?_;(refine Cq 1 ?_)|refine yyp ?_;try refine Ce ?_ ?_<;>intro hb|refine yy ?_|refine yy2 ?_ ?_<;>intro hcmp|refine Ch 198 ?_;refine Ck (hc:=(mq5 v.items 1)) ?_;try refine Ce ?_ ?_<;>intro hb|refine at_nil ?_;refine Cc Rs ?_|refine Cb fun K hK=>?_|apply_assumption -exfalso -symm)
  all_goals try simp only[List.getElem_cons_zero]at hcmp
  ((all_goals try contradiction);(all_goals try (exfalso;(repeat (rename (∀ S:Sd,TC _ _ _ S->_)=>hX;clear hX));simp only[An,Av,Ab]at * <;>omega)))
  all_goals
   (refine j1 (k7 ?_))
   simp[oneOf,jp2, *]
 |v::w::r=>
  (refine j7 func174 ntmps174 results174 fun w M=>?_)
  (repeat' first|refine Ca 1 ?_;(refine Cq 1 ?_)|refine yyp ?_;try refine Ce ?_ ?_<;>intro hb|refine yy ?_|refine yy2 ?_ ?_<;>intro hcmp|refine at_nil ?_;refine Cc Rs ?_|refine Cb fun K hK=>?_|apply_assumption -exfalso -symm)
  all_goals try simp only[List.getElem_cons_zero]at hcmp
  ((all_goals try contradiction);(all_goals try (exfalso;(repeat (rename (∀ S:Sd,TC _ _ _ S->_)=>hX;clear hX));simp only[An,Av,Ab]at * <;>omega)))
  all_goals
   (refine j1 (k7 ?_))
   rfl
theorem qf0 (l:List Va):FnD prog (glS mm) 174 [.d (dPt ⟨true,l⟩)] (fun v=>v=.d (.bool (Lx.Qm ⟨true,l⟩))):=by
 unfold dPt Lx.Qm;dsimp only;rw[Ad rfl]
 (refine j7 func174 ntmps174 results174 fun w M=>?_)
 (repeat' first|refine Ca 1 ?_;(refine Cq 1 ?_)|refine yyp ?_;try refine Ce ?_ ?_<;>intro hb|refine yy ?_|refine yy2 ?_ ?_<;>intro hcmp|refine at_nil ?_;refine Cc Rs ?_|refine Cb fun K hK=>?_|apply_assumption -exfalso -symm)
 ·(refine j1 (k7 ?_))
  rw[Ee (by omega)];rfl
 ·(refine j1 (k7 ?_))
  rw[Ee (by omega)];rfl
 have hd:decide (1<=l.length/\l.length<=16)=true:=Eb (by omega);refine j6 [2,3,4,41,42,43,44,45,46,47,48,49,50,51,52,53,54,55,56,57,58,59,60,61,62,63,64] [] (fun k:Nat=>[(41,.d (.int .i64 k))]) (fun _=>[]) (fun k=>k<=l.length/\Lx.Qf [] l=Lx.Qf (l.take k) (l.drop k)) (fun k=>l.length - k) 0 ⟨by omega,rfl⟩ fun k ⟨hk,hi⟩=>?_;dsimp only[Ac,Af];rcases Ah k l.length with hk2|hk2
 ·rw[By hk2,qe6,qe7 l k hk2]at hi;have hit:=mq5 (mm:=mm) l[k].items 0;have hcf:=vc7 (glS mm) l[k].tag (l[k].items.map (.int .u8)) (fun w=>decide (w.tag=l[k].tag)) (l.take k) fun j hj=>md0 (mm:=mm) l[k].tag (l[k].items.map (.int .u8)) _
  (repeat' first|refine Ca 4 ?_;(refine j3 4 ?_)|refine Ca 60 ?_;(refine z_p ri6 ?_;simp only[qe8])|refine Ca 62 ?_;refine Cg (hc:=hcf) ?_;try refine Ce ?_ ?_<;>intro hb|refine yyp ?_;try refine Ce ?_ ?_<;>intro hb|refine yy ?_|refine Ch 198 ?_;refine Ck (hc:=hit) ?_;try refine Ce ?_ ?_<;>intro hb|refine Ch 125 ?_;refine Ck (hc:=(jk6 l[k].tag)) ?_;try refine Ce ?_ ?_<;>intro hb|refine at_nil ?_;refine Cc Rs ?_|refine Cb fun K hK=>?_|apply_assumption -exfalso -symm)
  all_goals first
   |(refine⟨k+1,⟨by omega,?_⟩,by omega,k8⟩
     rw[hi];simp only[*,Bool.not_false,Bi])
   |((refine j1 (k7 ?_))
     rw[hi,hd];simp only[oneOf, *,Bool.not_true,Bi,Bo,Bj])
 ·rw[Bz hk2]at hi
  (repeat' first|refine yyp ?_;try refine Ce ?_ ?_<;>intro hb|refine yy ?_|refine at_nil ?_;refine Cc Rs ?_|refine Cb fun K hK=>?_|apply_assumption -exfalso -symm)
  (refine j1 (k7 ?_))
  rw[hi,hd];rfl
theorem qv3 (p:Pt):FnD prog (glS mm) 174 [.d (dPt p)] (fun v=>v=.d (.bool (Lx.Qm p))):=by
 obtain⟨c,l⟩:=p;cases c with
 |false=>exact qe9 l
 |true=>exact qf0 l
end
section
def Qd:List Nat:=[0,1,2,3,4,5,6,7,47,50,51,52,65]
def vg6:List Nat:=[0,1,2,3,4,5,6,7,47,52,66]
def qf1:Plan:=lin [0,8,20,28,5,12,17,25,32,37,42,44]
attribute [local irreducible] TR TC
theorem qf2 (gl:List (Nat × List D)):∀ (m:Nat) (x y:Ex),exN x<=m->FnD prog gl 165 [.d (dEx x),.d (dEx y)] (fun v=>v=.d (.bool (eqB x y))):=by
 intro m
 induction m with
 |zero=>intro x y h;have:=kb2 x;omega
 |succ m ih=>
  intro x y hm;rw[qu2]at hm;have hl:∀ z∈x.l,∀ y,FnD prog gl 165 [.d (dEx z),.d (dEx y)] (fun v=>v=.d (.bool (eqB z y))):=fun z hz y=>ih z y (by have:=jo0 hz;omega);have hxy:=vc9 (a:=x) (b:=y);clear ih hm;simp only[k9]at hl ⊢;rw[qd6 x,qd6 y]
  (refine j7 func165 ntmps165 results165 fun w M=>?_)
  refine jp6 0 5 rfl rfl fun hna=>?_;refine jp6 1 5 rfl rfl fun hnb=>?_;simp only[Ab]at hna hnb
  (repeat' first|refine Ca 2 ?_;(refine Cq 2 ?_)|refine Ca 3 ?_;(refine Cq 3 ?_)|refine Ca 11 ?_;(first|refine yyp ?_;try refine Ce ?_ ?_<;>intro hb|refine yy2 ?_ ?_<;>intro hcmp);all_goals try refine Nb true 11 47 Qd ?_|refine Ca 18 ?_;(first|refine yyp ?_;try refine Ce ?_ ?_<;>intro hb|refine yy2 ?_ ?_<;>intro hcmp);all_goals try refine Nb true 18 47 Qd ?_|refine Ca 25 ?_;(first|refine yyp ?_;try refine Ce ?_ ?_<;>intro hb|refine yy2 ?_ ?_<;>intro hcmp);all_goals try refine Nb true 25 47 Qd ?_|refine Ca 32 ?_;(first|refine yyp ?_;try refine Ce ?_ ?_<;>intro hb|refine yy2 ?_ ?_<;>intro hcmp);all_goals try refine Nb true 32 47 Qd ?_|refine Ca 39 ?_;(first|refine yyp ?_;try refine Ce ?_ ?_<;>intro hb|refine yy2 ?_ ?_<;>intro hcmp);all_goals try refine Nb true 39 47 Qd ?_|refine yyp ?_;try refine Ce ?_ ?_<;>intro hb|refine yy ?_|refine yy2 ?_ ?_<;>intro hcmp|refine at_nil ?_;refine Cc Qd ?_|refine Cb fun K hK=>?_|refine Cf 6 ?_;refine j0 [] qf1 ?_|apply_assumption -exfalso -symm)
  iterate 5
   focus
    (refine j1 (k7 ?_))
    have hne:¬x=y:=by
     (repeat (rename (∀ S:Sd,TC _ _ _ S->_)=>hX;clear hX))
     clear hl
     grind
    rw[x4.2 hne];rfl
  rotate_left
  iterate 1
   focus
    (refine j1 (k7 ?_))
    have hne:¬x=y:=by
     (repeat (rename (∀ S:Sd,TC _ _ _ S->_)=>hX;clear hX))
     clear hl
     grind
    rw[x4.2 hne];rfl
  have hlen:x.l.length=y.l.length:=by omega
  have hfl:x=y↔x.l=y.l:=by
   (repeat (rename (∀ S:Sd,TC _ _ _ S->_)=>hX;clear hX))
   clear hl
   grind
  refine j6 [4,5,51,52,53,54,55,56,57,58,59,60,61,62,63,64,65,66] [] (fun k:Nat=>[(51,.d (.int .i64 k))]) (fun _=>[]) (fun k=>k<=x.l.length/\x.l.take k=y.l.take k) (fun k=>x.l.length - k) 0 ⟨Ai _,rfl⟩ fun k ⟨hk,hi⟩=>?_;dsimp only[Ac,Af];rcases Ah k x.l.length with hk2|hk2
  ·have hk3:k<y.l.length:=by omega
   have hone:=hl x.l[k] (Aw _) y.l[k]
   (repeat' first|refine yyp ?_;try refine Ce ?_ ?_<;>intro hb|refine yy ?_|refine Ch 165 ?_;refine Ck (hc:=hone) ?_;try refine Ce ?_ ?_<;>intro hb|refine at_nil ?_;refine Cc Qd ?_|refine Cb fun K hK=>?_|refine Cf 6 ?_;refine j0 [] qf1 ?_|apply_assumption -exfalso -symm)
   ·refine⟨k+1,⟨by omega,z8 hk2 hk3 hi (r8.1 hb)⟩,by omega,k8⟩
   ·(refine j1 (k7 ?_))
    have hne:¬x=y:=fun e=>ja6 hk2 hk3 (x4.1 hb) (hfl.1 e);rw[x4.2 hne];rfl
  ·(repeat' first|refine yyp ?_;try refine Ce ?_ ?_<;>intro hb|refine yy ?_|refine at_nil ?_;refine Cc Qd ?_|refine Cb fun K hK=>?_|refine Cf 6 ?_;refine j0 [] qf1 ?_|apply_assumption -exfalso -symm)
   (refine j1 (k7 ?_))
   rw[r8.2 (hfl.2 (p8 hk2 (by omega) hi))];rfl
end
section
variable {mm:Int}
attribute [local irreducible] TR TC
theorem qv4 (gl:List (Nat × List D))(k:Int):FnD prog gl 195 [.d (.int .u8 k)] (fun v=>v=.d (.str (Lx.Kw k).1)):=by
 (refine j7 func195 ntmps195 results195 fun w M=>?_)
 (repeat' first|refine yyp ?_;try refine Ce ?_ ?_<;>intro hb|refine yy ?_|refine yy2 ?_ ?_<;>intro hcmp|refine at_nil ?_;refine Cc [0,2,3,4,5,6,8] ?_|refine Cb fun K hK=>?_|apply_assumption -exfalso -symm)
 all_goals
  (refine j1 (k7 ?_))
  simp only[oneOf,Lx.Kw, *,if_true,if_false]
  try rfl
theorem ku8 (k:Int):(Lx.Kw k).1=⟨#[]⟩↔Lx.prim k=false:=by
 unfold Lx.Kw Lx.prim;by_cases h1:k=1
 ·simp[h1]
 ·by_cases h2:k=2
  ·simp[h2]
  ·by_cases h3:k=3
   ·simp[h3]
   ·simp[h1,h2,h3,jp2]
theorem vi9 (n:Int):n.fdiv (2 ^ min (Int.toNat 8) IntKind.i32.bits)=0↔(0<=n/\n<=255):=by
 have:(2 ^ min (Int.toNat 8) IntKind.i32.bits:Int)=256:=by decide
 rw[this,Int.fdiv_eq_ediv_of_nonneg _ (by omega)];omega
theorem vj0 (n:Int):n.fdiv (2 ^ min (Int.toNat 1) IntKind.i32.bits)=0↔(0<=n/\n<=1):=by
 have:(2 ^ min (Int.toNat 1) IntKind.i32.bits:Int)=2:=by decide
 rw[this,Int.fdiv_eq_ediv_of_nonneg _ (by omega)];omega
theorem qv5 (e:Ex):0<=e.op/\e.op<=255:=by
 cases e with|mk k o t n s l=>
 have:=o.toNat_lt;simp only[Ex.op];omega
theorem Rc (e:Ex):FnD prog (glS mm) 169 [.d (dE e)] (fun v=>v=.tup [.d (.int .i64 (Lx.Jm e.kind e.op e.ty e.n e.s).1),.d (.bool (Lx.Jm e.kind e.op e.ty e.n e.s).2)]):=by
 obtain⟨ho1,ho2⟩:=qv5 e;have hp:=qv4 (glS mm) e.ty;have htw:=ku8 e.ty;have h8:=vi9 e.n;have h1:=vj0 e.n
 (refine j7 func169 ntmps169 results169 fun w M=>?_)
 (repeat' first|refine Ca 1 ?_;(refine Cq 1 ?_)|refine Ca 4 ?_;(refine j3 4 ?_)|refine yyp ?_;try refine Ce ?_ ?_<;>intro hb|refine yy ?_|refine yy2 ?_ ?_<;>intro hcmp|refine Ch 125 ?_;refine Ck (hc:=(jk6 e.s)) ?_;try refine Ce ?_ ?_<;>intro hb|refine Ch 195 ?_;refine Ck (hc:=hp) ?_|refine at_nil ?_;refine Cc [0,1,2,3,4,5,6,9,10,13,18,20,25,27,34,38,39,49,51,60,62,67] ?_|refine Cb fun K hK=>?_|refine Cf 35 ?_;refine j0 [] (lin [0,4,9,12,16,20,25,28,32,36,40,45,48,52,56,60,76,65,68,72,80]) ?_|apply_assumption -exfalso -symm)
 all_goals
  (refine j1 (k7 ?_))
  simp only[oneOf,V.tup.injEq,List.cons.injEq,Bk,D.int.injEq,Be,and_true,true_and,Lx.Jm]
  (repeat (rename (∀ S:Sd,TC _ _ _ S->_)=>hX;clear hX))
  clear hp;simp only[jp2,h8,h1,Ei,htw]at *;clear h8 h1 htw
  grind
end
section
def Ux:List Nat:=[0,1,2,3,4,6,7,8,10,34,36,37,38,39,47]
variable {mm:Int}
theorem ml2 (deep left:Int)(e:Ex)(l:List Ex):Lx.Gf deep left (e::l)=if (Lx.Dy deep left e).1 then Lx.Gf deep (Lx.Dy deep left e).2 l else Lx.Dy deep left e:=by rw[Lx.Gf]
theorem mx3 (deep left:Int)(e:Ex):Lx.Dy deep left e=if Lx.Ld e=false\/left - 1<0\/32<deep then (false,left - 1) else Lx.Gf (deep+1) (left - 1) e.l:=by
 cases e;rw[Lx.Dy];rfl
def HV (left:Int):List (Nat × Ob):=[(3,.box [.d (.int .i64 left)]),(4,.box [.clo (.func 168) [] [.ptr 3 0,.ptr 4 0]])]
theorem ml3 (e:Ex)(deep left:Int)(h0:0<=left)(h1:1<=deep)(h2:deep<=33)(h:(Lx.Dy deep left e).1=true):0<=(Lx.Dy deep left e).2/\(Lx.Dy deep left e).2<=left - 1:=by
 have:=Lx.Ta e (deep - 1) left h0 (by omega) (by omega);rw[show deep - 1+1=deep by omega]at this;have h3:=this.1.1 h;have h4:=this.2 h3;omega
attribute [local irreducible] TR TC
theorem qv6:∀ (m:Nat) (e:Ex) (deep left:Int),exN e<=m->0<=left->left<=256->1<=deep->deep<=33->
 FnE prog (glS mm) 168 [.d (dEx e),.d (.int .i64 deep),.ptr 3 0,.ptr 4 0] (HV left) (fun v H1=>v=.d (.bool (Lx.Dy deep left e).1)/\H1=HV (Lx.Dy deep left e).2):=by
 intro m
 induction m with
 |zero=>intro e d l h;have:=kb2 e;omega
 |succ m ih=>
  intro e deep left hm h0 h1 h2 h3;rw[qu2]at hm;have hl:∀ z∈e.l,∀ d r:Int,0<=r->r<=256->1<=d->d<=33->FnE prog (glS mm) 168 [.d (dEx z),.d (.int .i64 d),.ptr 3 0,.ptr 4 0] (HV r) (fun v H1=>v=.d (.bool (Lx.Dy d r z).1)/\H1=HV (Lx.Dy d r z).2):=fun z hz d r=>ih z d r (by have:=jo0 hz;omega);have hparts:=Rc (mm:=mm) e;have heq:=mx3 deep left e;clear ih hm;generalize Lx.Dy deep left e=res at heq ⊢;have hown:Lx.Ld e=((Lx.Jm e.kind e.op e.ty e.n e.s).2 && decide ((e.l.length:Int)=(Lx.Jm e.kind e.op e.ty e.n e.s).1)):=rfl;generalize hq:Lx.Jm e.kind e.op e.ty e.n e.s=q at hparts hown;simp only[k9]at hl ⊢;rw[qd6 e]at hparts ⊢;dsimp only[HV]at hl ⊢
  (refine j2 func168 ntmps168 results168 fun w M E b0=>?_)
  refine jp6 0 5 rfl rfl fun hn=>?_;simp only[Ab]at hn
  (repeat' first|refine Ca 4 ?_;(refine Cq 1004 ?_)|refine yyp ?_;try refine Ce ?_ ?_<;>intro hb|refine yy ?_|refine yy2 ?_ ?_<;>intro hcmp|refine Ch 169 ?_;refine Ck (hc:=hparts) ?_|refine at_nil ?_;refine Cc Ux ?_|refine Cb fun K hK=>?_|apply_assumption -exfalso -symm)
  ·obtain rfl:res=(false,left - 1):=by rw[heq,Ad (.inr (.inl hcmp))]
   (refine j1 (j4 ⟨?_,rfl⟩))
   rfl
  ·obtain rfl:res=(false,left - 1):=by rw[heq,Ad (.inr (.inr hcmp))]
   (refine j1 (j4 ⟨?_,rfl⟩))
   rfl
  ·have hf:Lx.Ld e=false:=by rw[hown,Ee hcmp,Bo]
   obtain rfl:res=(false,left - 1):=by rw[heq,Ad (.inl hf)]
   (refine j1 (j4 ⟨?_,rfl⟩))
   rfl
  ·have hok:Lx.Ld e=true:=by rw[hown,hb,Eb (by omega)];rfl
   rw[Ae (by rw[hok];simp only[Bool.true_eq_false,false_or];omega)]at heq;clear hown hq hparts;refine j6 (ι:=Nat × Int) [6,10,38,39,40,41,42,43,44,45,46,47,48] [3] (fun x=>[(38,.d (.int .i64 x.1))]) (fun x=>[(3,.box [.d (.int .i64 x.2)])]) (fun x=>x.1<=e.l.length/\0<=x.2/\x.2<=256/\res=Lx.Gf (deep+1) x.2 (e.l.drop x.1)) (fun x=>e.l.length - x.1) (0,left - 1) ⟨by omega,by omega,by omega,heq⟩ fun⟨k,cur⟩ ⟨hk,hc0,hc1,hi⟩=>?_;dsimp only[Ac,Af]at hk hc0 hc1 hi ⊢;rcases Ah k e.l.length with hk2|hk2
   ·rw[By hk2,ml2]at hi;have hone:=hl e.l[k] (Aw _) (deep+1) cur hc0 hc1 (by omega) (by omega);have hrange:=ml3 e.l[k] (deep+1) cur hc0 (by omega) (by omega);generalize Lx.Dy (deep+1) cur e.l[k]=r at hone hrange hi
    (repeat' first|refine Ca 10 ?_;(refine j3 1010 ?_)|refine Ca 46 ?_;refine Cg (hc:=hone) ?_;try refine Ce ?_ ?_<;>intro hb|refine yyp ?_;try refine Ce ?_ ?_<;>intro hb|refine yy ?_|refine at_nil ?_;refine Cc Ux ?_|refine Cb fun K hK=>?_|apply_assumption -exfalso -symm)
    ·have hr:=hrange hb;refine⟨(k+1,r.2),⟨by dsimp only;omega,hr.1,by dsimp only;omega,?_⟩,by dsimp only;omega,k8⟩;rw[hi,Ad hb]
    ·obtain rfl:res=r:=by rw[hi,hb];rfl
     (refine j1 (j4 ⟨?_,rfl⟩))
     rw[hb];rfl
   ·obtain rfl:res=(true,cur):=by rw[hi,Bz hk2,Lx.Gf]
    (repeat' first|refine yyp ?_;try refine Ce ?_ ?_<;>intro hb|refine yy ?_|refine at_nil ?_;refine Cc Ux ?_|refine Cb fun K hK=>?_|apply_assumption -exfalso -symm)
    (refine j1 (j4 ⟨?_,rfl⟩))
    rfl
  ·have hf:Lx.Ld e=false:=by rw[hown,hb,Bj]
   obtain rfl:res=(false,left - 1):=by rw[heq,Ad (.inl hf)]
   (refine j1 (j4 ⟨?_,rfl⟩))
   rfl
theorem jk7 (e:Ex):FnD prog (glS mm) 129 [.d (dEx e)] (fun v=>v=.d (.bool (Lx.Ja e))):=by
 have h:=qv6 (mm:=mm) _ e 1 256 (Au _) (by omega) (by omega) (by omega) (by omega);rw[show Lx.Ja e=(Lx.Dy 1 256 e).1 from rfl];generalize Lx.Dy 1 256 e=r at h ⊢;simp only[k9]at h ⊢;dsimp only[HV]at h
 (refine j7 func129 ntmps129 results129 fun w M=>?_)
 (repeat' first|refine Ca 1 ?_;(refine Cq 1 ?_)|refine Ca 3 ?_;(refine j3 3 ?_)|refine Ca 4 ?_;(refine j3 4 ?_)|refine Ca 8 ?_;refine Cg (hc:=h) ?_;try refine Ce ?_ ?_<;>intro hb|refine yyp ?_;try refine Ce ?_ ?_<;>intro hb|refine yy ?_|refine at_nil ?_;refine Cc [0,1,2,3,4,5,6] ?_|refine Cb fun K hK=>?_|apply_assumption -exfalso -symm)
 all_goals
  (refine j1 (k7 ?_))
  simp only[oneOf, *]
end
section
section
variable {E:Set}{Q:Exit->Sd->Prop}{S:Sd}{ops:Array Oper}{draw:Bool}{rest:Todo}{way:Jh}{ty:TypeId}{pos:String}{af:Array Edge}{gd:Option (Nat × Bool)}{d:Nat}
theorem qv7 {t k e n:Nat}{x:Operand}{ks vs:List D}[ht:TMap E.P t k e](hx:S.ev x=some (.d (.map ks vs)))(hox:Cn x=true)(hn:S.fresh n=true):
 Grow E S ⟨some d,.range t x,ty,pos,af,gd⟩ {S with H:=(n,.miter ks vs (List.range ks.length) none)::S.H} (.ptr n 0):=Grow.mk fun β a w h=>by
 obtain⟨m,es,c,h1,h2,h3,h4,h5,h6⟩:=h.ev hx hox;refine⟨.pointer (some ⟨w.heap.size,0,none⟩),w.alloc (.mapIter (some m) c #[] c),upd β n (.pointer (some ⟨w.heap.size,0,none⟩)),?_,Grows.alloc w _,?_,⟨w.heap.size,jx0 _ _ _,rfl⟩⟩
 ·simp only[execOp,h1,Sem.run_bind,run_range_map w t k e m es c (jc8 ht) h2,Result.andThen_ok,Sem.run_pure]
 ·refine h.newObj hn (.pointer (some ⟨w.heap.size,0,none⟩)) (Grows.alloc w _) (fun b hb'=>?_) (.miter ks vs (List.range ks.length) none) fun kp=>?_
  ·simp only[hb,Bf]at hb';omega
  ·refine⟨w.heap.size,rfl,.inr ⟨m,es,c,#[],heap_alloc_new w _,(kp.obj m _ rfl h3 h2).2,(kp.obj m _ rfl h3 h2).1,Hg.keep kp _ _ h4,Hg.keep kp _ _ h5,h6,fun i e he=>?_,List.nodup_range,fun i hi=>by cases hi⟩⟩;have hlen:=h4.length;have hi:i<es.size:=(Br.1 he).1;simp only[Ab,Array.length_toList]at hlen;simp only[Ew,Array.contains_empty,iff_true];omega
theorem qv8 {t k e n:Nat}{x:Operand}[ht:TMap E.P t k e](hx:S.ev x=some (.d (.raw (.map none))))(hox:Cn x=true)(hn:S.fresh n=true):
 Grow E S ⟨some d,.range t x,ty,pos,af,gd⟩ {S with H:=(n,.miter [] [] [] none)::S.H} (.ptr n 0):=Grow.mk fun β a w h=>by
 have h1:=(h.ev hx hox).1;refine⟨.pointer (some ⟨w.heap.size,0,none⟩),w.alloc (.mapIter none 0 #[] 0),upd β n (.pointer (some ⟨w.heap.size,0,none⟩)),?_,Grows.alloc w _,?_,⟨w.heap.size,jx0 _ _ _,rfl⟩⟩
 ·simp only[execOp,h1,Sem.run_bind,run_range_nilMap w t k e (jc8 ht),Result.andThen_ok,Sem.run_pure]
 ·refine h.newObj hn (.pointer (some ⟨w.heap.size,0,none⟩)) (Grows.alloc w _) (fun b hb'=>?_) (.miter [] [] [] none) fun kp=>?_
  ·simp only[hb,Bf]at hb';omega
  ·exact⟨w.heap.size,rfl,.inl ⟨heap_alloc_new w _,rfl,rfl,rfl⟩⟩
theorem StB.setIter {C:Ctx}{β:Nat->Hd}{a:Act}{w:World}(h:StB C β S a w){n b:Nat}{ks vs:List D}{left left':List Nat}{cur cur':Option Nat}(hl:look n S.H=some (.miter ks vs left cur))(hb':(β n).v=.pointer (some ⟨b,0,none⟩)){o':Obj}
 (hrep:Keeps w (Mut C.M0 β S.H) (w.putObj b o') (Mut C.M0 β ((n,Ob.miter ks vs left' cur')::S.H))->Ku (w.putObj b o') (Mut C.M0 β ((n,Ob.miter ks vs left' cur')::S.H)) β ((n,Ob.miter ks vs left' cur')::S.H) (β n) (.miter ks vs left' cur')):
 StB C β {S with H:=(n,.miter ks vs left' cur')::S.H} a (w.putObj b o'):=by
 have hbn:hb (β n).v=some b:=by rw[hb'];rfl
 have hH:∀ m e sz sh xs k,look m ((n,Ob.miter ks vs left' cur')::S.H)=some (.row e sz sh xs k)->∃ sh' xs',look m S.H=some (.row e sz sh' xs' k):=fun m e sz sh xs k hm=>by
  rw[z7]at hm;split at hm
  ·cases hm
  ·exact⟨sh,xs,hm⟩
 exact h.turn hl (fun _ _=>rfl) rfl rfl rfl (by simp[World.putObj]) (fun k _ hk=>World.putObj_heap_other (fun e=>hk (by rw[hbn,e]))) (fun b h=>.inl h) (fun b' o' y h4 h5 _=>absurd trivial h5) (fun _ _ _ _ _=>trivial)
  (fun k t x v _=>Dp.keep k (fun _=>rfl) hH x v) (fun _=>rfl) (fun k m cs vs _ _=>Cv.keep k (fun _=>rfl) hH _ vs) hrep
theorem Hg.at {w:World}{M:Nat->Nat->Prop}:∀ {xs:List D} {vs:List Value},Hg w M xs vs->∀ {i:Nat} {u:Value},vs[i]? =some u->∃ x,xs[i]? =some x/\Gw w M x u
 |[],_,h,i,u,hu=>by simp only[Hg]at h;subst h;simp at hu
 |y::xs,_,h,0,u,hu=>by
  simp only[Hg]at h;obtain⟨v,r,rfl,h2,_⟩:=h;simp only[List.getElem?_cons_zero,Bf]at hu;subst hu;exact⟨y,rfl,h2⟩
 |y::xs,_,h,i+1,u,hu=>by
  simp only[Hg]at h;obtain⟨v,r,rfl,_,h3⟩:=h;simpa using Hg.at h3 (i:=i) (by simpa using hu)
theorem md2 {es:Array MapEntry}{seen:Array Nat}{e:MapEntry}(h:e∈(leftOf es seen).toList):∃ i:Nat,es[i]? =some e/\seen.contains e.born=false:=by
 obtain⟨h1,h2⟩:=mem_left h;obtain⟨i,hi,rfl⟩:=Er.1 h1;exact⟨i,by simp,h2⟩
theorem Born.inj {es:List MapEntry}{c i j:Nat}{x y:MapEntry}(h:Born es c)(hi:es[i]? =some x)(hj:es[j]? =some y)(e:x.born=y.born):i=j:=by
 obtain⟨h1,rfl⟩:=Ay.1 hi;obtain⟨h2,rfl⟩:=Ay.1 hj;have h3:=Fh.1 h.ne;rcases Nat.lt_trichotomy i j with h4|h4|h4
 ·exact absurd e (h3 i j h1 h2 h4)
 ·exact h4
 ·exact absurd e.symm (h3 j i h2 h1 h4)
theorem rk7 {n:Nat}{x:Operand}{ks vs:List D}{left:List Nat}{cur:Option Nat}(hx:S.ev x=some (.ptr n 0))(hox:Cn x=true)(hl:look n S.H=some (.miter ks vs left cur))(hin:∀ i∈left,i<ks.length)(hd:d<E.C.nt){o:Oper}(ho:o=⟨some d,.next x false,ty,pos,af,gd⟩)(hg:S.gd ops o=some true)(hw:Js draw way=true)
 (h1:∀ i k v,i∈left->ks[i]? =some k->vs[i]? =some v->TR E draw ops Q rest (({S with H:=(n,.miter ks vs (left.erase i) (some i))::S.H}:Sd).put d (.tup [.d (.bool true),.d k,.d v])))
 (h2:left=[]->TR E draw ops Q rest (S.put d (.tup [.d (.bool false)]))):TR E draw ops Q (.step o way rest) S:=fun a w hS=>by
 have hS0:=hS;have hdst:o.dst=some d:=by subst ho;rfl
 have hdf:p9 o=false:=by subst ho;rfl
 have key:∀ w1,Grows w w1->∀ K:Act->World->Prop,(∀ i k v,i∈left->ks[i]? =some k->vs[i]? =some v->∀ a2 w2,St E.C (({S with H:=(n,.miter ks vs (left.erase i) (some i))::S.H}:Sd).put d (.tup [.d (.bool true),.d k,.d v])) a2 w2->K a2 w2)->
  (left=[]->∀ a2 w2,St E.C (S.put d (.tup [.d (.bool false)])) a2 w2->K a2 w2)->o.wp E.P a w1 K (Qof E.C Q):=fun w1 g K hK hK0=>by
  obtain⟨β,hB⟩:=hS.later g;obtain⟨b,h3,h4⟩:=hB.ev hx hox;obtain⟨b',h5,h6⟩:=hB.obs n _ hl;rw[h3]at h5;cases h5;have hover:(Instr.next (.pointer (some ⟨b,0,none⟩)) false ty).run E.P w1=.ok (.tuple #[.bool false]) w1->left=[]->o.wp E.P a w1 K (Qof E.C Q):=fun hr hle=>by
   refine n9 (x:=.tuple #[.bool false]) (w':=w1) (by subst ho;simp only[execOp,h4,Sem.run_bind,hr,Result.andThen_ok,Sem.run_pure]) (hK0 hle _ _ ?_);rw[hdst];exact⟨β,hB.put hd ⟨[.bool false],rfl,⟨_,[],rfl,rfl,rfl⟩⟩⟩
  rcases h6 with ⟨h7,rfl,rfl,_⟩|⟨m,es,c,seen,h7,h8,h9,h10,h11,h12,h13,h14,_⟩
  ·refine hover ?_ rfl;simp only[Instr.next,getObj,Sem.run_bind,Sem.run,h7,Result.andThen];rfl
  ·have hlen:=h10.length;simp only[Ab,Array.length_toList]at hlen;rcases run_next_at (P:=E.P) w1 ty b m c c seen es c h7 h8 h12.lt (Au _) with ⟨h15,h16⟩|⟨en,h15,w2,h16,h17⟩
   ·refine hover h16 ?_;cases hle:left with
    |nil=>rfl
    |cons i r=>
     exfalso;have hi:i∈left:=by rw[hle];exact Az
     have hi2:=hin i hi;have hi3:i<es.size:=by omega
     have h18:=all_seen es seen h15 es[i] (by simp);have h19:=(h13 i es[i] (by simp[hi3])).1 hi;rw[h18]at h19;cases h19
   ·obtain⟨i,hi,hs⟩:=md2 h15;have hil:i∈left:=(h13 i en hi).2 hs;have hit:es.toList[i]? =some en:=by simpa using hi
    obtain⟨k,hk,hrk⟩:=h10.at (i:=i) (u:=en.key) (by simp[hit]);obtain⟨v,hv,hrv⟩:=h11.at (i:=i) (u:=en.val) (by simp[hit]);have hB2:StB E.C β S a w2:=by
     rcases h16 with rfl|rfl
     ·exact hB
     ·exact hB.later (Below.drew (Below.refl _ _))
    have e2:w2.heap=w1.heap:=by rcases h16 with rfl|rfl<;>rfl
    have g2:Grows w1 w2:=by
     rcases h16 with rfl|rfl
     ·exact Grows.refl _
     ·exact Below.drew (Below.refl _ _)
    have hlt:b<w2.heap.size:=by rw[e2];exact(Br.1 h7).1
    have hmb:m≠b:=fun e=>by subst e;rw[h7]at h8;cases h8
    have kg:Keeps w1 (Mut E.C.M0 β S.H) w2 (Mut E.C.M0 β S.H):=Keeps.below g2;have hset:=hB2.setIter hl h3 (left':=left.erase i) (cur':=some i) (o':=.mapIter (some m) c (seen.push en.born) c) fun kp=>by
     have kk:=kg.trans kp;refine⟨b,h3,.inr ⟨m,es,c,seen.push en.born,World.putObj_heap_same hlt,?_,(kk.obj m _ rfl h9 h8).1,Hg.keep kk _ _ h10,Hg.keep kk _ _ h11,h12,fun j e he=>?_,h14.erase _,fun j hj=>?_⟩⟩
     ·rw[World.putObj_heap_other hmb,e2];exact h8
     ·rw[h14.mem_erase_iff,h13 j e he,contains_push];constructor
      ·rintro⟨q1,q2⟩;rw[q2,Ef];cases hbe:e.born == en.born with
       |false=>rfl
       |true=>exact absurd (h12.inj (by simpa using he) hit (by simpa using hbe)) q1
      ·intro q;rw[Bool.or_eq_false_iff]at q;refine⟨fun e3=>?_,q.1⟩;subst e3;rw[hi]at he;cases he;simp at q
     ·cases hj;exact⟨en,hi,by simp⟩
    obtain⟨b2,q0,q1⟩:=hset.obs n _ (by rw[z7,Ad rfl]);rw[h3]at q0;cases q0;rcases q1 with ⟨q1,_⟩|⟨m2,es2,c2,seen2,q1,q2,_,q3,q4,_⟩
    ·rw[World.putObj_heap_same hlt]at q1;cases q1
    rw[World.putObj_heap_same hlt]at q1;cases q1;rw[World.putObj_heap_other hmb,e2,h8]at q2;cases q2;obtain⟨k',hk',hrk'⟩:=q3.at (i:=i) (u:=en.key) (by simp[hit]);obtain⟨v',hv',hrv'⟩:=q4.at (i:=i) (u:=en.val) (by simp[hit]);rw[hk]at hk';rw[hv]at hv';cases hk';cases hv';refine n9 (x:=.tuple #[.bool true,en.key,en.val]) (w':=w2.putObj b (.mapIter (some m) c (seen.push en.born) c)) (by subst ho;simp only[execOp,h4,Sem.run_bind,h17,Result.andThen_ok,Sem.run_pure];rfl) (hK i k v hil hk hv _ _ ?_);rw[hdst];refine⟨β,hset.put hd ⟨[.bool true,en.key,en.val],rfl,⟨_,_,rfl,rfl,⟨_,_,rfl,?_,⟨_,[],rfl,?_,rfl⟩⟩⟩⟩⟩
    ·exact hrk'
    ·exact hrv'
 cases draw with
 |true=>
  dsimp only;cases way with
  |pure=>cases hw
  |quiet=>cases hw
  |grow=>cases hw
  |bar=>
   simp only[r9];intro n;rw[Sd.Fy hS0 hg,Ad rfl];exact key n.w n.grows _ (fun i k v hi hk hv a2 w2 hs2=>h1 i k v hi hk hv _ _ hs2) fun hle a2 w2 hs2=>h2 hle _ _ hs2
 |false=>exact y4 hS0 hg hdf fun K hK=>key w (Grows.refl w) K (fun i k v hi hk hv a2 w2 hs2=>hK _ _ (h1 i k v hi hk hv _ _ hs2)) fun hle a2 w2 hs2=>hK _ _ (h2 hle _ _ hs2)
theorem rk8 {n i:Nat}{x:Operand}{ks vs:List D}{left:List Nat}{k v:D}(hx:S.ev x=some (.ptr n 0))(hox:Cn x=true)(hl:look n S.H=some (.miter ks vs left (some i)))(hk:ks[i]? =some k)(hv:vs[i]? =some v):
 Quiet E S ⟨some d,.entry x,ty,pos,af,gd⟩ (.tup [.d k,.d v]):=Quiet.mk fun β a w h=>by
 obtain⟨b,h3,h4⟩:=h.ev hx hox;obtain⟨b',h5,h6⟩:=h.obs n _ hl;rw[h3]at h5;cases h5;rcases h6 with ⟨_,_,_,h7⟩|⟨m,es,c,seen,h7,h8,h9,h10,h11,h12,h13,h14,h15⟩
 ·cases h7
 ·obtain⟨en,h16,h17⟩:=h15 i rfl;obtain⟨k',hk',hrk'⟩:=h10.at (i:=i) (u:=en.key) (by simp[h16]);obtain⟨v',hv',hrv'⟩:=h11.at (i:=i) (u:=en.val) (by simp[h16]);rw[hk]at hk';rw[hv]at hv';cases hk';cases hv';obtain⟨s0,hs0⟩:∃ s0:Array Nat,seen=s0.push en.born:=by
   refine⟨seen.pop,?_⟩;obtain⟨l⟩:=seen;simp only[List.back?_toArray]at h17;obtain⟨r,rfl⟩:=List.getLast?_eq_some_iff.1 h17;simp
  subst hs0;refine⟨.tuple #[en.key,en.val],fun w' g=>?_,⟨[en.key,en.val],rfl,⟨_,_,rfl,hrk',⟨_,_,rfl,hrv',rfl⟩⟩⟩⟩;have:=run_entry_at (P:=E.P) w' b m c s0 es c en (jb0 g h7) (jb0 g h8) (by simpa using Bu (by simpa using h16:es.toList[i]? =some en)) (List.pairwise_map.2 h12.ne);simp only[execOp,h4,Sem.run_bind,this,Result.andThen_ok,Sem.run_pure]
end
end
section
section
variable {E:Set}{S:Sd}{Q:Exit->Sd->Prop}{ops:Array Oper}{draw:Bool}{rest:Todo}{way:Jh}{ty:TypeId}{pos:String}{af:Array Edge}{gd:Option (Nat × Bool)}
end
end
section
section
variable {E:Set}{Q:Exit->Sd->Prop}
end
section
variable {E:Set}{dst:Option Tmp}{ty:TypeId}{pos:String}{af:Array Edge}{gd:Option (Nat × Bool)}
theorem je7 {S:Sd}{t e sz n k p m e' sz':Nat}{sh:Bool}{xs:List D}{x:Operand}[ht:TSlice E.P t e sz](hx:S.ev x=some (.win n k p m))(hox:Cn x=true)(hl:look n S.H=some (.row e' sz' sh xs k)):Swift E S ⟨dst,.call {callee:=.builtin .len,args:=#[x],argTypes:=#[t]},ty,pos,af,gd⟩ (.d (.int .i64 (m:Nat))):=Swift.mk fun β a w h=>by
 obtain⟨ie,hu,_⟩:=y3 ht;obtain⟨ad,ll,c,ad1,c1,h1,h2,h3,_⟩:=h.ev hx hox e' sz' sh xs hl;refine⟨.int .i64 (m:Int),fun w' _=>?_,rfl⟩;simp[execOp,resolve,invoke,builtin,h3,Builtin.len_,goInt,run_underlying hu]
theorem Im {S:Sd}{t e sz i n k' e' p m:Nat}{sh:Bool}{x y:Operand}{xs:List D}{k:IntKind}{v:Int}[ht:TSlice E.P t e sz](hx:S.ev x=some (.win n k' p m))(hl:look n S.H=some (.row e' sz sh xs k'))(hy:S.ev y=some (.d (.int k v)))(hox:Cn x=true)(hoy:Cn y=true)(hi:v=(i:Nat))(hz:i<m):
 Swift E S ⟨dst,.indexAddr t x y,ty,pos,af,gd⟩ (.el n k' (p+i) 0):=Swift.mk fun β a w h=>by
 subst hi;obtain⟨ad,ll,c,ad1,c1,h1,h2,h3,h3',h4,_⟩:=h.ev hx hox e' sz sh xs hl;obtain⟨ys,h2',_⟩:=h.obs n _ hl;have h5:a.eval y=.int k (i:Nat):=h.ev hy hoy;rcases h2'.2 with ⟨q1,q2⟩|⟨g,cap,cur,q,_,_,q3,_⟩
 ·rw[h1]at q1;simp only[Value.slice.injEq]at q1;omega
 ·rw[h1]at q;simp only[Value.slice.injEq]at q;obtain⟨rfl,rfl,rfl⟩:=q;have h6:a.eval x=.slice (some ⟨g,p * sz,none⟩) m c1:=by rw[h3,h4 (by omega)];simp[jg9]
  refine⟨.pointer (some ⟨g,(p+i) * sz,none⟩),fun w' _=>?_,fun e2 sz2 sh2 xs2 hl2=>?_⟩
  ·have:=jw1 (P:=E.P) ht (b:=g) (o:=p * sz) (n:=m) (c:=c1) (k:=k) (i:=i) hz w';rw[Fd];simp[execOp,h6,h5,this]
  ·rw[hl]at hl2;cases hl2;exact⟨g,_,c,h1,rfl⟩
end
end
end Go.Proofs.YtklklgfpkpglgaaGreatDoor
