/- Parts: O11, O12, O15, O13, O16. -/
import Derived.Test.YtdopmfifmgkmoaaGreatDoorP24
import Derived.Test.YtdopmfifmgkmoaaGreatDoorP23
set_option linter.all false
set_option maxRecDepth 100000
set_option maxHeartbeats 16000000
namespace Go.Proofs.YtdopmfifmgkmoaaGreatDoor
open Go.RowKit Go.Proofs.Tryz
section
def qo11_0:List Nat:=[0,2,3,4,5,6]
variable {mm:Int}
namespace Lx
def inside (s t:ByteArray):Bool:=(List.range (s.size+1)).any fun i=>t.data.toList.isPrefixOf (s.data.toList.drop i)
def ki8:List UInt8:=[32,65,70,84,69,82,32,65,76,84,32,65,78,68,32,66,79,79,76,32,66,89,84,69,32,67,65,83,69,32,67,72,65,78,32,69,76,83,69,32,70,65,76,83,69,32,70,79,82,32,73,70,32,73,78,84,32,73,83,32,77,73,78,85,83,32,78,79,84,32,79,70,32,79,82,32,80,65,82,32,80,76,65,67,69,68,32,80,76,85,83,32,80,82,73,32,80,82,79,67,32,80,82,79,67,69,83,83,79,82,32,80,82,79,84,79,67,79,76,32,83,69,81,32,83,73,90,69,32,83,75,73,80,32,83,84,79,80,32,84,73,77,69,82,32,84,73,77,69,83,32,84,82,85,69,32,86,65,76,32,87,72,73,76,69,32]
def keysS:ByteArray:=⟨ki8.toArray⟩
theorem kw1:∀ (s t:List UInt8),(32:UInt8)∉s->(s++32::t).takeWhile (fun c=>c != 32)=s
 |[],t,_=>by simp
 |c::s,t,h=>by
  have h1:c≠32:=fun e=>h (by simp[e])
  have h2:=kw1 s t (fun e=>h (List.mem_cons_of_mem _ e))
  simp[List.takeWhile_cons,h1,h2]
theorem qs6:∀ i<167,ki8[i]? =some 32->(ki8.drop (i+1)).takeWhile (fun c=>c != 32)=[]\/(keys.any fun k=>decide (k.data.toList=(ki8.drop (i+1)).takeWhile (fun c=>c != 32)))=true:=by decide+kernel
theorem mt8:∀ k∈keys.map (fun k=>k.data.toList),∃ i<167,(32::k++[32]).isPrefixOf (ki8.drop i)=true:=by decide+kernel
theorem mk5 {s:List UInt8}(h:s.all wordB=true):(32:UInt8)∉s:=fun hm=>by
 have:=List.all_eq_true.1 h _ hm
 revert this
 decide
theorem keysS_size:keysS.size=166:=by decide+kernel
theorem inside_keys (s:ByteArray)(hw:s.data.toList.all wordB=true)(h0:s.data.toList≠[]):inside keysS ((⟨#[32]⟩++s)++⟨#[32]⟩)=isKey s:=by
 have hl:((⟨#[32]⟩++s)++⟨#[32]⟩:ByteArray).data.toList=32::s.data.toList++[32]:=by simp[ByteArray.data_append]
 unfold inside
 rw[hl,Bool.eq_iff_iff]
 have hK:keysS.data.toList=ki8:=rfl
 rw[hK]
 constructor
 ·intro h
  obtain⟨i,hi,hp⟩:=List.any_eq_true.1 h
  have hi:i<167:=by have:=List.mem_range.1 hi;rw[keysS_size]at this;omega
  obtain⟨t,ht⟩:=List.isPrefixOf_iff_prefix.1 hp
  have h1:ki8[i]? =some 32:=by
   have:(ki8.drop i)[0]? =some 32:=by rw[<-ht];rfl
   rwa [List.getElem?_drop,Nat.add_zero]at this
  have h2:ki8.drop (i+1)=s.data.toList++32::t:=by
   have:(ki8.drop i).drop 1=s.data.toList++32::t:=by rw[<-ht];simp
   rwa [List.drop_drop]at this
  have h3:=qs6 i hi h1
  rw[h2,kw1 _ _ (mk5 hw)]at h3
  rcases h3 with h3|h3
  ·exact absurd h3 h0
  ·unfold isKey
   obtain⟨k,hk,hk2⟩:=List.any_eq_true.1 h3
   refine List.any_eq_true.2 ⟨k,hk,?_⟩
   have hk2:=of_decide_eq_true hk2
   refine decide_eq_true ?_
   cases k with|mk k=>cases s with|mk s=>cases k with|mk k=>cases s with|mk s=>exact congrArg (fun l=>ByteArray.mk (Array.mk l)) hk2
 ·intro h
  unfold isKey at h
  obtain⟨k,hk,hk2⟩:=List.any_eq_true.1 h
  have hk2:=of_decide_eq_true hk2
  subst hk2
  obtain⟨i,hi,hp⟩:=mt8 k.data.toList (List.mem_map.2 ⟨k,hk,rfl⟩)
  exact List.any_eq_true.2 ⟨i,List.mem_range.2 (by rw[keysS_size];omega),hp⟩
end Lx
theorem jy4:∀ l sub:List UInt8,0<=Lib.index l sub↔∃ i,i<=l.length/\sub.isPrefixOf (l.drop i)=true
 |[],sub=>by
  cases sub with
  |nil=>simp[Lib.index]
  |cons c sub=>simp[Lib.index]
 |b::l,sub=>by
  have ih:=jy4 l sub
  have hge:=Lib.index_ge l sub
  rw[Lib.index]
  constructor
  ·intro h
   split at h
   ·rename_i hp
    exact⟨0,Nat.zero_le _,hp⟩
   ·split at h
    ·omega
    ·rename_i hne
     have hne:Lib.index l sub≠-1:=fun e=>hne (by rw[e];rfl)
     obtain⟨i,hi,hp⟩:=ih.1 (by omega)
     exact⟨i+1,by simp only[List.length_cons];omega,hp⟩
  ·rintro⟨i,hi,hp⟩
   split
   ·omega
   ·rename_i hn
    cases i with
    |zero=>exact absurd hp hn
    |succ i=>
     have h0:=ih.2 ⟨i,by simp only[List.length_cons]at hi;omega,hp⟩
     have hne:¬(Lib.index l sub == -1)=true:=by
      intro e
      have:=eq_of_beq e
      omega
     rw[if_neg hne]
     omega
theorem kd7 (s t:ByteArray):Lib.contains s.data.toList t.data.toList=Lx.inside s t:=by
 unfold Lib.contains Lx.inside
 rw[Bool.eq_iff_iff,decide_eq_true_eq,jy4,List.any_eq_true]
 have hl:s.data.toList.length=s.size:=by simp
 constructor
 ·rintro⟨i,hi,hp⟩
  exact⟨i,List.mem_range.2 (by omega),hp⟩
 ·rintro⟨i,hi,hp⟩
  exact⟨i,by have:=List.mem_range.1 hi;omega,hp⟩
theorem ma6 (s t:ByteArray)(hs:s.size<=1000):FnD prog (glS mm) 201 [.d (.str s),.d (.str t)] (fun v=>v=.d (.bool (Lx.inside s t))):=by
 intro w M us hM hus hg
 simp only[RepL]at hus
 obtain⟨v,r,rfl,hv,u,r2,rfl,hu,rfl⟩:=hus
 have hv':v=.string s:=hv
 have hu':u=.string t:=hu
 subst hv' hu'
 obtain⟨v1,t1,f1,q1,_,q2⟩:=hg 5 _ rfl
 simp only[RepA]at q2
 obtain⟨z,r3,rfl,_,hz,rfl⟩:=q2
 have hz':z=.int .i64 mm:=hz
 subst hz'
 refine(Tryz.strings_Contains s t mm w (by omega) ?_).mono ?_
 ·simp only[World.cell?,q1]
  rfl
 ·rintro e w' ⟨rfl,rfl⟩
  exact⟨_,_,rfl,.d _,rfl,Below.refl _ _,by rw[kd7];rfl⟩
attribute [local irreducible] TR TC
theorem ra4 (s:ByteArray)(hs:s.size<=1000):FnD prog (glS mm) 177 [.d (.str s)] (fun v=>v=.d (.bool (Lx.isKey s))):=by
 have hsz:s.data.toList.length=s.size:=by simp
 have hrun:=qn7 (glS mm) s (by omega)
 have hc:=ma6 (mm:=mm) Lx.keysS ((⟨#[32]⟩++s)++⟨#[32]⟩) (by rw[Lx.keysS_size];omega)
 have hz:(⟨#[32]⟩:ByteArray).size=1:=rfl
 have hz2:(⟨#[32]⟩++s:ByteArray).size=1+s.size:=by rw[ByteArray.size_append,hz]
 have hnk:∀ c∈Lx.keys,c.data.toList.all Lx.wordB=true/\c≠⟨#[]⟩:=by decide+kernel
 by_cases h0:s=⟨#[]⟩
 ·have hk:Lx.isKey s=false:=by rw[h0];decide+kernel
  (refine j4 func177 ntmps177 results177 fun w M=>?_)
  (repeat' first|refine yyp ?_;try refine s_bu ?_ ?_<;>intro hb|refine yy ?_|refine yy2 ?_ ?_<;>intro hcmp|refine at_nil ?_;refine z_nil qo11_0 ?_|refine tc_seq fun K hK=>?_|apply_assumption -exfalso -symm)
  all_goals try contradiction
  (refine j0 (j6 ?_))
  rw[hk]
  rfl
 by_cases hw:s.data.toList.all Lx.wordB=true
 ·have h0':s.data.toList≠[]:=fun e=>h0 (by cases s with|mk s=>cases s with|mk s=>cases e;rfl)
  rw[Lx.inside_keys s hw h0']at hc
  have hr:Lx.run s.data.toList=s.size:=by rw[<-hsz];exact(Lx.run_all _).2 hw
  rw[hr]at hrun
  (refine j4 func177 ntmps177 results177 fun w M=>?_)
  (repeat' first|refine yyp ?_;try refine s_bu ?_ ?_<;>intro hb|refine yy ?_|refine yy2 ?_ ?_<;>intro hcmp|refine at_call 176 ?_;refine y_call (hc:=hrun) ?_|refine at_call 201 ?_;refine y_call (hc:=hc) ?_;try refine s_bu ?_ ?_<;>intro hb|refine at_nil ?_;refine z_nil qo11_0 ?_|refine tc_seq fun K hK=>?_|apply_assumption -exfalso -symm)
  all_goals try contradiction
  all_goals
   (refine j0 (j6 ?_))
   simp only[oneOf, *]
 ·have hk:Lx.isKey s=false:=by
   cases h:Lx.isKey s with
   |false=>rfl
   |true=>
    obtain⟨k,hk,hk2⟩:=List.any_eq_true.1 h
    have:=of_decide_eq_true hk2
    subst this
    exact absurd (hnk _ hk).1 hw
  have hr:¬Lx.run s.data.toList=s.size:=fun e=>hw ((Lx.run_all _).1 (by rw[hsz];exact e))
  (refine j4 func177 ntmps177 results177 fun w M=>?_)
  (repeat' first|refine yyp ?_;try refine s_bu ?_ ?_<;>intro hb|refine yy ?_|refine yy2 ?_ ?_<;>intro hcmp|refine at_call 176 ?_;refine y_call (hc:=hrun) ?_|refine at_nil ?_;refine z_nil qo11_0 ?_|refine tc_seq fun K hK=>?_|apply_assumption -exfalso -symm)
  all_goals try contradiction
  (refine j0 (j6 ?_))
  rw[hk]
  rfl
theorem ji0 (s:ByteArray):FnD prog (glS mm) 140 [.d (.str s)] (fun v=>v=.d (.bool (Lx.isName s))):=by
 have hsz:s.data.toList.length=s.size:=by simp
 cases hs:s.data.toList with
 |nil=>
  have h0:s=⟨#[]⟩:=by cases s with|mk s=>cases s with|mk s=>cases hs;rfl
  (refine j4 func140 ntmps140 results140 fun w M=>?_)
  (repeat' first|refine yyp ?_;try refine s_bu ?_ ?_<;>intro hb|refine yy ?_|refine yy2 ?_ ?_<;>intro hcmp|refine at_nil ?_;refine z_nil qo11_0 ?_|refine tc_seq fun K hK=>?_|apply_assumption -exfalso -symm)
  all_goals try contradiction
  (refine j0 (j6 ?_))
  simp[oneOf,Lx.isName,hs]
 |cons c l=>
  rw[hs]at hsz
  simp only[List.length_cons]at hsz
  have h0:¬s=⟨#[]⟩:=fun e=>by rw[e]at hs;cases hs
  have hn:=kw0 s c l hs
  have hc0:s.data.toList[0]? =some c:=by rw[hs];rfl
  by_cases h32:s.size<=32
  ·have hrun:=qn7 (glS mm) s (by omega)
   have hk:=ra4 (mm:=mm) s (by omega)
   by_cases hall:(c::l).all Lx.wordB=true
   ·have hr:Lx.run s.data.toList=s.size:=by rw[hs,(Lx.run_all _).2 hall];simpa using hsz
    rw[hr]at hrun
    (refine j4 func140 ntmps140 results140 fun w M=>?_)
    (repeat' first|refine yyp ?_;try refine s_bu ?_ ?_<;>intro hb|refine yy ?_|refine yy2 ?_ ?_<;>intro hcmp|refine at_call 175 ?_;refine y_call (hc:=(kd2 (glS mm) c)) ?_;try refine s_bu ?_ ?_<;>intro hb|refine at_call 176 ?_;refine y_call (hc:=hrun) ?_|refine at_call 177 ?_;refine y_call (hc:=hk) ?_;try refine s_bu ?_ ?_<;>intro hb|refine at_nil ?_;refine z_nil qo11_0 ?_|refine tc_seq fun K hK=>?_|apply_assumption -exfalso -symm)
    all_goals try contradiction
    all_goals
     (refine j0 (j6 ?_))
     rw[hn]
     rw[List.all_cons]at hall
     have h31:l.length<32:=by omega
     simp only[Bool.and_eq_true]at hall
     simp only[oneOf, *,decide_true,Bool.true_and,Bool.and_true,Bool.false_and,Bool.not_true,Bool.not_false]
   ·have hr:¬Lx.run s.data.toList=s.size:=fun e=>hall ((Lx.run_all _).1 (by rw[hs]at e;rw[e];simpa using hsz.symm))
    (refine j4 func140 ntmps140 results140 fun w M=>?_)
    (repeat' first|refine yyp ?_;try refine s_bu ?_ ?_<;>intro hb|refine yy ?_|refine yy2 ?_ ?_<;>intro hcmp|refine at_call 175 ?_;refine y_call (hc:=(kd2 (glS mm) c)) ?_;try refine s_bu ?_ ?_<;>intro hb|refine at_call 176 ?_;refine y_call (hc:=hrun) ?_|refine at_nil ?_;refine z_nil qo11_0 ?_|refine tc_seq fun K hK=>?_|apply_assumption -exfalso -symm)
    all_goals try contradiction
    all_goals
     (refine j0 (j6 ?_))
     rw[hn]
     rw[List.all_cons]at hall
     simp only[oneOf,V.d.injEq,D.bool.injEq]
     have hlw:=jq8 c
     (repeat (rename (∀ S:Sd,TC _ _ _ S->_)=>hX;clear hX))
     clear hn hrun hk
     grind
  ·(refine j4 func140 ntmps140 results140 fun w M=>?_)
   (repeat' first|refine yyp ?_;try refine s_bu ?_ ?_<;>intro hb|refine yy ?_|refine yy2 ?_ ?_<;>intro hcmp|refine at_nil ?_;refine z_nil qo11_0 ?_|refine tc_seq fun K hK=>?_|apply_assumption -exfalso -symm)
   all_goals try contradiction
   all_goals
    (refine j0 (j6 ?_))
    rw[hn]
    have h31:¬l.length<32:=by omega
    simp only[oneOf,h31,decide_false,Bool.false_and]
theorem kp5 (t:Ty):FnD prog (glS mm) 184 [.d (dTy t)] (fun v=>v=.d (.bool (Lx.tyMay t))):=by
 (refine j4 func184 ntmps184 results184 fun w M=>?_)
 (repeat' first|refine tr_at 1 ?_;(refine k7 1 ?_)|refine yyp ?_;try refine s_bu ?_ ?_<;>intro hb|refine yy ?_|refine yy2 ?_ ?_<;>intro hcmp|refine at_call 205 ?_;refine y_call (hc:=(by first|exact qs4 t.kind|exact qs4 t.item)) ?_;try refine s_bu ?_ ?_<;>intro hb|refine at_call 140 ?_;refine y_call (hc:=(ji0 t.proto)) ?_;try refine s_bu ?_ ?_<;>intro hb|refine at_nil ?_;refine z_nil [0,1,2,3,4,5,6,12,24,31] ?_|refine tc_seq fun K hK=>?_|apply_assumption -exfalso -symm)
 all_goals try contradiction
 all_goals
  (refine j0 (j6 ?_))
  simp only[oneOf,V.d.injEq,D.bool.injEq,Lx.tyMay]
  (repeat (rename (∀ S:Sd,TC _ _ _ S->_)=>hX;clear hX))
  simp only[je6]at *
  grind [Lx.prim]
end
section
def qo12_0:List Nat:=[0,1,2,3,4,5,6,7,37,39,40,41,42,63]
variable {mm:Int}
theorem kw2 (pre l:List Va)(v:Va):Lx.vasMay pre (v::l)=(Lx.isName v.tag && Lx.itemsMay v.items 0 && !(pre.any fun w=>decide (w.tag=v.tag)) && Lx.vasMay (pre++[v]) l):=rfl
theorem jj8 {α:Type}(l:List α)(k:Nat)(h:k<l.length):l.take k++[l[k]]=l.take (k+1):=(List.take_succ_eq_append_getElem h).symm
theorem kd8 {α β:Type}(f:α->β)(l:List α)(m:Nat):((l.map f).drop 0).take (m - 0)=(l.take m).map f:=by
 rw[List.drop_zero,Nat.sub_zero,List.map_take]
attribute [local irreducible] TR TC
theorem mt9 (l:List Va):FnD prog (glS mm) 186 [.d (dPt ⟨false,l⟩)] (fun v=>v=.d (.bool (Lx.ptMay ⟨false,l⟩))):=by
 unfold dPt Lx.ptMay
 dsimp only
 match l with
 |[]=>
  (refine j4 func186 ntmps186 results186 fun w M=>?_)
  (repeat' first|refine tr_at 1 ?_;(refine k7 1 ?_)|refine yyp ?_;try refine s_bu ?_ ?_<;>intro hb|refine yy ?_|refine yy2 ?_ ?_<;>intro hcmp|refine at_nil ?_;refine z_nil qo12_0 ?_|refine tc_seq fun K hK=>?_|apply_assumption -exfalso -symm)
  ((all_goals try contradiction);(all_goals try (exfalso;(repeat (rename (∀ S:Sd,TC _ _ _ S->_)=>hX;clear hX));simp only[List.length_cons,List.length_nil,List.length_map]at * <;>omega)))
  all_goals
   (refine j0 (j6 ?_))
   rfl
 |[v]=>
  have hv:(dVa v)=.agg [.str v.tag,.list 1 (v.items.map (.int .u8))]:=rfl
  (refine j4 func186 ntmps186 results186 fun w M=>?_)
  (repeat' first|refine tr_at 1 ?_;(refine k7 1 ?_)|refine yyp ?_;try refine s_bu ?_ ?_<;>intro hb|refine yy ?_|refine yy2 ?_ ?_<;>intro hcmp|refine at_call 206 ?_;refine y_call (hc:=(me9 v.items 1)) ?_;try refine s_bu ?_ ?_<;>intro hb|refine at_nil ?_;refine z_nil qo12_0 ?_|refine tc_seq fun K hK=>?_|apply_assumption -exfalso -symm)
  all_goals try simp only[List.getElem_cons_zero]at hcmp
  ((all_goals try contradiction);(all_goals try (exfalso;(repeat (rename (∀ S:Sd,TC _ _ _ S->_)=>hX;clear hX));simp only[List.length_cons,List.length_nil,List.length_map]at * <;>omega)))
  all_goals
   (refine j0 (j6 ?_))
   simp[oneOf,je6, *]
 |v::w::r=>
  (refine j4 func186 ntmps186 results186 fun w M=>?_)
  (repeat' first|refine tr_at 1 ?_;(refine k7 1 ?_)|refine yyp ?_;try refine s_bu ?_ ?_<;>intro hb|refine yy ?_|refine yy2 ?_ ?_<;>intro hcmp|refine at_nil ?_;refine z_nil qo12_0 ?_|refine tc_seq fun K hK=>?_|apply_assumption -exfalso -symm)
  all_goals try simp only[List.getElem_cons_zero]at hcmp
  ((all_goals try contradiction);(all_goals try (exfalso;(repeat (rename (∀ S:Sd,TC _ _ _ S->_)=>hX;clear hX));simp only[List.length_cons,List.length_nil,List.length_map]at * <;>omega)))
  all_goals
   (refine j0 (j6 ?_))
   rfl
theorem mu0 (l:List Va):FnD prog (glS mm) 186 [.d (dPt ⟨true,l⟩)] (fun v=>v=.d (.bool (Lx.ptMay ⟨true,l⟩))):=by
 unfold dPt Lx.ptMay
 dsimp only
 rw[if_pos rfl]
 (refine j4 func186 ntmps186 results186 fun w M=>?_)
 (repeat' first|refine tr_at 1 ?_;(refine k7 1 ?_)|refine yyp ?_;try refine s_bu ?_ ?_<;>intro hb|refine yy ?_|refine yy2 ?_ ?_<;>intro hcmp|refine at_nil ?_;refine z_nil qo12_0 ?_|refine tc_seq fun K hK=>?_|apply_assumption -exfalso -symm)
 ·(refine j0 (j6 ?_))
  rw[decide_eq_false (by omega)]
  rfl
 ·(refine j0 (j6 ?_))
  rw[decide_eq_false (by omega)]
  rfl
 have hd:decide (1<=l.length/\l.length<=16)=true:=decide_eq_true (by omega)
 refine k9 [2,3,4,41,42,43,44,45,46,47,48,49,50,51,52,53,54,55,56,57,58,59,60,61,62,63,64] [] (fun k:Nat=>[(41,.d (.int .i64 k))]) (fun _=>[]) (fun k=>k<=l.length/\Lx.vasMay [] l=Lx.vasMay (l.take k) (l.drop k)) (fun k=>l.length - k) 0 ⟨by omega,rfl⟩ fun k ⟨hk,hi⟩=>?_
 dsimp only[List.cons_append,List.nil_append]
 rcases Nat.lt_or_ge k l.length with hk2|hk2
 ·rw[List.drop_eq_getElem_cons hk2,kw2,jj8 l k hk2]at hi
  have hit:=me9 (mm:=mm) l[k].items 0
  have hcf:=re7 (glS mm) l[k].tag (l[k].items.map (.int .u8)) (fun w=>decide (w.tag=l[k].tag)) (l.take k) fun j hj=>kv9 (mm:=mm) l[k].tag (l[k].items.map (.int .u8)) _
  (repeat' first|refine tr_at 4 ?_;(refine j1 4 ?_)|refine tr_at 60 ?_;(refine z_p ko4 ?_;simp only[kd8])|refine tr_at 62 ?_;refine y_callE (hc:=hcf) ?_;try refine s_bu ?_ ?_<;>intro hb|refine yyp ?_;try refine s_bu ?_ ?_<;>intro hb|refine yy ?_|refine at_call 206 ?_;refine y_call (hc:=hit) ?_;try refine s_bu ?_ ?_<;>intro hb|refine at_call 140 ?_;refine y_call (hc:=(ji0 l[k].tag)) ?_;try refine s_bu ?_ ?_<;>intro hb|refine at_nil ?_;refine z_nil qo12_0 ?_|refine tc_seq fun K hK=>?_|apply_assumption -exfalso -symm)
  all_goals first
   |(refine⟨k+1,⟨by omega,?_⟩,by omega,v7⟩
     rw[hi]
     simp only[*,Bool.not_false,Bool.true_and])
   |((refine j0 (j6 ?_))
     rw[hi,hd]
     simp only[oneOf, *,Bool.not_true,Bool.true_and,Bool.and_false,Bool.false_and])
 ·rw[List.drop_of_length_le hk2]at hi
  (repeat' first|refine yyp ?_;try refine s_bu ?_ ?_<;>intro hb|refine yy ?_|refine at_nil ?_;refine z_nil qo12_0 ?_|refine tc_seq fun K hK=>?_|apply_assumption -exfalso -symm)
  (refine j0 (j6 ?_))
  rw[hi,hd]
  rfl
theorem qh2 (p:Pt):FnD prog (glS mm) 186 [.d (dPt p)] (fun v=>v=.d (.bool (Lx.ptMay p))):=by
 obtain⟨c,l⟩:=p
 cases c with
 |false=>exact mt9 l
 |true=>exact mu0 l
end
section
def qo15_0:List Nat:=[0,1,2,3,4,5,6,7,47,50,51,52,65]
def qo15_1:List Nat:=[0,1,2,3,4,5,6,7,47,52,66]
def kl0:Plan:=lin [0,8,20,28,5,12,17,25,32,37,42,44]
attribute [local irreducible] TR TC
theorem mu1 (gl:List (Nat × List D)):∀ (m:Nat) (x y:Ex),exN x<=m->FnD prog gl 84 [.d (dEx x),.d (dEx y)] (fun v=>v=.d (.bool (eqB x y))):=by
 intro m
 induction m with
 |zero=>intro x y h;have:=jq6 x;omega
 |succ m ih=>
  intro x y hm
  rw[qf9]at hm
  have hl:∀ z∈x.l,∀ y,FnD prog gl 84 [.d (dEx z),.d (dEx y)] (fun v=>v=.d (.bool (eqB z y))):=fun z hz y=>ih z y (by have:=js7 hz;omega)
  have hxy:=ra2 (a:=x) (b:=y)
  clear ih hm
  simp only[r9]at hl ⊢
  rw[kk7 x,kk7 y]
  (refine j4 func84 ntmps84 results84 fun w M=>?_)
  refine v6 0 5 rfl rfl fun hna=>?_
  refine v6 1 5 rfl rfl fun hnb=>?_
  simp only[List.length_map]at hna hnb
  (repeat' first|refine tr_at 2 ?_;(refine k7 2 ?_)|refine tr_at 3 ?_;(refine k7 3 ?_)|refine tr_at 11 ?_;(first|refine yyp ?_;try refine s_bu ?_ ?_<;>intro hb|refine yy2 ?_ ?_<;>intro hcmp);all_goals try refine z_sh true 11 47 qo15_0 ?_|refine tr_at 18 ?_;(first|refine yyp ?_;try refine s_bu ?_ ?_<;>intro hb|refine yy2 ?_ ?_<;>intro hcmp);all_goals try refine z_sh true 18 47 qo15_0 ?_|refine tr_at 25 ?_;(first|refine yyp ?_;try refine s_bu ?_ ?_<;>intro hb|refine yy2 ?_ ?_<;>intro hcmp);all_goals try refine z_sh true 25 47 qo15_0 ?_|refine tr_at 32 ?_;(first|refine yyp ?_;try refine s_bu ?_ ?_<;>intro hb|refine yy2 ?_ ?_<;>intro hcmp);all_goals try refine z_sh true 32 47 qo15_0 ?_|refine tr_at 39 ?_;(first|refine yyp ?_;try refine s_bu ?_ ?_<;>intro hb|refine yy2 ?_ ?_<;>intro hcmp);all_goals try refine z_sh true 39 47 qo15_0 ?_|refine yyp ?_;try refine s_bu ?_ ?_<;>intro hb|refine yy ?_|refine yy2 ?_ ?_<;>intro hcmp|refine at_nil ?_;refine z_nil qo15_0 ?_|refine tc_seq fun K hK=>?_|refine j5 6 ?_;refine j2 [] kl0 ?_|apply_assumption -exfalso -symm)
  iterate 5
   focus
    (refine j0 (j6 ?_))
    have hne:¬x=y:=by
     (repeat (rename (∀ S:Sd,TC _ _ _ S->_)=>hX;clear hX))
     clear hl
     grind
    rw[r8.2 hne]
    rfl
  rotate_left
  iterate 1
   focus
    (refine j0 (j6 ?_))
    have hne:¬x=y:=by
     (repeat (rename (∀ S:Sd,TC _ _ _ S->_)=>hX;clear hX))
     clear hl
     grind
    rw[r8.2 hne]
    rfl
  have hlen:x.l.length=y.l.length:=by omega
  have hfl:x=y↔x.l=y.l:=by
   (repeat (rename (∀ S:Sd,TC _ _ _ S->_)=>hX;clear hX))
   clear hl
   grind
  refine k9 [4,5,51,52,53,54,55,56,57,58,59,60,61,62,63,64,65,66] [] (fun k:Nat=>[(51,.d (.int .i64 k))]) (fun _=>[]) (fun k=>k<=x.l.length/\x.l.take k=y.l.take k) (fun k=>x.l.length - k) 0 ⟨Nat.zero_le _,rfl⟩ fun k ⟨hk,hi⟩=>?_
  dsimp only[List.cons_append,List.nil_append]
  rcases Nat.lt_or_ge k x.l.length with hk2|hk2
  ·have hk3:k<y.l.length:=by omega
   have hone:=hl x.l[k] (List.getElem_mem _) y.l[k]
   (repeat' first|refine yyp ?_;try refine s_bu ?_ ?_<;>intro hb|refine yy ?_|refine at_call 84 ?_;refine y_call (hc:=hone) ?_;try refine s_bu ?_ ?_<;>intro hb|refine at_nil ?_;refine z_nil qo15_0 ?_|refine tc_seq fun K hK=>?_|refine j5 6 ?_;refine j2 [] kl0 ?_|apply_assumption -exfalso -symm)
   ·refine⟨k+1,⟨by omega,x6 hk2 hk3 hi (j9.1 hb)⟩,by omega,v7⟩
   ·(refine j0 (j6 ?_))
    have hne:¬x=y:=fun e=>y8 hk2 hk3 (r8.1 hb) (hfl.1 e)
    rw[r8.2 hne]
    rfl
  ·(repeat' first|refine yyp ?_;try refine s_bu ?_ ?_<;>intro hb|refine yy ?_|refine at_nil ?_;refine z_nil qo15_0 ?_|refine tc_seq fun K hK=>?_|refine j5 6 ?_;refine j2 [] kl0 ?_|apply_assumption -exfalso -symm)
   (refine j0 (j6 ?_))
   rw[j9.2 (hfl.2 (y3 hk2 (by omega) hi))]
   rfl
theorem ma7 (gl:List (Nat × List D)):∀ (m:Nat) (x y:Ex),exN x<=m->FnD prog gl 44 [.d (dEx x),.d (dEx y)] (fun v=>v=.d (.bool (eqB x y))):=by
 intro m
 induction m with
 |zero=>intro x y h;have:=jq6 x;omega
 |succ m ih=>
  intro x y hm
  rw[qf9]at hm
  have hl:∀ z∈x.l,∀ y,FnD prog gl 44 [.d (dEx z),.d (dEx y)] (fun v=>v=.d (.bool (eqB z y))):=fun z hz y=>ih z y (by have:=js7 hz;omega)
  have hxy:=ra2 (a:=x) (b:=y)
  clear ih hm
  simp only[r9]at hl ⊢
  rw[kk7 x,kk7 y]
  (refine j4 func44 ntmps44 results44 fun w M=>?_)
  refine v6 0 5 rfl rfl fun hna=>?_
  refine v6 1 5 rfl rfl fun hnb=>?_
  simp only[List.length_map]at hna hnb
  (repeat' first|refine tr_at 2 ?_;(refine k7 2 ?_)|refine tr_at 3 ?_;(refine k7 3 ?_)|refine tr_at 11 ?_;(first|refine yyp ?_;try refine s_bu ?_ ?_<;>intro hb|refine yy2 ?_ ?_<;>intro hcmp);all_goals try refine z_sh true 11 47 qo15_1 ?_|refine tr_at 18 ?_;(first|refine yyp ?_;try refine s_bu ?_ ?_<;>intro hb|refine yy2 ?_ ?_<;>intro hcmp);all_goals try refine z_sh true 18 47 qo15_1 ?_|refine tr_at 25 ?_;(first|refine yyp ?_;try refine s_bu ?_ ?_<;>intro hb|refine yy2 ?_ ?_<;>intro hcmp);all_goals try refine z_sh true 25 47 qo15_1 ?_|refine tr_at 32 ?_;(first|refine yyp ?_;try refine s_bu ?_ ?_<;>intro hb|refine yy2 ?_ ?_<;>intro hcmp);all_goals try refine z_sh true 32 47 qo15_1 ?_|refine tr_at 39 ?_;(first|refine yyp ?_;try refine s_bu ?_ ?_<;>intro hb|refine yy2 ?_ ?_<;>intro hcmp);all_goals try refine z_sh true 39 47 qo15_1 ?_|refine yyp ?_;try refine s_bu ?_ ?_<;>intro hb|refine yy ?_|refine yy2 ?_ ?_<;>intro hcmp|refine at_nil ?_;refine z_nil qo15_1 ?_|refine tc_seq fun K hK=>?_|refine j5 6 ?_;refine j2 [] kl0 ?_|apply_assumption -exfalso -symm)
  iterate 5
   focus
    (refine j0 (j6 ?_))
    have hne:¬x=y:=by
     (repeat (rename (∀ S:Sd,TC _ _ _ S->_)=>hX;clear hX))
     clear hl
     grind
    rw[r8.2 hne]
    rfl
  rotate_left
  iterate 1
   focus
    (refine j0 (j6 ?_))
    have hne:¬x=y:=by
     (repeat (rename (∀ S:Sd,TC _ _ _ S->_)=>hX;clear hX))
     clear hl
     grind
    rw[r8.2 hne]
    rfl
  have hlen:x.l.length=y.l.length:=by omega
  have hfl:x=y↔x.l=y.l:=by
   (repeat (rename (∀ S:Sd,TC _ _ _ S->_)=>hX;clear hX))
   clear hl
   grind
  refine k9 [4,5,48,49,50,51,52,53,54,55,56,57,58,59,60,61,62,63,64,65,66] [] (fun k:Nat=>[(5,.d (.int .i64 k))]) (fun _=>[]) (fun k=>k<=x.l.length/\x.l.take k=y.l.take k) (fun k=>x.l.length - k) 0 ⟨Nat.zero_le _,rfl⟩ fun k ⟨hk,hi⟩=>?_
  dsimp only[List.cons_append,List.nil_append]
  rcases Nat.lt_or_ge k x.l.length with hk2|hk2
  ·have hk3:k<y.l.length:=by omega
   have hone:=hl x.l[k] (List.getElem_mem _) y.l[k]
   (repeat' first|refine yyp ?_;try refine s_bu ?_ ?_<;>intro hb|refine yy ?_|refine at_call 44 ?_;refine y_call (hc:=hone) ?_;try refine s_bu ?_ ?_<;>intro hb|refine at_nil ?_;refine z_nil qo15_1 ?_|refine tc_seq fun K hK=>?_|refine j5 6 ?_;refine j2 [] kl0 ?_|apply_assumption -exfalso -symm)
   ·refine⟨k+1,⟨by omega,x6 hk2 hk3 hi (j9.1 hb)⟩,by omega,v7⟩
   ·(refine j0 (j6 ?_))
    have hne:¬x=y:=fun e=>y8 hk2 hk3 (r8.1 hb) (hfl.1 e)
    rw[r8.2 hne]
    rfl
  ·(repeat' first|refine yyp ?_;try refine s_bu ?_ ?_<;>intro hb|refine yy ?_|refine at_nil ?_;refine z_nil qo15_1 ?_|refine tc_seq fun K hK=>?_|refine j5 6 ?_;refine j2 [] kl0 ?_|apply_assumption -exfalso -symm)
   (refine j0 (j6 ?_))
   rw[j9.2 (hfl.2 (y3 hk2 (by omega) hi))]
   rfl
end
section
variable {mm:Int}
attribute [local irreducible] TR TC
theorem qh3 (gl:List (Nat × List D))(k:Int):FnD prog gl 203 [.d (.int .u8 k)] (fun v=>v=.d (.str (Lx.typeWord k).1)):=by
 (refine j4 func203 ntmps203 results203 fun w M=>?_)
 (repeat' first|refine yyp ?_;try refine s_bu ?_ ?_<;>intro hb|refine yy ?_|refine yy2 ?_ ?_<;>intro hcmp|refine at_nil ?_;refine z_nil [0,2,3,4,5,6,8] ?_|refine tc_seq fun K hK=>?_|apply_assumption -exfalso -symm)
 all_goals
  (refine j0 (j6 ?_))
  simp only[oneOf,Lx.typeWord, *,if_true,if_false]
  try rfl
theorem kp6 (k:Int):(Lx.typeWord k).1=⟨#[]⟩↔Lx.prim k=false:=by
 unfold Lx.typeWord Lx.prim
 by_cases h1:k=1
 ·simp[h1]
 ·by_cases h2:k=2
  ·simp[h2]
  ·by_cases h3:k=3
   ·simp[h3]
   ·simp[h1,h2,h3,je6]
theorem rh6 (n:Int):n.fdiv (2 ^ min (Int.toNat 8) IntKind.i32.bits)=0↔(0<=n/\n<=255):=by
 have:(2 ^ min (Int.toNat 8) IntKind.i32.bits:Int)=256:=by decide
 rw[this,Int.fdiv_eq_ediv_of_nonneg _ (by omega)]
 omega
theorem rh7 (n:Int):n.fdiv (2 ^ min (Int.toNat 1) IntKind.i32.bits)=0↔(0<=n/\n<=1):=by
 have:(2 ^ min (Int.toNat 1) IntKind.i32.bits:Int)=2:=by decide
 rw[this,Int.fdiv_eq_ediv_of_nonneg _ (by omega)]
 omega
theorem qh4 (e:Ex):0<=e.op/\e.op<=255:=by
 cases e with|mk k o t n s l=>
 have:=o.toNat_lt
 simp only[Ex.op]
 omega
theorem qh5 (e:Ex):FnD prog (glS mm) 181 [.d (dE e)] (fun v=>v=.tup [.d (.int .i64 (Lx.exParts e.kind e.op e.ty e.n e.s).1),.d (.bool (Lx.exParts e.kind e.op e.ty e.n e.s).2)]):=by
 obtain⟨ho1,ho2⟩:=qh4 e
 have hp:=qh3 (glS mm) e.ty
 have htw:=kp6 e.ty
 have h8:=rh6 e.n
 have h1:=rh7 e.n
 (refine j4 func181 ntmps181 results181 fun w M=>?_)
 (repeat' first|refine tr_at 1 ?_;(refine k7 1 ?_)|refine tr_at 4 ?_;(refine j1 4 ?_)|refine yyp ?_;try refine s_bu ?_ ?_<;>intro hb|refine yy ?_|refine yy2 ?_ ?_<;>intro hcmp|refine at_call 140 ?_;refine y_call (hc:=(ji0 e.s)) ?_;try refine s_bu ?_ ?_<;>intro hb|refine at_call 203 ?_;refine y_call (hc:=hp) ?_|refine at_nil ?_;refine z_nil [0,1,2,3,4,5,6,9,10,13,18,20,25,27,34,38,39,49,51,60,62,67] ?_|refine tc_seq fun K hK=>?_|refine j5 35 ?_;refine j2 [] (lin [0,4,9,12,16,20,25,28,32,36,40,45,48,52,56,60,76,65,68,72,80]) ?_|apply_assumption -exfalso -symm)
 all_goals
  (refine j0 (j6 ?_))
  simp only[oneOf,V.tup.injEq,List.cons.injEq,V.d.injEq,D.int.injEq,D.bool.injEq,and_true,true_and,Lx.exParts]
  (repeat (rename (∀ S:Sd,TC _ _ _ S->_)=>hX;clear hX))
  clear hp
  simp only[je6,h8,h1,Decidable.not_not,htw]at *
  clear h8 h1 htw
  grind
end
section
def qo16_0:List Nat:=[0,1,2,3,4,6,7,8,10,34,36,37,38,39,47]
variable {mm:Int}
theorem ma8 (deep left:Int)(e:Ex)(l:List Ex):Lx.visitsOf deep left (e::l)=if (Lx.visitOf deep left e).1 then Lx.visitsOf deep (Lx.visitOf deep left e).2 l else Lx.visitOf deep left e:=by rw[Lx.visitsOf]
theorem mk6 (deep left:Int)(e:Ex):Lx.visitOf deep left e=if Lx.exOwn e=false\/left - 1<0\/32<deep then (false,left - 1) else Lx.visitsOf (deep+1) (left - 1) e.l:=by
 cases e
 rw[Lx.visitOf]
 rfl
def HV (left:Int):List (Nat × Ob):=[(3,.box [.d (.int .i64 left)]),(4,.box [.clo (.func 180) [] [.ptr 3 0,.ptr 4 0]])]
theorem ma9 (e:Ex)(deep left:Int)(h0:0<=left)(h1:1<=deep)(h2:deep<=33)(h:(Lx.visitOf deep left e).1=true):0<=(Lx.visitOf deep left e).2/\(Lx.visitOf deep left e).2<=left - 1:=by
 have:=Lx.visit_room e (deep - 1) left h0 (by omega) (by omega)
 rw[show deep - 1+1=deep by omega]at this
 have h3:=this.1.1 h
 have h4:=this.2 h3
 omega
attribute [local irreducible] TR TC
theorem qh6:∀ (m:Nat) (e:Ex) (deep left:Int),exN e<=m->0<=left->left<=256->1<=deep->deep<=33->
 FnE prog (glS mm) 180 [.d (dEx e),.d (.int .i64 deep),.ptr 3 0,.ptr 4 0] (HV left) (fun v H1=>v=.d (.bool (Lx.visitOf deep left e).1)/\H1=HV (Lx.visitOf deep left e).2):=by
 intro m
 induction m with
 |zero=>intro e d l h;have:=jq6 e;omega
 |succ m ih=>
  intro e deep left hm h0 h1 h2 h3
  rw[qf9]at hm
  have hl:∀ z∈e.l,∀ d r:Int,0<=r->r<=256->1<=d->d<=33->FnE prog (glS mm) 180 [.d (dEx z),.d (.int .i64 d),.ptr 3 0,.ptr 4 0] (HV r) (fun v H1=>v=.d (.bool (Lx.visitOf d r z).1)/\H1=HV (Lx.visitOf d r z).2):=fun z hz d r=>ih z d r (by have:=js7 hz;omega)
  have hparts:=qh5 (mm:=mm) e
  have heq:=mk6 deep left e
  clear ih hm
  generalize Lx.visitOf deep left e=res at heq ⊢
  have hown:Lx.exOwn e=((Lx.exParts e.kind e.op e.ty e.n e.s).2 && decide ((e.l.length:Int)=(Lx.exParts e.kind e.op e.ty e.n e.s).1)):=rfl
  generalize hq:Lx.exParts e.kind e.op e.ty e.n e.s=q at hparts hown
  simp only[r9]at hl ⊢
  rw[kk7 e]at hparts ⊢
  dsimp only[HV]at hl ⊢
  (refine j3 func180 ntmps180 results180 fun w M E b0=>?_)
  refine v6 0 5 rfl rfl fun hn=>?_
  simp only[List.length_map]at hn
  (repeat' first|refine tr_at 4 ?_;(refine k7 1004 ?_)|refine yyp ?_;try refine s_bu ?_ ?_<;>intro hb|refine yy ?_|refine yy2 ?_ ?_<;>intro hcmp|refine at_call 181 ?_;refine y_call (hc:=hparts) ?_|refine at_nil ?_;refine z_nil qo16_0 ?_|refine tc_seq fun K hK=>?_|apply_assumption -exfalso -symm)
  ·obtain rfl:res=(false,left - 1):=by rw[heq,if_pos (.inr (.inl hcmp))]
   (refine j0 (j7 ⟨?_,rfl⟩))
   rfl
  ·obtain rfl:res=(false,left - 1):=by rw[heq,if_pos (.inr (.inr hcmp))]
   (refine j0 (j7 ⟨?_,rfl⟩))
   rfl
  ·have hf:Lx.exOwn e=false:=by rw[hown,decide_eq_false hcmp,Bool.and_false]
   obtain rfl:res=(false,left - 1):=by rw[heq,if_pos (.inl hf)]
   (refine j0 (j7 ⟨?_,rfl⟩))
   rfl
  ·have hok:Lx.exOwn e=true:=by rw[hown,hb,decide_eq_true (by omega)];rfl
   rw[if_neg (by rw[hok];simp only[Bool.true_eq_false,false_or];omega)]at heq
   clear hown hq hparts
   refine k9 (ι:=Nat × Int) [6,10,38,39,40,41,42,43,44,45,46,47,48] [3] (fun x=>[(38,.d (.int .i64 x.1))]) (fun x=>[(3,.box [.d (.int .i64 x.2)])]) (fun x=>x.1<=e.l.length/\0<=x.2/\x.2<=256/\res=Lx.visitsOf (deep+1) x.2 (e.l.drop x.1)) (fun x=>e.l.length - x.1) (0,left - 1) ⟨by omega,by omega,by omega,heq⟩ fun⟨k,cur⟩ ⟨hk,hc0,hc1,hi⟩=>?_
   dsimp only[List.cons_append,List.nil_append]at hk hc0 hc1 hi ⊢
   rcases Nat.lt_or_ge k e.l.length with hk2|hk2
   ·rw[List.drop_eq_getElem_cons hk2,ma8]at hi
    have hone:=hl e.l[k] (List.getElem_mem _) (deep+1) cur hc0 hc1 (by omega) (by omega)
    have hrange:=ma9 e.l[k] (deep+1) cur hc0 (by omega) (by omega)
    generalize Lx.visitOf (deep+1) cur e.l[k]=r at hone hrange hi
    (repeat' first|refine tr_at 10 ?_;(refine j1 1010 ?_)|refine tr_at 46 ?_;refine y_callE (hc:=hone) ?_;try refine s_bu ?_ ?_<;>intro hb|refine yyp ?_;try refine s_bu ?_ ?_<;>intro hb|refine yy ?_|refine at_nil ?_;refine z_nil qo16_0 ?_|refine tc_seq fun K hK=>?_|apply_assumption -exfalso -symm)
    ·have hr:=hrange hb
     refine⟨(k+1,r.2),⟨by dsimp only;omega,hr.1,by dsimp only;omega,?_⟩,by dsimp only;omega,v7⟩
     rw[hi,if_pos hb]
    ·obtain rfl:res=r:=by rw[hi,hb];rfl
     (refine j0 (j7 ⟨?_,rfl⟩))
     rw[hb]
     rfl
   ·obtain rfl:res=(true,cur):=by rw[hi,List.drop_of_length_le hk2,Lx.visitsOf]
    (repeat' first|refine yyp ?_;try refine s_bu ?_ ?_<;>intro hb|refine yy ?_|refine at_nil ?_;refine z_nil qo16_0 ?_|refine tc_seq fun K hK=>?_|apply_assumption -exfalso -symm)
    (refine j0 (j7 ⟨?_,rfl⟩))
    rfl
  ·have hf:Lx.exOwn e=false:=by rw[hown,hb,Bool.false_and]
   obtain rfl:res=(false,left - 1):=by rw[heq,if_pos (.inl hf)]
   (refine j0 (j7 ⟨?_,rfl⟩))
   rfl
theorem ji1 (e:Ex):FnD prog (glS mm) 144 [.d (dEx e)] (fun v=>v=.d (.bool (Lx.exMay e))):=by
 have h:=qh6 (mm:=mm) _ e 1 256 (Nat.le_refl _) (by omega) (by omega) (by omega) (by omega)
 rw[show Lx.exMay e=(Lx.visitOf 1 256 e).1 from rfl]
 generalize Lx.visitOf 1 256 e=r at h ⊢
 simp only[r9]at h ⊢
 dsimp only[HV]at h
 (refine j4 func144 ntmps144 results144 fun w M=>?_)
 (repeat' first|refine tr_at 1 ?_;(refine k7 1 ?_)|refine tr_at 3 ?_;(refine j1 3 ?_)|refine tr_at 4 ?_;(refine j1 4 ?_)|refine tr_at 8 ?_;refine y_callE (hc:=h) ?_;try refine s_bu ?_ ?_<;>intro hb|refine yyp ?_;try refine s_bu ?_ ?_<;>intro hb|refine yy ?_|refine at_nil ?_;refine z_nil [0,1,2,3,4,5,6] ?_|refine tc_seq fun K hK=>?_|apply_assumption -exfalso -symm)
 all_goals
  (refine j0 (j6 ?_))
  simp only[oneOf, *]
end
end Go.Proofs.YtdopmfifmgkmoaaGreatDoor
