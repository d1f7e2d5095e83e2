/- Parts: O31. -/
import Derived.Test.YtdopmfifmgkmoaaGreatDoorP45
import Derived.Test.YtdopmfifmgkmoaaGreatDoorP25
set_option linter.all false
set_option maxRecDepth 100000
set_option maxHeartbeats 16000000
namespace Go.Proofs.YtdopmfifmgkmoaaGreatDoor
open Go.RowKit Go.Proofs.Tryz
section
def qo31_0:List Nat:=[0,1,2,3,4,5,6,7,37,42,62,65,80]
def jz3:Plan:=lin [0,8,24,32,5,12,16,21,29,36,40,45,48]
attribute [local irreducible] TR TC
theorem mc9 (gl:List (Nat × List D))(l:List Va):FnD prog gl 168 [.d (dPt ⟨false,l⟩)] (fun v=>v=.d (.bool (Lx.ptMay ⟨false,l⟩))):=by
 unfold dPt Lx.ptMay
 dsimp only
 match l with
 |[]=>
  (refine j4 func168 ntmps168 results168 fun w M=>?_)
  (repeat' first|refine tr_at 1 ?_;(refine k7 1 ?_)|refine yyp ?_;try refine s_bu ?_ ?_<;>intro hb|refine yy ?_|refine yy2 ?_ ?_<;>intro hcmp|refine at_nil ?_;refine z_nil qo31_0 ?_|refine tc_seq fun K hK=>?_|refine j5 13 ?_;refine j2 [] jz3 ?_|apply_assumption -exfalso -symm)
  all_goals try simp only[List.getElem_cons_zero]at hcmp
  ((all_goals try contradiction);(all_goals try (exfalso;(repeat (rename (∀ S:Sd,TC _ _ _ S->_)=>hX;clear hX));simp only[List.length_cons,List.length_nil,List.length_map]at * <;>omega)))
  all_goals
   (refine j0 (j6 ?_))
   rfl
 |[v]=>
  have hv:(dVa v)=.agg [.str v.tag,.list 1 (v.items.map (.int .u8))]:=rfl
  have hit:=kk9 gl v.items 1
  (refine j4 func168 ntmps168 results168 fun w M=>?_)
  (repeat' first|refine tr_at 1 ?_;(refine k7 1 ?_)|refine yyp ?_;try refine s_bu ?_ ?_<;>intro hb|refine yy ?_|refine yy2 ?_ ?_<;>intro hcmp|refine at_call 197 ?_;refine y_call (hc:=hit) ?_;try refine s_bu ?_ ?_<;>intro hb|refine at_nil ?_;refine z_nil qo31_0 ?_|refine tc_seq fun K hK=>?_|refine j5 13 ?_;refine j2 [] jz3 ?_|apply_assumption -exfalso -symm)
  all_goals try simp only[List.getElem_cons_zero]at hcmp
  ((all_goals try contradiction);(all_goals try (exfalso;(repeat (rename (∀ S:Sd,TC _ _ _ S->_)=>hX;clear hX));simp only[List.length_cons,List.length_nil,List.length_map]at * <;>omega)))
  all_goals
   (refine j0 (j6 ?_))
   simp[oneOf,je6, *]
 |v::w::r=>
  (refine j4 func168 ntmps168 results168 fun w M=>?_)
  refine v6 0 1 rfl rfl fun hna=>?_
  simp only[List.length_map,List.length_cons]at hna
  (repeat' first|refine tr_at 1 ?_;(refine k7 1 ?_)|refine yyp ?_;try refine s_bu ?_ ?_<;>intro hb|refine yy ?_|refine yy2 ?_ ?_<;>intro hcmp|refine at_nil ?_;refine z_nil qo31_0 ?_|refine tc_seq fun K hK=>?_|refine j5 13 ?_;refine j2 [] jz3 ?_|apply_assumption -exfalso -symm)
  all_goals try simp only[List.getElem_cons_zero]at hcmp
  ((all_goals try contradiction);(all_goals try (exfalso;(repeat (rename (∀ S:Sd,TC _ _ _ S->_)=>hX;clear hX));simp only[List.length_cons,List.length_nil,List.length_map]at * <;>omega)))
  all_goals
   (refine j0 (j6 ?_))
   rfl
theorem md0 (gl:List (Nat × List D))(l:List Va):FnD prog gl 168 [.d (dPt ⟨true,l⟩)] (fun v=>v=.d (.bool (Lx.ptMay ⟨true,l⟩))):=by
 unfold dPt Lx.ptMay
 dsimp only
 rw[if_pos rfl]
 (refine j4 func168 ntmps168 results168 fun w M=>?_)
 (repeat' first|refine tr_at 1 ?_;(refine k7 1 ?_)|refine yyp ?_;try refine s_bu ?_ ?_<;>intro hb|refine yy ?_|refine yy2 ?_ ?_<;>intro hcmp|refine at_nil ?_;refine z_nil qo31_0 ?_|refine tc_seq fun K hK=>?_|refine j5 13 ?_;refine j2 [] jz3 ?_|apply_assumption -exfalso -symm)
 ·(refine j0 (j6 ?_))
  rw[decide_eq_false (by omega)]
  rfl
 ·(refine j0 (j6 ?_))
  rw[decide_eq_false (by omega)]
  rfl
 have hd:decide (1<=l.length/\l.length<=16)=true:=decide_eq_true (by omega)
 refine k9 [2,3,4,38,39,40,41,42,43,44,45,46,47,48,49,50,51,52,53,54,55,56,57,58,59,60,61,62,63,64,65,66,67,68,69,70,71,72,73,74,75,76,77,78,79,80] [] (fun k:Nat=>[(3,.d (.int .i64 k))]) (fun _=>[]) (fun k=>k<=l.length/\Lx.vasMay [] l=Lx.vasMay (l.take k) (l.drop k)) (fun k=>l.length - k) 0 ⟨by omega,rfl⟩ fun k ⟨hk,hi⟩=>?_
 dsimp only[List.cons_append,List.nil_append]
 rcases Nat.lt_or_ge k l.length with hk2|hk2
 ·rw[List.drop_eq_getElem_cons hk2,kw2,jj8 l k hk2]at hi
  have hit:=kk9 gl l[k].items 0
  have hnm:=x9 gl l[k].tag
  (repeat' first|refine yyp ?_;try refine s_bu ?_ ?_<;>intro hb|refine yy ?_|refine at_call 197 ?_;refine y_call (hc:=hit) ?_;try refine s_bu ?_ ?_<;>intro hb|refine at_call 130 ?_;refine y_call (hc:=hnm) ?_;try refine s_bu ?_ ?_<;>intro hb|refine at_nil ?_;refine z_nil qo31_0 ?_|refine tc_seq fun K hK=>?_|refine j5 13 ?_;refine j2 [] jz3 ?_|apply_assumption -exfalso -symm)
  all_goals first
   |((refine j0 (j6 ?_))
     rw[hi,hd]
     simp only[oneOf, *,Bool.not_true,Bool.true_and,Bool.and_false,Bool.false_and]
     done)
   |skip
  refine k9 [2,4,63,64,65,66,67,68,69,70,71,72,73,74,75,76,77,78,79,80] [] (fun j:Nat=>[(4,.d (.int .i64 j))]) (fun _=>[]) (fun j=>j<=k/\((l.take j).any fun w=>decide (w.tag=l[k].tag))=false) (fun j=>k - j) 0 ⟨Nat.zero_le _,rfl⟩ fun j ⟨hj,hij⟩=>?_
  dsimp only[List.cons_append,List.nil_append]
  rcases Nat.lt_or_ge j k with hj2|hj2
  ·have hj3:j<l.length:=by omega
   (repeat' first|refine yyp ?_;try refine s_bu ?_ ?_<;>intro hb|refine yy ?_|refine yy2 ?_ ?_<;>intro hcmp|refine at_nil ?_;refine z_nil qo31_0 ?_|refine tc_seq fun K hK=>?_|refine j5 13 ?_;refine j2 [] jz3 ?_|apply_assumption -exfalso -symm)
   all_goals first
    |(refine⟨j+1,⟨by omega,?_⟩,by omega,v7⟩
      rw[<-jj8 l j hj3,List.any_append,hij]
      simp[*]
      done)
    |((refine j0 (j6 ?_))
      rw[hi,hd]
      have:((l.take k).any fun w=>decide (w.tag=l[k].tag))=true:=List.any_eq_true.2 ⟨l[j],List.mem_take_iff_getElem.2 ⟨j,by omega,rfl⟩,by simpa using hcmp⟩
      simp[oneOf,this]
      done)
  ·obtain rfl:j=k:=by omega
   (repeat' first|refine yyp ?_;try refine s_bu ?_ ?_<;>intro hb|refine yy ?_|refine at_nil ?_;refine z_nil qo31_0 ?_|refine tc_seq fun K hK=>?_|refine j5 13 ?_;refine j2 [] jz3 ?_|apply_assumption -exfalso -symm)
   refine⟨j+1,⟨by omega,?_⟩,by omega,v7⟩
   rw[hi]
   simp only[*,Bool.not_false,Bool.true_and]
 ·rw[List.drop_of_length_le hk2]at hi
  (repeat' first|refine yyp ?_;try refine s_bu ?_ ?_<;>intro hb|refine yy ?_|refine at_nil ?_;refine z_nil qo31_0 ?_|refine tc_seq fun K hK=>?_|refine j5 13 ?_;refine j2 [] jz3 ?_|apply_assumption -exfalso -symm)
  (refine j0 (j6 ?_))
  rw[hi,hd]
  rfl
theorem mm2 (gl:List (Nat × List D))(p:Pt):FnD prog gl 168 [.d (dPt p)] (fun v=>v=.d (.bool (Lx.ptMay p))):=by
 obtain⟨c,l⟩:=p
 cases c with
 |false=>exact mc9 gl l
 |true=>exact md0 gl l
end
end Go.Proofs.YtdopmfifmgkmoaaGreatDoor
