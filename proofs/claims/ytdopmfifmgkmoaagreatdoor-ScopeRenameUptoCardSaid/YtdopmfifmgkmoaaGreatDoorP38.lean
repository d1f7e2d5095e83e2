/- Parts: O31. -/
import Derived.Test.YtdopmfifmgkmoaaGreatDoorP35
set_option linter.all false
set_option maxRecDepth 100000
set_option maxHeartbeats 16000000
namespace Go.Proofs.YtdopmfifmgkmoaaGreatDoor
open Go.RowKit Go.Proofs.Tryz
section
def Qg:List Nat:=[0,1,2,3,4,5,6,7,37,42,62,65,80]
def kb3:Plan:=lin [0,8,24,32,5,12,16,21,29,36,40,45,48]
attribute [local irreducible] TR TC
theorem mg9 (gl:List (Nat × List D))(l:List Va):FnD prog gl 168 [.d (dPt ⟨false,l⟩)] (fun v=>v=.d (.bool (Lx.Ny ⟨false,l⟩))):=by
 unfold dPt Lx.Ny;dsimp only
 match l with
 |[]=>
  (refine j3 func168 ntmps168 results168 fun w M=>?_)
  (repeat' first|refine Ca 1 ?_;(refine j6 1 ?_)|refine yyp ?_;try refine Cc ?_ ?_<;>intro hb|refine yy ?_|refine yy2 ?_ ?_<;>intro hcmp|refine at_nil ?_;refine Ce Qg ?_|refine Cb fun K hK=>?_|refine Ck 13 ?_;refine j1 [] kb3 ?_|apply_assumption -exfalso -symm)
  all_goals try simp only[Ez]at hcmp
  ((all_goals try contradiction);(all_goals try (exfalso;(repeat (rename (∀ S:Sd,TC _ _ _ S->_)=>hX;clear hX));simp only[Ai,Aq,Aa]at * <;>omega)))
  all_goals
   (refine j0 (j5 ?_))
   rfl
 |[v]=>
  have hv:(dVa v)=.agg [.str v.tag,.list 1 (v.items.map (.int .u8))]:=rfl;have hit:=kn0 gl v.items 1
  (refine j3 func168 ntmps168 results168 fun w M=>?_)
  (repeat' first|refine Ca 1 ?_;(refine j6 1 ?_)|refine yyp ?_;try refine Cc ?_ ?_<;>intro hb|refine yy ?_|refine yy2 ?_ ?_<;>intro hcmp|refine Cf 197 ?_;refine Cg (hc:=hit) ?_;try refine Cc ?_ ?_<;>intro hb|refine at_nil ?_;refine Ce Qg ?_|refine Cb fun K hK=>?_|refine Ck 13 ?_;refine j1 [] kb3 ?_|apply_assumption -exfalso -symm)
  all_goals try simp only[Ez]at hcmp
  ((all_goals try contradiction);(all_goals try (exfalso;(repeat (rename (∀ S:Sd,TC _ _ _ S->_)=>hX;clear hX));simp only[Ai,Aq,Aa]at * <;>omega)))
  all_goals
   (refine j0 (j5 ?_))
   simp[oneOf,jf0, *]
 |v::w::r=>
  (refine j3 func168 ntmps168 results168 fun w M=>?_)
  refine k9 0 1 rfl rfl fun hna=>?_;simp only[Aa,Ai]at hna
  (repeat' first|refine Ca 1 ?_;(refine j6 1 ?_)|refine yyp ?_;try refine Cc ?_ ?_<;>intro hb|refine yy ?_|refine yy2 ?_ ?_<;>intro hcmp|refine at_nil ?_;refine Ce Qg ?_|refine Cb fun K hK=>?_|refine Ck 13 ?_;refine j1 [] kb3 ?_|apply_assumption -exfalso -symm)
  all_goals try simp only[Ez]at hcmp
  ((all_goals try contradiction);(all_goals try (exfalso;(repeat (rename (∀ S:Sd,TC _ _ _ S->_)=>hX;clear hX));simp only[Ai,Aq,Aa]at * <;>omega)))
  all_goals
   (refine j0 (j5 ?_))
   rfl
theorem mh0 (gl:List (Nat × List D))(l:List Va):FnD prog gl 168 [.d (dPt ⟨true,l⟩)] (fun v=>v=.d (.bool (Lx.Ny ⟨true,l⟩))):=by
 unfold dPt Lx.Ny;dsimp only;rw[Ae rfl]
 (refine j3 func168 ntmps168 results168 fun w M=>?_)
 (repeat' first|refine Ca 1 ?_;(refine j6 1 ?_)|refine yyp ?_;try refine Cc ?_ ?_<;>intro hb|refine yy ?_|refine yy2 ?_ ?_<;>intro hcmp|refine at_nil ?_;refine Ce Qg ?_|refine Cb fun K hK=>?_|refine Ck 13 ?_;refine j1 [] kb3 ?_|apply_assumption -exfalso -symm)
 ·(refine j0 (j5 ?_))
  rw[Bq (by omega)];rfl
 ·(refine j0 (j5 ?_))
  rw[Bq (by omega)];rfl
 have hd:decide (1<=l.length/\l.length<=16)=true:=Bt (by omega);refine j8 [2,3,4,38,39,40,41,42,43,44,45,46,47,48,49,50,51,52,53,54,55,56,57,58,59,60,61,62,63,64,65,66,67,68,69,70,71,72,73,74,75,76,77,78,79,80] [] (fun k:Nat=>[(3,.d (.int .i64 k))]) (fun _=>[]) (fun k=>k<=l.length/\Lx.Ol [] l=Lx.Ol (l.take k) (l.drop k)) (fun k=>l.length - k) 0 ⟨by omega,rfl⟩ fun k ⟨hk,hi⟩=>?_;dsimp only[Ac,Ad];rcases Ah k l.length with hk2|hk2
 ·rw[Bd hk2,ky5,ja3 l k hk2]at hi;have hit:=kn0 gl l[k].items 0;have hnm:=y3 gl l[k].tag
  (repeat' first|refine yyp ?_;try refine Cc ?_ ?_<;>intro hb|refine yy ?_|refine Cf 197 ?_;refine Cg (hc:=hit) ?_;try refine Cc ?_ ?_<;>intro hb|refine Cf 130 ?_;refine Cg (hc:=hnm) ?_;try refine Cc ?_ ?_<;>intro hb|refine at_nil ?_;refine Ce Qg ?_|refine Cb fun K hK=>?_|refine Ck 13 ?_;refine j1 [] kb3 ?_|apply_assumption -exfalso -symm)
  all_goals first
   |((refine j0 (j5 ?_))
     rw[hi,hd];simp only[oneOf, *,Bool.not_true,Bc,Az,Av]
     done)
   |skip
  refine j8 [2,4,63,64,65,66,67,68,69,70,71,72,73,74,75,76,77,78,79,80] [] (fun j:Nat=>[(4,.d (.int .i64 j))]) (fun _=>[]) (fun j=>j<=k/\((l.take j).any fun w=>decide (w.tag=l[k].tag))=false) (fun j=>k - j) 0 ⟨Ak _,rfl⟩ fun j ⟨hj,hij⟩=>?_;dsimp only[Ac,Ad];rcases Ah j k with hj2|hj2
  ·have hj3:j<l.length:=by omega
   (repeat' first|refine yyp ?_;try refine Cc ?_ ?_<;>intro hb|refine yy ?_|refine yy2 ?_ ?_<;>intro hcmp|refine at_nil ?_;refine Ce Qg ?_|refine Cb fun K hK=>?_|refine Ck 13 ?_;refine j1 [] kb3 ?_|apply_assumption -exfalso -symm)
   all_goals first
    |(refine⟨j+1,⟨by omega,?_⟩,by omega,v6⟩
      rw[<-ja3 l j hj3,List.any_append,hij];simp[*]
      done)
    |((refine j0 (j5 ?_))
      rw[hi,hd];have:((l.take k).any fun w=>decide (w.tag=l[k].tag))=true:=Eo.2 ⟨l[j],List.mem_take_iff_getElem.2 ⟨j,by omega,rfl⟩,by simpa using hcmp⟩;simp[oneOf,this]
      done)
  ·obtain rfl:j=k:=by omega
   (repeat' first|refine yyp ?_;try refine Cc ?_ ?_<;>intro hb|refine yy ?_|refine at_nil ?_;refine Ce Qg ?_|refine Cb fun K hK=>?_|refine Ck 13 ?_;refine j1 [] kb3 ?_|apply_assumption -exfalso -symm)
   refine⟨j+1,⟨by omega,?_⟩,by omega,v6⟩;rw[hi];simp only[*,Bool.not_false,Bc]
 ·rw[Br hk2]at hi
  (repeat' first|refine yyp ?_;try refine Cc ?_ ?_<;>intro hb|refine yy ?_|refine at_nil ?_;refine Ce Qg ?_|refine Cb fun K hK=>?_|refine Ck 13 ?_;refine j1 [] kb3 ?_|apply_assumption -exfalso -symm)
  (refine j0 (j5 ?_))
  rw[hi,hd];rfl
theorem mr4 (gl:List (Nat × List D))(p:Pt):FnD prog gl 168 [.d (dPt p)] (fun v=>v=.d (.bool (Lx.Ny p))):=by
 obtain⟨c,l⟩:=p;cases c with
 |false=>exact mg9 gl l
 |true=>exact mh0 gl l
end
end Go.Proofs.YtdopmfifmgkmoaaGreatDoor
