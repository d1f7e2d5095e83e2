/- What KNames needs. -/
import Derived.Test.YtdopmfifmgkmoaaGreatDoorP6
import Derived.Test.YtdopmfifmgkmoaaGreatDoorP5
import Derived.Test.YtdopmfifmgkmoaaGreatDoorP16
import Derived.Test.YtdopmfifmgkmoaaGreatDoorP15
import Derived.Test.YtdopmfifmgkmoaaGreatDoorProg
import Derived.Test.YtdopmfifmgkmoaaGreatDoorP53
import Derived.Test.YtdopmfifmgkmoaaGreatDoorP43
import Derived.Test.YtdopmfifmgkmoaaGreatDoorP31
import Derived.Test.YtdopmfifmgkmoaaGreatDoorP47
import Derived.Test.YtdopmfifmgkmoaaGreatDoorP41
import Derived.Test.YtdopmfifmgkmoaaGreatDoorP52
import Derived.Test.YtdopmfifmgkmoaaGreatDoorP51
import Derived.Test.YtdopmfifmgkmoaaGreatDoorCards
import Derived.Test.YtdopmfifmgkmoaaGreatDoorTie
import Derived.SevenTiedAt
set_option linter.all false
set_option maxRecDepth 100000
set_option maxHeartbeats 16000000
namespace Go.Proofs.YtdopmfifmgkmoaaGreatDoor
open Go.RowKit Go.Proofs.Tryz
section
section
variable {E:Set}{S:Sd}{dst:Option Tmp}{ty:TypeId}{pos:String}{af:Array Edge}{gd:Option (Nat × Bool)}
variable {xt yt:TypeId}{x y:Operand}{k:IntKind}{p q r:Int}
theorem rd7 (hx:S.ev x=some (.d (.int k p)))(hy:S.ev y=some (.d (.int k q)))(hox:okOp x=true)(hoy:okOp y=true)(h0:0<=p)(h1:1<=q):Swift E S ⟨dst,.binOp .rem xt x y yt,ty,pos,af,gd⟩ (.d (.int k (p % q))):=
 kh8 hx hy hox hoy (by simp) (v:=.int k (p % q)) (fun w=>by
  have h2:¬q=0:=by omega
  have h3:p.tmod q=p % q:=Int.tmod_eq_emod_of_nonneg h0
  simp[binOp,Op.intDiv,h2,h3]) (fun _ _ _ _=>rfl)
end
end
section
section
variable {E:Set}{S:Sd}{dst:Option Tmp}{ty:TypeId}{pos:String}{af:Array Edge}{gd:Option (Nat × Bool)}
theorem qx8 {st dt:TypeId}{x:Operand}{k k':IntKind}{n:Int}[hs:TInt E.P st k][hd:TInt E.P dt k'](hx:S.ev x=some (.d (.int k n)))(hox:okOp x=true)(hin:inK k' n):Swift E S ⟨dst,.convert st dt x,ty,pos,af,gd⟩ (.d (.int k' n)):=Swift.mk fun β a w h=>by
 have h1:a.eval x=.int k n:=h.ev hx hox
 exact⟨.int k' n,fun w' _=>by simp[execOp,h1,convert,run_underlying (ju7 hs),run_underlying (ju7 hd),Conv.intToInt,md6 hin],rfl⟩
end
end
section
instance:TInt prog 3 .i64:=⟨by kernel_rfl⟩
instance:TInt prog 5 .u8:=⟨by kernel_rfl⟩
end
section
open Go.ChangeShapes Go.WideShapes Go.ChangeAt Go.RowKit
theorem qx9 {H:Type}{enc:TypeId × Value->H}{w:World}{v:Value}{d:DataW H}{ps:List MemPlace}{t:TypeId}{b0:Nat}{sp:Nat->Bool}{hd:Bool}(ht:prog.underlying t=some (.int .u8))
 (hv:Value.okWide prog w .any b0 t v) (h:DataW.Trod enc prog w 0 sp hd t v d ps):∃ e:Int,RepD w NoM (.int .u8 e) v/\0<=e/\e<=255:=by
 obtain⟨i,rfl,_⟩:=open_int ht hv h
 obtain⟨f,hf⟩:=h
 obtain⟨n,e1,_,hw⟩:=DataW.trod_int ht hf
 have:i=n:=by simpa [Value.cells]using e1
 subst this
 exact⟨i,rfl,qv6 hw⟩
end
section
namespace Sc
variable {ds:List ByteArray}
theorem ks7 (ns:List ByteArray)(t:ByteArray)(ht:t∉ns):∀ ev:List (ByteArray × Bool),(∀ s,(s,false)∈ev->s=t\/s∈ns)->(t,false)∈ev->firstEv ns ev=(t,120)\/∃ s,firstEv ns ev=(s,121)
 |[],_,h=>by cases h
 |(x,true)::l,_,_=>.inr ⟨x,by simp[firstEv]⟩
 |(x,false)::l,h,hm=>by
  by_cases hx:x∈ns
  ·simp only[firstEv,any_isB.2 hx,if_true,Bool.false_eq_true,if_false]
   refine ks7 ns t ht l (fun s hs=>h s (List.mem_cons_of_mem _ hs)) ?_
   rcases List.mem_cons.1 hm with e|e
   ·cases e
    exact absurd hx ht
   ·exact e
  ·have hx2:ns.any (isB x)=false:=by
    cases he:ns.any (isB x) with
    |false=>rfl
    |true=>exact absurd (any_isB.1 he) hx
   have:=(h x List.mem_cons_self).resolve_right hx
   subst this
   left
   simp[firstEv,hx2]
theorem check_but {p:Pr}(k:Nat)(hk:k<(freeOf p).length):checkOf p ((freeOf p).take k++(freeOf p).drop (k+1))=((freeOf p)[k],120)\/∃ s,checkOf p ((freeOf p).take k++(freeOf p).drop (k+1))=(s,121):=by
 have hs:SortU (freeOf p):=once_sorted _
 have hl:freeOf p=(freeOf p).take k++(freeOf p)[k]::(freeOf p).drop (k+1):=by
  rw[<-List.drop_eq_getElem_cons hk,List.take_append_drop]
 unfold checkOf
 refine ks7 _ _ ?_ _ (fun s h=>?_) (kb0.1 (List.getElem_mem hk))
 ·intro hm
  unfold SortU at hs
  rw[hl,List.pairwise_append]at hs
  rcases List.mem_append.1 hm with hm|hm
  ·have:=hs.2.2 _ hm _ List.mem_cons_self
   rw[kw8]at this
   cases this
  ·have:=(List.pairwise_cons.1 hs.2.1).1 _ hm
   rw[kw8]at this
   cases this
 ·have:=kb0.2 h
  rw[hl]at this
  simp only[List.mem_append,List.mem_cons]at this ⊢
  rcases this with h1|h1|h1
  ·exact .inr (.inl h1)
  ·exact .inl h1
  ·exact .inr (.inr h1)
end Sc
end
section
def ql6_0:List Nat:=[0,1,2,4,5,6,7,8,9,10,11,13,21,55,59,71,74]
def mj0:Plan:=lin [0,4,8,12,20,24,28,17,33,36]
variable {mm:Int}
section
variable {E:Set}{S:Sd}{dst:Option Tmp}{ty:TypeId}{pos:String}{af:Array Edge}{gd:Option (Nat × Bool)}
theorem mo5 {xt yt:TypeId}{x y:Operand}{s t:ByteArray}(hx:S.ev x=some (.d (.str s)))(hy:S.ev y=some (.d (.str t)))(hox:okOp x=true)(hoy:okOp y=true):
 Swift E S ⟨dst,.binOp .geq xt x y yt,ty,pos,af,gd⟩ (.d (.bool (!Sc.bL s t))):=Swift.mk fun β a w h=>by
 have h1:a.eval x=.string s:=h.ev hx hox
 have h2:a.eval y=.string t:=h.ev hy hoy
 refine⟨.bool (!Sc.bL s t),fun w' _=>?_,rfl⟩
 simp[execOp,h1,h2,eqGuard,binOp,Op.stringOp,Sc.bL,ByteArray.toList_eq]
end
theorem mo6 {l:List ByteArray}(h:Sc.SortU l)(i:Nat)(hi:i+1<l.length):Sc.bL (l[i]'(by omega)) l[i+1]=true:=List.pairwise_iff_getElem.1 h i (i+1) (by omega) hi (by omega)
theorem mo7 {α β:Type}(f:α->β)(l:List α)(n:Nat):((l.map f).drop n).take ((l.map f).length - n)=(l.drop n).map f:=by
 rw[List.take_of_length_le (by simp),List.map_drop]
theorem qd5 {p:Pr}(h:Lx.prMay p=true):(Sc.freeOf p).length<=184400000:=by
 obtain⟨h1,h2⟩:=Sc.may_all h
 have h3:=Sc.pr_size p h1
 have hg:=(Sc.grow_pr p (Sc.start [])).ev
 have hlen:=Sc.freeEv_len (Sc.prOf (Sc.start []) p).2.ev
 have ho:=Sc.once_len (Sc.freeEv (Sc.prOf (Sc.start []) p).2.ev)
 have hs:(Sc.start []).ev.length=0:=rfl
 unfold Sc.freeOf
 omega
theorem ks8 (p:Pr)(hk:Lx.kPr p)(n:Int)(hm:150<IntKind.i64.wrap (Sc.sizePr p)\/¬Lx.prMay p=true):FnD prog (glS mm) 7 [.d (dPr p),.d (.int .u8 n)] (fun v=>v=.d (.bool true)):=by
 have hh:=kr6 (mm:=mm)
 have c1:=kb2 (glS mm) p
 have c2:=kn0 (glS mm) p hk
 have c3:=jp2 (mm:=mm) p
 rw[x5]at c1 c2 c3 ⊢
 by_cases hl:150<IntKind.i64.wrap (Sc.sizePr p)
 ·rw[decide_eq_true hl]at c1
  (refine j4 func7 ntmps7 results7 fun w M=>?_)
  (repeat' first|refine tr_at 2 ?_;(refine k7 2 ?_)|refine yyp ?_;try refine s_bu ?_ ?_<;>intro hb|refine yy ?_|refine at_call 10 ?_;refine y_call (hc:=(by exact c1)) ?_;try refine s_bu ?_ ?_<;>intro hb|refine at_call 11 ?_;refine y_call (hc:=(by exact hh)) ?_;try refine s_bu ?_ ?_<;>intro hb|refine at_nil ?_;refine z_nil ql6_0 ?_|refine tc_seq fun K hK=>?_|refine j5 12 ?_;refine j2 [] mj0 ?_|apply_assumption -exfalso -symm)
  (refine j0 (j6 ?_))
  rfl
 ·have hm:=hm.resolve_left hl
  rw[decide_eq_false hl]at c1
  rw[if_neg hm,if_neg hm]at c3
  rw[show Lx.prMay p=false by simpa using hm]at c2
  (refine j4 func7 ntmps7 results7 fun w M=>?_)
  (repeat' first|refine tr_at 2 ?_;(refine k7 2 ?_)|refine tr_at 24 ?_;(first|refine yyp ?_;try refine s_bu ?_ ?_<;>intro hb|refine yy2 ?_ ?_<;>intro hcmp);all_goals try refine z_sh false 24 4 ql6_0 ?_|refine tr_at 29 ?_;(first|refine yyp ?_;try refine s_bu ?_ ?_<;>intro hb|refine yy2 ?_ ?_<;>intro hcmp);all_goals try refine z_sh false 29 4 ql6_0 ?_|refine yyp ?_;try refine s_bu ?_ ?_<;>intro hb|refine yy ?_|refine at_call 10 ?_;refine y_call (hc:=(by exact c1)) ?_;try refine s_bu ?_ ?_<;>intro hb|refine at_call 11 ?_;refine y_call (hc:=(by exact hh)) ?_;try refine s_bu ?_ ?_<;>intro hb|refine at_call 12 ?_;refine y_call (hc:=(by exact c3)) ?_|refine at_call 22 ?_;refine y_call (hc:=(by exact c2)) ?_;try refine s_bu ?_ ?_<;>intro hb|refine at_nil ?_;refine z_nil ql6_0 ?_|refine tc_seq fun K hK=>?_|refine j5 12 ?_;refine j2 [] mj0 ?_|apply_assumption -exfalso -symm)
  all_goals
   (refine j0 (j6 ?_))
   first
    |rfl
    |(exfalso;simp at hcmp)
attribute [local irreducible] TR TC
theorem mo8 (p:Pr)(n:Int)(hl:¬150<IntKind.i64.wrap (Sc.sizePr p))(hm:Lx.prMay p=true)(hn:0<=n/\n<=255):FnD prog (glS mm) 7 [.d (dPr p),.d (.int .u8 n)] (fun v=>v=.d (.bool true)):=by
 have hh:=kr6 (mm:=mm)
 have c1:=kb2 (glS mm) p
 have c3:=jp2 (mm:=mm) p
 have c4:=jn4 (mm:=mm) p (Sc.freeOf p)
 have c5:=fun ns=>jn4 (mm:=mm) p ns
 have hs:Sc.SortU (Sc.freeOf p):=Sc.once_sorted _
 have hbut:=Sc.check_but (p:=p)
 have hfull:=Sc.check_full hm
 have hfl:=qd5 hm
 rw[decide_eq_false hl]at c1
 simp only[hm,if_true]at c3 c4 c5
 rw[x5]at c1 c3 c4 c5 ⊢
 generalize Sc.freeOf p=fr at *
 rcases hfull with hf|⟨s,hsn,hf⟩
 all_goals rw[hf]at c4
 all_goals as_aux_lemma=>
  (refine j4 func7 ntmps7 results7 fun w M=>?_)
  (repeat' first|refine tr_at 2 ?_;(refine k7 2 ?_)|refine tr_at 48 ?_;(first|refine yyp ?_;try refine s_bu ?_ ?_<;>intro hb|refine yy2 ?_ ?_<;>intro hcmp);all_goals try refine z_sh true 48 55 ql6_0 ?_|refine yyp ?_;try refine s_bu ?_ ?_<;>intro hb|refine yy ?_|refine yy2 ?_ ?_<;>intro hcmp|refine at_call 10 ?_;refine y_call (hc:=(by exact c1)) ?_;try refine s_bu ?_ ?_<;>intro hb|refine at_call 12 ?_;refine y_call (hc:=(by exact c3)) ?_|refine at_call 15 ?_;refine y_call (hc:=(by exact c4)) ?_|refine at_nil ?_;refine z_nil ql6_0 ?_|refine tc_seq fun K hK=>?_|refine j5 12 ?_;refine j2 [] mj0 ?_|apply_assumption -exfalso -symm)
  all_goals first
   |((refine j0 (j6 ?_))
     first
      |contradiction
      |(exfalso;exact hsn (by assumption)))
   |skip
  refine r7 5 rfl fun hsm=>?_
  simp only[List.length_map]at hsm
  refine k9 [4,9,56,57,58,59,60,61,62,63,64,65,66,67,68,69,70,71] [] (fun j:Nat=>[(9,.d (.int .i64 (j+1:Nat)))]) (fun _=>[]) (fun j=>j<=fr.length) (fun j=>fr.length - j) 0 (Nat.zero_le _) fun j hj=>?_
  dsimp only[List.cons_append,List.nil_append]
  rcases Nat.lt_or_ge (j+1) fr.length with hj2|hj2
  ·have hlt:=mo6 hs j hj2
   have hjj:(((j+1:Nat):Int) - 1).toNat=j:=by omega
   (repeat' first|refine tr_at 71 ?_;(refine z_p (mo5 rfl rfl rfl rfl) ?_;simp only[hjj,hlt,Bool.not_true])|refine yyp ?_;try refine s_bu ?_ ?_<;>intro hb|refine yy ?_|refine at_nil ?_;refine z_nil ql6_0 ?_|refine tc_seq fun K hK=>?_|refine j5 12 ?_;refine j2 [] mj0 ?_|apply_assumption -exfalso -symm)
   refine⟨j+1,by omega,by omega,v7⟩
  ·clear c4
   ((repeat' first|refine j5 18 ?_;refine halt ?_|refine yyp ?_;try refine s_bu ?_ ?_<;>intro hb|refine yy ?_|refine yy2 ?_ ?_<;>intro hcmp|refine at_call 11 ?_;refine y_call (hc:=(by exact hh)) ?_;try refine s_bu ?_ ?_<;>intro hb|refine at_nil ?_;refine z_nil ql6_0 ?_|refine tc_seq fun K hK=>?_|refine j5 12 ?_;refine j2 [] mj0 ?_|apply_assumption -exfalso -symm);all_goals try refine unhalt ?_)
   all_goals first
    |((refine j0 (j6 ?_))
      rfl)
    |skip
   have hpos:0<fr.length:=by omega
   obtain⟨k,hk,hkl⟩:∃ k:Nat,n % (fr.length:Int)=k/\k<fr.length:=⟨(n % (fr.length:Int)).toNat,by have:=Int.emod_nonneg n (b:=fr.length) (by omega);omega,by have:=Int.emod_lt_of_pos n (b:=fr.length) (by omega);omega⟩
   rw[hk]
   refine kn3 (t:=11) (e:=9) (sz:=1) rfl rfl ?_
   have hb:=hbut k hkl
   have c6:=c5 (fr.take k++fr.drop (k+1))
   rw[List.map_append]at c6
   rcases hb with hb|⟨u,hb⟩
   all_goals rw[hb]at c6
   all_goals
    (repeat' first|refine tr_at 84 ?_;(refine z_p ko4 ?_;simp only[kd8])|refine tr_at 90 ?_;(refine z_p ko4 ?_;simp only[mo7])|refine tr_at 112 ?_;(first|refine yyp ?_;try refine s_bu ?_ ?_<;>intro hb|refine yy2 ?_ ?_<;>intro hcmp);all_goals try refine z_sh false 112 4 ql6_0 ?_|refine yyp ?_;try refine s_bu ?_ ?_<;>intro hb|refine yy ?_|refine yy2 ?_ ?_<;>intro hcmp|refine at_call 11 ?_;refine y_call (hc:=(by exact hh)) ?_;try refine s_bu ?_ ?_<;>intro hb|refine at_call 15 ?_;refine y_call (hc:=(by exact c6)) ?_|(refine at_append ?_;first|(refine z_append (fun kv=>?_))|(refine z_append_suf (fun sx sp kv hsx hsp hsl=>?_)))|refine at_nil ?_;refine z_nil ql6_0 ?_|refine tc_seq fun K hK=>?_|refine j5 12 ?_;refine j2 [] mj0 ?_|apply_assumption -exfalso -symm)
    all_goals
     (refine j0 (j6 ?_))
     first
      |rfl
      |(exfalso;exact absurd rfl (by assumption))
      |(exfalso;simp_all)
theorem qd6 (p:Pr)(hk:Lx.kPr p)(n:Int)(hn:0<=n/\n<=255):FnD prog (glS mm) 7 [.d (dPr p),.d (.int .u8 n)] (fun v=>v=.d (.bool true)):=by
 by_cases h:150<IntKind.i64.wrap (Sc.sizePr p)
 ·exact ks8 p hk n (.inl h)
 ·by_cases hm:Lx.prMay p=true
  ·exact mo8 p n h hm hn
  ·exact ks8 p hk n (.inr hm)
end
end Go.Proofs.YtdopmfifmgkmoaaGreatDoor
