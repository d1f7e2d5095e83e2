/- Parts: N17F. -/
import Derived.Test.YtjhbglklcddekaaGreatDoorV21
set_option linter.all false
set_option maxRecDepth 100000
set_option maxHeartbeats 16000000
namespace Go.Proofs.YtjhbglklcddekaaGreatDoor
open Go.RowKit Go.Proofs.Tryz
section
def qn17f_0 : List Nat := [0, 2, 4, 5, 6, 13, 18, 33, 34, 35, 36, 45]
def qn17f_1 : List Nat := [0, 2, 3, 4, 5, 6, 11, 35, 42, 53, 83]
def qn17f_2 : Plan := lin [0, 4, 8, 12, 16, 24, 28, 36, 40, 44, 48, 21, 32, 53, 56, 61, 67]
def qn17f_3 : Plan := lin [0, 4, 8, 12, 24, 28, 32, 36, 17, 20, 41, 46, 48]
def qn17f_4 : Plan := lin [0, 4, 8, 16, 20, 13, 26, 30, 32, 36, 40, 44, 48]
open Go.RowKit Nd
attribute [local irreducible] TR TC
theorem step_poke (gl : List (Nat × List D)) (k : Nat) (hk : k < 4) (mem : List UInt8) (l : Lk) (l' : Lk) (a0 a1 a2 a3 v0 v1 v2 b : UInt8) (ht : l.take = some (l', b)) (hok : l.wire.ok) (hm : mem.length = 1024) :
    FnE prog gl 18 [.ptr 900 0] (NH ⟨k, [0, a0, a1, a2, a3, v0, v1, v2], [], mem, at4 k l, none⟩) (fun v H1 => v = .d (.list 0 []) ∧ H1 = NH ⟨(-1), [], [], (setWord mem (num4 [a0, a1, a2, a3, v0, v1, v2, b]) (num4 [v0, v1, v2, b])), at4 k l', none⟩) := by
  have c0 := nnone_fn gl k hk k [0, a0, a1, a2, a3, v0, v1, v2] [] mem l none
  have cT := take_yes gl k hk k [0, a0, a1, a2, a3, v0, v1, v2] [] mem none l l' b ht hok
  have cI := cT
  have cS := cT
  have cN1 := number_fn gl [a0, a1, a2, a3, v0, v1, v2, b] (by simp)
  have cN2 := number_fn gl [v0, v1, v2, b] (by simp)
  have cM := setWord_any gl mem (num4 [a0, a1, a2, a3, v0, v1, v2, b]) (num4 [v0, v1, v2, b]) (num4_lt _) (num4_lt _) hm
  rcases four_k hk with rfl | rfl | rfl | rfl
  all_goals
    (refine y_entere func18 ntmps18 results18 fun w M E b0 => ?_)
    (repeat' first | refine yyp ?_; try refine s_bu ?_ ?_ <;> intro hb | refine yy ?_ | refine at_nil ?_; refine z_nil qn17f_0 ?_ | refine tc_seq fun K hK => ?_ | apply_assumption -exfalso -symm)
    refine tc_scope rfl ?_
    ((repeat' first | refine tr_at 6 ?_; refine y_callE (hc := c0) ?_; try refine s_bu ?_ ?_ <;> intro hb | refine tr_at 20 ?_; (refine tr_keep [0, 2, 4, 5, 6, 13, 18, 19, 33, 34, 35, 36, 45] ?_); refine y_inline func53 ntmps53 results53 fun tm sy => ?_; simp only [slots, shift, zipPs, List.nil_append, List.cons_append, List.append_nil, List.map_cons, List.map_nil, List.zipIdx_cons, List.zipIdx_nil, Nat.reduceAdd]; refine halt ?_ | refine yyp ?_; try refine s_bu ?_ ?_ <;> intro hb | refine yy ?_ | refine yyr ?_; try refine s_bu ?_ ?_ <;> intro hb | refine at_nil ?_; refine z_nil qn17f_0 ?_ | refine tc_seq fun K hK => ?_ | apply_assumption -exfalso -symm); all_goals try refine unhalt ?_)
    ((repeat' first | refine tr_at 49 ?_; refine y_callE (hc := cT) ?_ | refine tc_at 8 ?_; refine halt ?_ | refine yyp ?_; try refine s_bu ?_ ?_ <;> intro hb | refine yy ?_ | refine yyr ?_; try refine s_bu ?_ ?_ <;> intro hb | refine yyc ?_ | refine at_nil ?_; refine z_nil qn17f_1 ?_ | refine tc_seq fun K hK => ?_ | refine tc_at 1 ?_; refine z_draw [16] qn17f_2 ?_ | refine tc_at 10 ?_; refine z_draw [] qn17f_3 ?_ | apply_assumption -exfalso -symm); all_goals try refine unhalt ?_)
    all_goals try (exfalso; simp only [List.length_cons, List.length_nil, dBs_len] at hcmp; omega)
    refine tc_wk (wk_hbox_out (n := 900) (q := 902) rfl rfl) ?_
    simp only [nodeC, coreD, four_links0, four_links1, four_links2, four_links3, lkD, seD, dSe, lk0, se0, num, dBs_cons, dBs_nil, dB_zero, dB_one, bD_none, bD_some, Option.isSome_none, Option.isSome_some, Option.isNone_none, Option.isNone_some, List.length_nil, List.map_append, List.map_cons, List.map_nil, List.cons_append, List.nil_append, List.append_assoc, List.set_cons_succ, List.set_cons_zero]
    ((repeat' first | refine tr_at 66 ?_; (refine z_lit 2066 ?_) | refine tr_at 82 ?_; refine y_callE (hc := (by have c := whole_fn gl 0 [dB a0, dB a1, dB a2, dB a3, dB v0, dB v1, dB v2, dB b] kv; rw [dB_zero] at c; exact c)) ?_ | refine tr_at 90 ?_; (refine tr_keep [0, 2, 3, 4, 5, 6, 11, 35, 42, 53, 83, 84, 89] ?_); refine y_inline func81 ntmps81 results81 fun tm sy => ?_; simp only [slots, shift, zipPs, List.nil_append, List.cons_append, List.append_nil, List.map_cons, List.map_nil, List.zipIdx_cons, List.zipIdx_nil, Nat.reduceAdd]; refine halt ?_ | refine yyp ?_; try refine s_bu ?_ ?_ <;> intro hb | refine yy ?_ | refine yy2 ?_ ?_ <;> intro hcmp | (refine at_append ?_; first | (refine z_append (fun kv => ?_)) | (refine z_append_suf (fun sx sp kv hsx hsp hsl => ?_))) | refine at_nil ?_; refine z_nil qn17f_1 ?_ | refine tr_mid ?_ ?_ | (apply tc_mid (x := .region 10 _ _); focus ((refine tc_at 10 ?_; refine z_draw [11] (linT [0, 4, 8, 12, 24, 28, 32, 36, 41] (.mid 4 (lin [20, 47, 48]) 11 (lin [17, 20, 48]))) ?_); (repeat' (first | refine tr_at 82 ?_; refine y_callE (hc := (by have c := whole_fn gl 0 [dB a0, dB a1, dB a2, dB a3, dB v0, dB v1, dB v2, dB b] kv; rw [dB_zero] at c; exact c)) ?_ | refine yyp ?_ | refine yy2 ?_ ?_ <;> intro hcmp | refine at_nil ?_; refine z_nil qn17f_1 ?_ | refine tr_mid ?_ ?_)); (all_goals first | exact Wk.refl _ _ | exact y_wk); done)) | refine tc_seq fun K hK => ?_ | refine tc_at 1 ?_; refine z_draw [16] qn17f_2 ?_ | refine tc_at 10 ?_; refine z_draw [11] (linT [0, 4, 8, 12, 24, 28, 32, 36, 41] (.mid 4 (lin [20, 47, 48]) 11 (lin [17, 20, 48]))) ?_ | apply_assumption -exfalso -symm); all_goals try refine unhalt ?_)
    all_goals try (exfalso; apply hcmp; rfl)
    all_goals
      ((repeat' first | refine tc_at 9 ?_; refine halt ?_ | refine yyp ?_; try refine s_bu ?_ ?_ <;> intro hb | refine yy ?_ | refine at_nil ?_; refine z_nil [0, 1, 4, 5, 6, 7, 12, 65, 82] ?_ | refine tc_seq fun K hK => ?_ | refine tc_at 12 ?_; refine z_draw [] qn17f_4 ?_ | refine tc_at 2 ?_; refine z_draw [] (lin [0, 4, 8, 16, 20, 13, 26]) ?_ | apply_assumption -exfalso -symm); all_goals try refine unhalt ?_)
      refine tc_share 902 rfl ?_
      refine tc_wk (wk_slot 1 rfl (ToD.own rfl)) ?_
      (repeat' first | refine tr_at 77 ?_; refine y_callE (hc := cM) ?_ | refine yyp ?_; try refine s_bu ?_ ?_ <;> intro hb | refine yy ?_ | refine at_call 102 ?_; refine y_call (hc := (by first | exact cN1 | exact cN2)) ?_ | refine at_nil ?_; refine z_nil [0, 1, 4, 5, 6, 7, 12, 65, 82] ?_ | refine tc_seq fun K hK => ?_ | refine tc_at 9 ?_; refine z_draw [10] (lin [0, 4, 8, 16, 20, 28, 32, 13, 26, 38, 43]) ?_ | refine tc_at 12 ?_; refine z_draw [] qn17f_4 ?_ | refine tc_at 2 ?_; refine z_draw [] (lin [0, 4, 8, 16, 20, 13, 26]) ?_ | apply_assumption -exfalso -symm)
      (refine y_endi ?_)
      (repeat' first | refine at_nil ?_; refine z_nil qn17f_1 ?_ | refine tc_seq fun K hK => ?_ | refine tc_at 1 ?_; refine z_draw [] (lin [0, 4, 8, 12, 16, 24, 28, 36, 40, 44, 48, 21, 32, 53, 56, 61, 66]) ?_ | refine tc_at 10 ?_; refine z_draw [] qn17f_3 ?_ | apply_assumption -exfalso -symm)
      (refine y_endi ?_)
      ((repeat' first | refine tr_at 22 ?_; (refine tr_keep [0, 2, 4, 5, 6, 13, 18, 21, 22, 33, 34, 35, 36, 45] ?_); refine y_inline func52 ntmps52 results52 fun tm sy => ?_; simp only [slots, shift, zipPs, List.nil_append, List.cons_append, List.append_nil, List.map_cons, List.map_nil, List.zipIdx_cons, List.zipIdx_nil, Nat.reduceAdd]; refine halt ?_ | refine yyp ?_; try refine s_bu ?_ ?_ <;> intro hb | refine yy ?_ | refine at_nil ?_; refine z_nil qn17f_0 ?_ | refine tc_seq fun K hK => ?_ | apply_assumption -exfalso -symm); all_goals try refine unhalt ?_)
      (repeat' first | refine yyp ?_; try refine s_bu ?_ ?_ <;> intro hb | refine yy ?_ | refine at_nil ?_; refine z_nil [0, 2, 3, 4, 5, 6] ?_ | refine tc_seq fun K hK => ?_ | apply_assumption -exfalso -symm)
      (refine tc_ret (y_reti ?_))
      (repeat' first | refine yyp ?_; try refine s_bu ?_ ?_ <;> intro hb | refine at_nil ?_; refine z_nil qn17f_0 ?_ | refine tc_seq fun K hK => ?_ | apply_assumption -exfalso -symm)
      refine tc_nilbox 900 905 115 (e := 5) (sz := 1) rfl rfl rfl ?_
      refine tc_wk (wk_unshare 905 rfl) ?_
      refine tc_wk (wk_hbox_in (n := 900) (q := 905) (i := 115) rfl rfl rfl rfl (by (repeat (first | exact Drop.nil | apply Drop.drop rfl | apply Drop.take rfl)); fail_if_success intros) rfl) ?_
      (refine tc_ret (y_rete ⟨?_, rfl⟩))
      rfl
end
end Go.Proofs.YtjhbglklcddekaaGreatDoor
