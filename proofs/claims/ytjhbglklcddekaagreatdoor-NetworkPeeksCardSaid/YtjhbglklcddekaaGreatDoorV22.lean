/- Parts: N17A, N17B, N17C. -/
import Derived.Test.YtjhbglklcddekaaGreatDoorV21
set_option linter.all false
set_option maxRecDepth 100000
set_option maxHeartbeats 16000000
namespace Go.Proofs.YtjhbglklcddekaaGreatDoor
open Go.RowKit Go.Proofs.Tryz
section
def qn17a_0 : List Nat := [0, 2, 4, 5, 6, 13, 18, 33, 34, 35, 36, 45]
open Go.RowKit Nd
attribute [local irreducible] TR TC
theorem step_out (gl : List (Nat × List D)) (k : Nat) (hk : k < 4) (mem : List UInt8) (l : Lk) (buf out : List UInt8) (o : UInt8) (hok : l.wire.ok) :
    FnE prog gl 18 [.ptr 900 0] (NH ⟨k, buf, (o :: out), mem, at4 k l, none⟩) (fun v H1 => v = .d (.list 0 []) ∧ H1 = NH ⟨k, buf, (o :: out), mem, at4 k (l.send o), none⟩) := by
  have c0 := nnone_fn gl k hk k buf (o :: out) mem l none
  have cS := send_any gl k hk k buf (o :: out) mem none l o hok
  have cI := cS
  have cT := cS
  rcases four_k hk with rfl | rfl | rfl | rfl
  all_goals
    (refine y_entere func18 ntmps18 results18 fun w M E b0 => ?_)
    (repeat' first | refine yyp ?_; try refine s_bu ?_ ?_ <;> intro hb | refine yy ?_ | refine at_nil ?_; refine z_nil qn17a_0 ?_ | refine tc_seq fun K hK => ?_ | apply_assumption -exfalso -symm)
    refine tc_scope rfl ?_
    ((repeat' first | refine tr_at 6 ?_; refine y_callE (hc := c0) ?_; try refine s_bu ?_ ?_ <;> intro hb | refine tr_at 20 ?_; (refine tr_keep [0, 2, 4, 5, 6, 13, 18, 19, 33, 34, 35, 36, 45] ?_); refine y_inline func53 ntmps53 results53 fun tm sy => ?_; simp only [slots, shift, zipPs, List.nil_append, List.cons_append, List.append_nil, List.map_cons, List.map_nil, List.zipIdx_cons, List.zipIdx_nil, Nat.reduceAdd]; refine halt ?_ | refine yyp ?_; try refine s_bu ?_ ?_ <;> intro hb | refine yy ?_ | refine yyr ?_; try refine s_bu ?_ ?_ <;> intro hb | refine at_nil ?_; refine z_nil qn17a_0 ?_ | refine tc_seq fun K hK => ?_ | apply_assumption -exfalso -symm); all_goals try refine unhalt ?_)
    (repeat' first | refine tr_at 28 ?_; refine y_callE (hc := cS) ?_ | refine yyp ?_; try refine s_bu ?_ ?_ <;> intro hb | refine yy ?_ | refine yyr ?_; try refine s_bu ?_ ?_ <;> intro hb | refine yyc ?_ | refine at_nil ?_; refine z_nil [0, 2, 3, 4, 5, 6, 11, 35, 42, 53, 83] ?_ | refine tc_seq fun K hK => ?_ | refine tc_at 1 ?_; refine z_draw [16] (lin [0, 4, 8, 12, 16, 24, 28, 36, 40, 44, 48, 21, 32, 53, 56, 61, 67]) ?_ | refine tc_at 10 ?_; refine z_draw [] (lin [0, 4, 8, 12, 24, 28, 32, 36, 17, 20, 41, 46, 48]) ?_ | apply_assumption -exfalso -symm)
    all_goals try (exfalso; simp only [List.length_cons, List.length_nil, dBs_len] at hcmp; omega)
    (refine tc_ret (y_reti ?_))
    ((repeat' first | refine tc_at 5 ?_; refine halt ?_ | refine at_nil ?_; refine z_nil qn17a_0 ?_ | refine tc_seq fun K hK => ?_ | apply_assumption -exfalso -symm); all_goals try refine unhalt ?_)
    refine tc_wk (wk_hbox_out (n := 900) (q := 902) rfl rfl) ?_
    simp only [nodeC, coreD, four_links0, four_links1, four_links2, four_links3, lkD, seD, dSe, lk0, se0, num, dBs_cons, dBs_nil, dB_zero, dB_one, bD_none, bD_some, Option.isSome_none, Option.isSome_some, Option.isNone_none, Option.isNone_some, List.length_nil, List.map_append, List.map_cons, List.map_nil, List.cons_append, List.nil_append, List.append_assoc, List.set_cons_succ, List.set_cons_zero]
    ((repeat' first | refine tr_at 22 ?_; (refine tr_keep [0, 2, 4, 5, 6, 13, 18, 21, 22, 33, 34, 35, 36, 45] ?_); refine y_inline func52 ntmps52 results52 fun tm sy => ?_; simp only [slots, shift, zipPs, List.nil_append, List.cons_append, List.append_nil, List.map_cons, List.map_nil, List.zipIdx_cons, List.zipIdx_nil, Nat.reduceAdd]; refine halt ?_ | refine yyp ?_; try refine s_bu ?_ ?_ <;> intro hb | refine yy ?_ | refine tc_seq fun K hK => ?_ | apply_assumption -exfalso -symm); all_goals try refine unhalt ?_)
    (repeat' first | refine yyp ?_; try refine s_bu ?_ ?_ <;> intro hb | refine yy ?_ | refine at_nil ?_; refine z_nil [0, 2, 3, 4, 5, 6] ?_ | refine tc_seq fun K hK => ?_ | apply_assumption -exfalso -symm)
    (refine tc_ret (y_reti ?_))
    (repeat' first | refine yyp ?_; try refine s_bu ?_ ?_ <;> intro hb | refine at_nil ?_; refine z_nil qn17a_0 ?_ | refine tc_seq fun K hK => ?_ | apply_assumption -exfalso -symm)
    refine tc_wk (wk_hbox_in (n := 900) (q := 902) (i := 115) rfl rfl rfl rfl (by (repeat (first | exact Drop.nil | apply Drop.drop rfl | apply Drop.take rfl)); fail_if_success intros) rfl) ?_
    (refine tc_ret (y_rete ⟨?_, rfl⟩))
    rfl
end
section
def qn17b_0 : List Nat := [0, 2, 4, 5, 6, 13, 18, 33, 34, 35, 36, 45]
open Go.RowKit Nd
attribute [local irreducible] TR TC
theorem step_idle (gl : List (Nat × List D)) (k : Nat) (hk : k < 4) (mem : List UInt8) (l : Lk) (buf : List UInt8) (h : l.inb = none) :
    FnE prog gl 18 [.ptr 900 0] (NH ⟨(-1), buf, [], mem, at4 k l, none⟩) (fun v H1 => v = .d (.list 0 []) ∧ H1 = NH ⟨(-1), buf, [], mem, at4 k l, none⟩) := by
  have c0 := nnone_fn gl k hk (-1) buf [] mem l none
  have cI := index_fn gl k hk (-1) buf [] mem none l.wire l.busy l.inb
  rw [h] at cI
  simp only [Option.isSome_none, Bool.false_eq_true, if_false] at cI
  rw [← h] at cI
  have cS := cI
  have cT := cI
  rcases four_k hk with rfl | rfl | rfl | rfl
  all_goals
    (refine y_entere func18 ntmps18 results18 fun w M E b0 => ?_)
    (repeat' first | refine yyp ?_; try refine s_bu ?_ ?_ <;> intro hb | refine yy ?_ | refine at_nil ?_; refine z_nil qn17b_0 ?_ | refine tc_seq fun K hK => ?_ | apply_assumption -exfalso -symm)
    refine tc_scope rfl ?_
    ((repeat' first | refine tr_at 6 ?_; refine y_callE (hc := c0) ?_; try refine s_bu ?_ ?_ <;> intro hb | refine tr_at 20 ?_; (refine tr_keep [0, 2, 4, 5, 6, 13, 18, 19, 33, 34, 35, 36, 45] ?_); refine y_inline func53 ntmps53 results53 fun tm sy => ?_; simp only [slots, shift, zipPs, List.nil_append, List.cons_append, List.append_nil, List.map_cons, List.map_nil, List.zipIdx_cons, List.zipIdx_nil, Nat.reduceAdd]; refine halt ?_ | refine yyp ?_; try refine s_bu ?_ ?_ <;> intro hb | refine yy ?_ | refine yyr ?_; try refine s_bu ?_ ?_ <;> intro hb | refine at_nil ?_; refine z_nil qn17b_0 ?_ | refine tc_seq fun K hK => ?_ | apply_assumption -exfalso -symm); all_goals try refine unhalt ?_)
    (repeat' first | refine tr_at 40 ?_; refine y_callE (hc := cI) ?_ | refine yyp ?_; try refine s_bu ?_ ?_ <;> intro hb | refine yyq ?_; try refine s_bu ?_ ?_ <;> intro hb | refine yy ?_ | refine yyr ?_; try refine s_bu ?_ ?_ <;> intro hb | refine yyc ?_ | refine at_nil ?_; refine z_nil [0, 2, 3, 4, 5, 6, 11, 35, 42, 53, 83] ?_ | refine tc_seq fun K hK => ?_ | refine tc_at 1 ?_; refine z_draw [16] (lin [0, 4, 8, 12, 16, 24, 28, 36, 40, 44, 48, 21, 32, 53, 56, 61, 67]) ?_ | refine tc_at 10 ?_; refine z_draw [] (lin [0, 4, 8, 12, 24, 28, 32, 36, 17, 20, 41, 46, 48]) ?_ | apply_assumption -exfalso -symm)
    all_goals try (exfalso; simp only [List.length_cons, List.length_nil, dBs_len] at hcmp; omega)
    (refine tc_ret (y_reti ?_))
    ((repeat' first | refine tc_at 5 ?_; refine halt ?_ | refine at_nil ?_; refine z_nil qn17b_0 ?_ | refine tc_seq fun K hK => ?_ | apply_assumption -exfalso -symm); all_goals try refine unhalt ?_)
    refine tc_wk (wk_hbox_out (n := 900) (q := 902) rfl rfl) ?_
    simp only [nodeC, coreD, four_links0, four_links1, four_links2, four_links3, lkD, seD, dSe, lk0, se0, num, dBs_cons, dBs_nil, dB_zero, dB_one, bD_none, bD_some, Option.isSome_none, Option.isSome_some, Option.isNone_none, Option.isNone_some, List.length_nil, List.map_append, List.map_cons, List.map_nil, List.cons_append, List.nil_append, List.append_assoc, List.set_cons_succ, List.set_cons_zero]
    ((repeat' first | refine tr_at 22 ?_; (refine tr_keep [0, 2, 4, 5, 6, 13, 18, 21, 22, 33, 34, 35, 36, 45] ?_); refine y_inline func52 ntmps52 results52 fun tm sy => ?_; simp only [slots, shift, zipPs, List.nil_append, List.cons_append, List.append_nil, List.map_cons, List.map_nil, List.zipIdx_cons, List.zipIdx_nil, Nat.reduceAdd]; refine halt ?_ | refine yyp ?_; try refine s_bu ?_ ?_ <;> intro hb | refine yy ?_ | refine tc_seq fun K hK => ?_ | apply_assumption -exfalso -symm); all_goals try refine unhalt ?_)
    (repeat' first | refine yyp ?_; try refine s_bu ?_ ?_ <;> intro hb | refine yy ?_ | refine at_nil ?_; refine z_nil [0, 2, 3, 4, 5, 6] ?_ | refine tc_seq fun K hK => ?_ | apply_assumption -exfalso -symm)
    (refine tc_ret (y_reti ?_))
    (repeat' first | refine yyp ?_; try refine s_bu ?_ ?_ <;> intro hb | refine at_nil ?_; refine z_nil qn17b_0 ?_ | refine tc_seq fun K hK => ?_ | apply_assumption -exfalso -symm)
    refine tc_wk (wk_hbox_in (n := 900) (q := 902) (i := 115) rfl rfl rfl rfl (by (repeat (first | exact Drop.nil | apply Drop.drop rfl | apply Drop.take rfl)); fail_if_success intros) rfl) ?_
    (refine tc_ret (y_rete ⟨?_, rfl⟩))
    rfl
end
section
def qn17c_0 : List Nat := [0, 2, 4, 5, 6, 13, 18, 33, 34, 35, 36, 45]
def qn17c_1 : List Nat := [0, 2, 4, 5, 6, 13, 18, 19, 33, 34, 35, 36, 45]
def qn17c_2 : List Nat := [0, 2, 4, 5, 6, 13, 18, 21, 22, 33, 34, 35, 36, 45]
def qn17c_3 : Plan := lin [0, 4, 8, 12, 16, 24, 28, 36, 40, 44, 48, 21, 32, 53, 56, 61, 67]
def qn17c_4 : Plan := lin [0, 4, 8, 12, 24, 28, 32, 36, 17, 20, 41, 46, 48]
open Go.RowKit Nd
attribute [local irreducible] TR TC
theorem step_wait1 (gl : List (Nat × List D)) (k : Nat) (hk : k < 4) (mem : List UInt8) (l : Lk) (buf : List UInt8) (x : UInt8) (h : l.inb = some x) (ht : l.take = none) :
    FnE prog gl 18 [.ptr 900 0] (NH ⟨(-1), buf, [], mem, at4 k l, none⟩) (fun v H1 => v = .d (.list 0 []) ∧ H1 = NH ⟨(-1), buf, [], mem, at4 k l, none⟩) := by
  have c0 := nnone_fn gl k hk (-1) buf [] mem l none
  have cI := index_fn gl k hk (-1) buf [] mem none l.wire l.busy l.inb
  rw [h] at cI
  simp only [Option.isSome_some, if_true] at cI
  rw [← h] at cI
  have cS := cI
  have cT := take_no gl k hk (-1) buf [] mem none l ht
  rcases four_k hk with rfl | rfl | rfl | rfl
  all_goals
    (refine y_entere func18 ntmps18 results18 fun w M E b0 => ?_)
    (repeat' first | refine yyp ?_; try refine s_bu ?_ ?_ <;> intro hb | refine yy ?_ | refine at_nil ?_; refine z_nil qn17c_0 ?_ | refine tc_seq fun K hK => ?_ | apply_assumption -exfalso -symm)
    refine tc_scope rfl ?_
    ((repeat' first | refine tr_at 6 ?_; refine y_callE (hc := c0) ?_; try refine s_bu ?_ ?_ <;> intro hb | refine tr_at 20 ?_; (refine tr_keep qn17c_1 ?_); refine y_inline func53 ntmps53 results53 fun tm sy => ?_; simp only [slots, shift, zipPs, List.nil_append, List.cons_append, List.append_nil, List.map_cons, List.map_nil, List.zipIdx_cons, List.zipIdx_nil, Nat.reduceAdd]; refine halt ?_ | refine yyp ?_; try refine s_bu ?_ ?_ <;> intro hb | refine yy ?_ | refine yyr ?_; try refine s_bu ?_ ?_ <;> intro hb | refine at_nil ?_; refine z_nil qn17c_0 ?_ | refine tc_seq fun K hK => ?_ | apply_assumption -exfalso -symm); all_goals try refine unhalt ?_)
    (repeat' first | refine tr_at 40 ?_; refine y_callE (hc := cI) ?_ | refine tr_at 49 ?_; refine y_callE (hc := cT) ?_ | refine yyp ?_; try refine s_bu ?_ ?_ <;> intro hb | refine yyq ?_; try refine s_bu ?_ ?_ <;> intro hb | refine yy ?_ | refine yyr ?_; try refine s_bu ?_ ?_ <;> intro hb | refine yyc ?_ | refine at_nil ?_; refine z_nil [0, 2, 3, 4, 5, 6, 11, 35, 42, 53, 83] ?_ | refine tc_seq fun K hK => ?_ | refine tc_at 1 ?_; refine z_draw [16] qn17c_3 ?_ | refine tc_at 10 ?_; refine z_draw [] qn17c_4 ?_ | apply_assumption -exfalso -symm)
    all_goals try (exfalso; simp only [List.length_cons, List.length_nil, dBs_len] at hcmp; omega)
    (refine tc_ret (y_reti ?_))
    ((repeat' first | refine tc_at 5 ?_; refine halt ?_ | refine at_nil ?_; refine z_nil qn17c_0 ?_ | refine tc_seq fun K hK => ?_ | apply_assumption -exfalso -symm); all_goals try refine unhalt ?_)
    refine tc_wk (wk_hbox_out (n := 900) (q := 902) rfl rfl) ?_
    simp only [nodeC, coreD, four_links0, four_links1, four_links2, four_links3, lkD, seD, dSe, lk0, se0, num, dBs_cons, dBs_nil, dB_zero, dB_one, bD_none, bD_some, Option.isSome_none, Option.isSome_some, Option.isNone_none, Option.isNone_some, List.length_nil, List.map_append, List.map_cons, List.map_nil, List.cons_append, List.nil_append, List.append_assoc, List.set_cons_succ, List.set_cons_zero]
    ((repeat' first | refine tr_at 22 ?_; (refine tr_keep qn17c_2 ?_); refine y_inline func52 ntmps52 results52 fun tm sy => ?_; simp only [slots, shift, zipPs, List.nil_append, List.cons_append, List.append_nil, List.map_cons, List.map_nil, List.zipIdx_cons, List.zipIdx_nil, Nat.reduceAdd]; refine halt ?_ | refine yyp ?_; try refine s_bu ?_ ?_ <;> intro hb | refine yy ?_ | refine tc_seq fun K hK => ?_ | apply_assumption -exfalso -symm); all_goals try refine unhalt ?_)
    (repeat' first | refine yyp ?_; try refine s_bu ?_ ?_ <;> intro hb | refine yy ?_ | refine at_nil ?_; refine z_nil [0, 2, 3, 4, 5, 6] ?_ | refine tc_seq fun K hK => ?_ | apply_assumption -exfalso -symm)
    (refine tc_ret (y_reti ?_))
    (repeat' first | refine yyp ?_; try refine s_bu ?_ ?_ <;> intro hb | refine at_nil ?_; refine z_nil qn17c_0 ?_ | refine tc_seq fun K hK => ?_ | apply_assumption -exfalso -symm)
    refine tc_wk (wk_hbox_in (n := 900) (q := 902) (i := 115) rfl rfl rfl rfl (by (repeat (first | exact Drop.nil | apply Drop.drop rfl | apply Drop.take rfl)); fail_if_success intros) rfl) ?_
    (refine tc_ret (y_rete ⟨?_, rfl⟩))
    rfl
theorem step_wait2 (gl : List (Nat × List D)) (k : Nat) (hk : k < 4) (mem : List UInt8) (l : Lk) (buf : List UInt8) (ht : l.take = none) :
    FnE prog gl 18 [.ptr 900 0] (NH ⟨k, buf, [], mem, at4 k l, none⟩) (fun v H1 => v = .d (.list 0 []) ∧ H1 = NH ⟨k, buf, [], mem, at4 k l, none⟩) := by
  have c0 := nnone_fn gl k hk k buf [] mem l none
  have cT := take_no gl k hk k buf [] mem none l ht
  have cI := cT
  have cS := cT
  rcases four_k hk with rfl | rfl | rfl | rfl
  all_goals
    (refine y_entere func18 ntmps18 results18 fun w M E b0 => ?_)
    (repeat' first | refine yyp ?_; try refine s_bu ?_ ?_ <;> intro hb | refine yy ?_ | refine at_nil ?_; refine z_nil qn17c_0 ?_ | refine tc_seq fun K hK => ?_ | apply_assumption -exfalso -symm)
    refine tc_scope rfl ?_
    ((repeat' first | refine tr_at 6 ?_; refine y_callE (hc := c0) ?_; try refine s_bu ?_ ?_ <;> intro hb | refine tr_at 20 ?_; (refine tr_keep qn17c_1 ?_); refine y_inline func53 ntmps53 results53 fun tm sy => ?_; simp only [slots, shift, zipPs, List.nil_append, List.cons_append, List.append_nil, List.map_cons, List.map_nil, List.zipIdx_cons, List.zipIdx_nil, Nat.reduceAdd]; refine halt ?_ | refine yyp ?_; try refine s_bu ?_ ?_ <;> intro hb | refine yy ?_ | refine yyr ?_; try refine s_bu ?_ ?_ <;> intro hb | refine at_nil ?_; refine z_nil qn17c_0 ?_ | refine tc_seq fun K hK => ?_ | apply_assumption -exfalso -symm); all_goals try refine unhalt ?_)
    (repeat' first | refine tr_at 49 ?_; refine y_callE (hc := cT) ?_ | refine yyp ?_; try refine s_bu ?_ ?_ <;> intro hb | refine yy ?_ | refine yyr ?_; try refine s_bu ?_ ?_ <;> intro hb | refine yyc ?_ | refine at_nil ?_; refine z_nil [0, 2, 3, 4, 5, 6, 11, 35, 42, 53, 83] ?_ | refine tc_seq fun K hK => ?_ | refine tc_at 1 ?_; refine z_draw [16] qn17c_3 ?_ | refine tc_at 10 ?_; refine z_draw [] qn17c_4 ?_ | apply_assumption -exfalso -symm)
    all_goals try (exfalso; simp only [List.length_cons, List.length_nil, dBs_len] at hcmp; omega)
    (refine tc_ret (y_reti ?_))
    ((repeat' first | refine tc_at 5 ?_; refine halt ?_ | refine at_nil ?_; refine z_nil qn17c_0 ?_ | refine tc_seq fun K hK => ?_ | apply_assumption -exfalso -symm); all_goals try refine unhalt ?_)
    refine tc_wk (wk_hbox_out (n := 900) (q := 902) rfl rfl) ?_
    simp only [nodeC, coreD, four_links0, four_links1, four_links2, four_links3, lkD, seD, dSe, lk0, se0, num, dBs_cons, dBs_nil, dB_zero, dB_one, bD_none, bD_some, Option.isSome_none, Option.isSome_some, Option.isNone_none, Option.isNone_some, List.length_nil, List.map_append, List.map_cons, List.map_nil, List.cons_append, List.nil_append, List.append_assoc, List.set_cons_succ, List.set_cons_zero]
    ((repeat' first | refine tr_at 22 ?_; (refine tr_keep qn17c_2 ?_); refine y_inline func52 ntmps52 results52 fun tm sy => ?_; simp only [slots, shift, zipPs, List.nil_append, List.cons_append, List.append_nil, List.map_cons, List.map_nil, List.zipIdx_cons, List.zipIdx_nil, Nat.reduceAdd]; refine halt ?_ | refine yyp ?_; try refine s_bu ?_ ?_ <;> intro hb | refine yy ?_ | refine tc_seq fun K hK => ?_ | apply_assumption -exfalso -symm); all_goals try refine unhalt ?_)
    (repeat' first | refine yyp ?_; try refine s_bu ?_ ?_ <;> intro hb | refine yy ?_ | refine at_nil ?_; refine z_nil [0, 2, 3, 4, 5, 6] ?_ | refine tc_seq fun K hK => ?_ | apply_assumption -exfalso -symm)
    (refine tc_ret (y_reti ?_))
    (repeat' first | refine yyp ?_; try refine s_bu ?_ ?_ <;> intro hb | refine at_nil ?_; refine z_nil qn17c_0 ?_ | refine tc_seq fun K hK => ?_ | apply_assumption -exfalso -symm)
    refine tc_wk (wk_hbox_in (n := 900) (q := 902) (i := 115) rfl rfl rfl rfl (by (repeat (first | exact Drop.nil | apply Drop.drop rfl | apply Drop.take rfl)); fail_if_success intros) rfl) ?_
    (refine tc_ret (y_rete ⟨?_, rfl⟩))
    rfl
end
end Go.Proofs.YtjhbglklcddekaaGreatDoor
