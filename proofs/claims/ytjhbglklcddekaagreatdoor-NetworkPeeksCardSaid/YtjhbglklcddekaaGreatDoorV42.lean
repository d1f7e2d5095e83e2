/- Parts: NW16. -/
import Derived.Test.YtjhbglklcddekaaGreatDoorV35
set_option linter.all false
set_option maxRecDepth 100000
set_option maxHeartbeats 16000000
namespace Go.Proofs.YtjhbglklcddekaaGreatDoor
open Go.RowKit Go.Proofs.Tryz
section
def qnw16_0 : List Nat := [0, 2, 4, 5, 6, 11, 34, 38, 39, 40, 81]
def qnw16_1 : List Nat := [0, 1, 4, 5, 6, 7, 19, 60]
def qnw16_2 : List Nat := [0, 2, 3, 4, 5, 6]
def qnw16_3 : List Nat := [0, 2, 4, 5, 6, 37, 41, 42, 43, 44, 49]
open Go.RowKit Nd
namespace Nd
def restN (mem : List UInt8) : NB := ⟨-1, [], [], mem, [lk0, lk0, lk0, lk0], none⟩
def NetF (t : Nat) (got mem : List UInt8) : List (Nat × Ob) := (960, .box (netC t)) :: (961, .sbox [.ptr 900 0]) :: (962, .sbox waysC) :: (HH ⟨se0, [], got, false⟩ ++ NF (restN mem))
end Nd
attribute [local irreducible] TR TC
theorem nidleF_fn (gl : List (Nat × List D)) (mem : List UInt8) (h0 : 0 < mem.length) : FnE prog gl 20 [.ptr 900 0] (NF (restN mem)) (fun v H1 => v = .d (.bool true) ∧ H1 = NF (restN mem)) := by
  have c0 := nnoneF_fn gl (-1) [] [] mem lk0 lk0 lk0 lk0 none h0
  unfold restN
  (refine y_entere func20 ntmps20 results20 fun w M E b0 => ?_)
  ((repeat' first | refine tr_at 6 ?_; refine y_callE (hc := c0) ?_; try refine s_bu ?_ ?_ <;> intro hb | refine tc_at 3 ?_; refine halt ?_ | refine yyp ?_; try refine s_bu ?_ ?_ <;> intro hb | refine yy ?_ | refine at_nil ?_; refine z_nil qnw16_0 ?_ | refine tc_seq fun K hK => ?_ | apply_assumption -exfalso -symm); all_goals try refine unhalt ?_)
  refine tc_wk (wk_hbox_out (n := 900) (q := 902) rfl rfl) ?_
  simp only [nodeF, coreD, four_links, lkD, seD, lk0, se0, num, bD_none, Option.isSome_none, Option.isNone_none, List.length_nil, dBs_nil, List.map_append, List.map_cons, List.map_nil, List.cons_append, List.nil_append, List.append_assoc, List.set_cons_succ, List.set_cons_zero]
  (repeat' first | refine tr_at 23 ?_; (refine z_p (q_pair rfl rfl rfl rfl) ?_) | refine tr_at 24 ?_; (refine z_p (q_pair_same rfl rfl rfl rfl (by kernel_rfl)) ?_) | refine yyp ?_; try refine s_bu ?_ ?_ <;> intro hb | refine yy ?_ | refine yyc ?_ | refine at_nil ?_; refine z_nil qnw16_0 ?_ | refine tc_seq fun K hK => ?_ | apply_assumption -exfalso -symm)
  refine tc_rounds 5 (rounds_next fun K5 h5 => ?_)
  (repeat' first | refine tr_at 41 ?_; (refine z_p (q_iarr rfl rfl rfl rfl (by first | with_reducible exact nat_lit_eq | exact rfl) (ltd rfl) (by (repeat (first | exact Cut.done _ | apply Cut.take | apply Cut.skip)); fail_if_success intros)) ?_) | refine tr_at 4 ?_; (refine z_alloc 1004 ?_) | refine yyp ?_; try refine s_bu ?_ ?_ <;> intro hb | refine yy ?_ | refine yy2 ?_ ?_ <;> intro hcmp | refine at_nil ?_; refine z_nil qnw16_0 ?_ | refine tc_seq fun K hK => ?_ | apply_assumption -exfalso -symm)
  all_goals try (exfalso; apply hcmp; simp; done)
  (repeat' first | refine tr_at 41 ?_; (refine z_p (q_iarr rfl rfl rfl rfl (by first | with_reducible exact nat_lit_eq | exact rfl) (ltd rfl) (by (repeat (first | exact Cut.done _ | apply Cut.take | apply Cut.skip)); fail_if_success intros)) ?_) | refine tr_at 4 ?_; (refine z_alloc 2004 ?_) | refine yyp ?_; try refine s_bu ?_ ?_ <;> intro hb | refine yy ?_ | refine yy2 ?_ ?_ <;> intro hcmp | refine at_nil ?_; refine z_nil qnw16_0 ?_ | refine tc_seq fun K hK => ?_ | apply_assumption -exfalso -symm)
  all_goals try (exfalso; apply hcmp; simp; done)
  (repeat' first | refine tr_at 41 ?_; (refine z_p (q_iarr rfl rfl rfl rfl (by first | with_reducible exact nat_lit_eq | exact rfl) (ltd rfl) (by (repeat (first | exact Cut.done _ | apply Cut.take | apply Cut.skip)); fail_if_success intros)) ?_) | refine tr_at 4 ?_; (refine z_alloc 3004 ?_) | refine yyp ?_; try refine s_bu ?_ ?_ <;> intro hb | refine yy ?_ | refine yy2 ?_ ?_ <;> intro hcmp | refine at_nil ?_; refine z_nil qnw16_0 ?_ | refine tc_seq fun K hK => ?_ | apply_assumption -exfalso -symm)
  all_goals try (exfalso; apply hcmp; simp; done)
  (repeat' first | refine tr_at 4 ?_; (refine z_alloc 4004 ?_) | refine yyp ?_; try refine s_bu ?_ ?_ <;> intro hb | refine yy ?_ | refine yy2 ?_ ?_ <;> intro hcmp | refine at_nil ?_; refine z_nil qnw16_0 ?_ | refine tc_seq fun K hK => ?_ | apply_assumption -exfalso -symm)
  all_goals try (exfalso; apply hcmp; simp; done)
  refine tc_wk (wk_hbox_in (n := 900) (q := 902) (i := 115) rfl rfl rfl rfl (by (repeat (first | exact Drop.nil | apply Drop.drop rfl | apply Drop.take rfl)); fail_if_success intros) rfl) ?_
  (refine tc_ret (y_rete ⟨?_, rfl⟩))
  rfl
theorem netstateF_fn (gl : List (Nat × List D)) (t : Nat) (got mem : List UInt8) (h0 : 0 < mem.length) (h3 : mem.length ≤ 65536) :
    FnE prog gl 23 [.ptr 960 0, .d (.int .i64 0)] (NetF t got mem) (fun v H1 => v = .tup [.d (.agg (stateD (restN mem))), .d (.int .i64 0)] ∧ H1 = NetF t got mem) := by
  have cS := state_fn gl (-1) mem lk0 lk0 lk0 lk0 none h0 h3
  unfold NetF netC restN at *
  simp only [stateD, coreD, four_links, lkD, seD, dBs_nil, List.cons_append, List.nil_append, List.append_assoc] at cS ⊢
  (refine y_entere func23 ntmps23 results23 fun w M E b0 => ?_)
  ((repeat' first | refine tr_at 4 ?_; (refine z_alloc 1004 ?_) | refine tr_at 7 ?_; (refine tr_keep qnw16_1 ?_); refine y_inline func62 ntmps62 results62 fun tm sy => ?_; simp only [slots, shift, zipPs, List.nil_append, List.cons_append, List.append_nil, List.map_cons, List.map_nil, List.zipIdx_cons, List.zipIdx_nil, Nat.reduceAdd]; refine halt ?_ | refine yyp ?_; try refine s_bu ?_ ?_ <;> intro hb | refine yy ?_ | refine at_nil ?_; refine z_nil qnw16_1 ?_ | refine tc_seq fun K hK => ?_ | apply_assumption -exfalso -symm); all_goals try refine unhalt ?_)
  (repeat' first | refine yyp ?_; try refine s_bu ?_ ?_ <;> intro hb | refine yyq ?_; try refine s_bu ?_ ?_ <;> intro hb | refine yy ?_ | refine at_nil ?_; refine z_nil qnw16_2 ?_ | refine tc_seq fun K hK => ?_ | apply_assumption -exfalso -symm)
  (refine tc_ret (y_reti ?_))
  simp only [oneOf]
  (repeat' first | refine at_nil ?_; refine z_nil qnw16_1 ?_)
  (repeat' first | refine tr_at 28 ?_; refine y_callE (hc := cS) ?_ | refine yyp ?_; try refine s_bu ?_ ?_ <;> intro hb | refine yyw ?_; try refine s_bu ?_ ?_ <;> intro hb | refine yy ?_ | refine yyv ?_; try refine s_bu ?_ ?_ <;> intro hb | refine at_nil ?_; refine z_nil qnw16_1 ?_ | refine tc_seq fun K hK => ?_ | apply_assumption -exfalso -symm)
  (refine tc_ret (y_rete ⟨?_, rfl⟩))
  rfl
theorem netnoneF_fn (gl : List (Nat × List D)) (t : Nat) (got mem : List UInt8) : FnE prog gl 62 [.ptr 960 0] (NetF t got mem) (fun v H1 => v = .d (.bool false) ∧ H1 = NetF t got mem) := by
  unfold NetF netC restN
  (refine y_entere func62 ntmps62 results62 fun w M E b0 => ?_)
  (repeat' first | refine yyp ?_; try refine s_bu ?_ ?_ <;> intro hb | refine yyq ?_; try refine s_bu ?_ ?_ <;> intro hb | refine yy ?_ | refine at_nil ?_; refine z_nil qnw16_2 ?_ | refine tc_seq fun K hK => ?_ | apply_assumption -exfalso -symm)
  (refine tc_ret (y_rete ⟨?_, rfl⟩))
  rfl
theorem netgotF_fn (gl : List (Nat × List D)) (t : Nat) (got mem : List UInt8) (hb : got.length ≤ 1000000) : FnE prog gl 25 [.ptr 960 0] (NetF t got mem) (fun v H1 => v = .d (.list 1 (dBs got)) ∧ H1 = NetF t got mem) := by
  have c0 := netnoneF_fn gl t got mem
  have c1 := clone_row gl (dBs got) (by rw [dBs_len]; omega)
  unfold NetF netC at *
  unfold HH at *
  simp only [hostC, List.cons_append, List.nil_append] at *
  (refine y_entere func25 ntmps25 results25 fun w M E b0 => ?_)
  ((repeat' first | refine tr_at 4 ?_; refine y_callE (hc := c0) ?_; try refine s_bu ?_ ?_ <;> intro hb | refine tc_at 3 ?_; refine halt ?_ | refine yyp ?_; try refine s_bu ?_ ?_ <;> intro hb | refine yy ?_ | refine at_nil ?_; refine z_nil qnw16_2 ?_ | refine tc_seq fun K hK => ?_ | apply_assumption -exfalso -symm); all_goals try refine unhalt ?_)
  refine tc_wk (wk_hbox_out (n := 910) (q := 911) rfl rfl) ?_
  simp only [List.set_cons_succ, List.set_cons_zero]
  (repeat' first | refine tr_at 12 ?_; refine y_callE (hc := c1) ?_ | refine yyp ?_; try refine s_bu ?_ ?_ <;> intro hb | refine yy ?_ | refine at_nil ?_; refine z_nil qnw16_2 ?_ | refine tc_seq fun K hK => ?_ | apply_assumption -exfalso -symm)
  refine tc_wk (wk_hbox_in (n := 910) (q := 911) (i := 8) rfl rfl rfl rfl (by (repeat (first | exact Drop.nil | apply Drop.drop rfl | apply Drop.take rfl)); fail_if_success intros) rfl) ?_
  (refine tc_ret (y_rete ⟨?_, rfl⟩))
  rfl
theorem netidleF_fn (gl : List (Nat × List D)) (t : Nat) (got mem : List UInt8) (h0 : 0 < mem.length) : FnE prog gl 28 [.ptr 960 0] (NetF t got mem) (fun v H1 => v = .d (.bool true) ∧ H1 = NetF t got mem) := by
  have c1 := nidleF_fn gl mem h0
  unfold NetF netC at *
  unfold HH at *
  simp only [hostC, se0, num, List.length_nil, Option.isSome_none, bD_none, List.cons_append, List.nil_append] at *
  (refine y_entere func28 ntmps28 results28 fun w M E b0 => ?_)
  refine tc_wk (wk_hbox_out (n := 910) (q := 911) rfl rfl) ?_
  simp only [List.set_cons_succ, List.set_cons_zero]
  ((repeat' first | refine tr_at 6 ?_; (refine tr_keep [0, 2, 4, 5, 6, 7, 8, 9, 10, 11, 12, 13, 14, 15, 16, 17, 18, 19, 20, 21, 22, 23, 24, 25, 26, 27, 28, 29, 30, 31, 32, 33, 34, 35, 36, 37, 41, 42, 43, 44, 49] ?_); refine y_inline func62 ntmps62 results62 fun tm sy => ?_; simp only [slots, shift, zipPs, List.nil_append, List.cons_append, List.append_nil, List.map_cons, List.map_nil, List.zipIdx_cons, List.zipIdx_nil, Nat.reduceAdd]; refine halt ?_ | refine yyp ?_; try refine s_bu ?_ ?_ <;> intro hb | refine yy ?_ | refine at_nil ?_; refine z_nil qnw16_3 ?_ | refine tc_seq fun K hK => ?_ | apply_assumption -exfalso -symm); all_goals try refine unhalt ?_)
  (repeat' first | refine yyp ?_; try refine s_bu ?_ ?_ <;> intro hb | refine yyq ?_; try refine s_bu ?_ ?_ <;> intro hb | refine yy ?_ | refine at_nil ?_; refine z_nil qnw16_2 ?_ | refine tc_seq fun K hK => ?_ | apply_assumption -exfalso -symm)
  (refine tc_ret (y_reti ?_))
  simp only [oneOf]
  (repeat' first | refine yyp ?_; try refine s_bu ?_ ?_ <;> intro hb | refine yyc ?_ | refine yy2 ?_ ?_ <;> intro hcmp | refine at_nil ?_; refine z_nil qnw16_3 ?_)
  (repeat' first | refine yyp ?_; try refine s_bu ?_ ?_ <;> intro hb | refine yyw ?_; try refine s_bu ?_ ?_ <;> intro hb | refine yy ?_ | refine at_nil ?_; refine z_nil qnw16_3 ?_ | refine tc_seq fun K hK => ?_ | apply_assumption -exfalso -symm)
  · refine tc_rounds 3 (rounds_next fun K1 hK1 => ?_)
    (repeat' first | refine tr_at 48 ?_; refine y_callE (hc := c1) ?_; try refine s_bu ?_ ?_ <;> intro hb | refine yyp ?_; try refine s_bu ?_ ?_ <;> intro hb | refine yyw ?_; try refine s_bu ?_ ?_ <;> intro hb | refine yy ?_ | refine yyv ?_; try refine s_bu ?_ ?_ <;> intro hb | refine at_nil ?_; refine z_nil qnw16_3 ?_ | refine tc_seq fun K hK => ?_ | apply_assumption -exfalso -symm)
    refine tc_wk (wk_hbox_in (n := 910) (q := 911) (i := 8) rfl rfl rfl rfl (by (repeat (first | exact Drop.nil | apply Drop.drop rfl | apply Drop.take rfl)); fail_if_success intros) rfl) ?_
    (refine tc_ret (y_rete ⟨?_, rfl⟩))
    rfl
  · exact absurd (by simp) hcmp
end
end Go.Proofs.YtjhbglklcddekaaGreatDoor
