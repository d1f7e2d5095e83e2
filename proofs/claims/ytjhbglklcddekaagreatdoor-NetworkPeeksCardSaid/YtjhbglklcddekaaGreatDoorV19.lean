/- Parts: N13A, N13B, N13C, N13D. -/
import Derived.Test.YtjhbglklcddekaaGreatDoorV18
set_option linter.all false
set_option maxRecDepth 100000
set_option maxHeartbeats 16000000
namespace Go.Proofs.YtjhbglklcddekaaGreatDoor
open Go.RowKit Go.Proofs.Tryz
section
def qn13a_0 : List Nat := [0, 1, 2, 6, 7, 8, 9, 12, 32, 33, 44]
open Go.RowKit Nd
attribute [local irreducible] TR TC
theorem nrx_none (gl : List (Nat × List D)) (k : Nat) (hk : k < 4) (link : Int) (buf mem : List UInt8) (s s' : Se) (bit : Bool) (out : List UInt8) (busy : Bool) (inb : Option UInt8) (hok : s.ok) (hq : s.hear bit = (s', .none)) :
    FnE prog gl 19 [.ptr 900 0, .d (.int .i64 k), .d (.int .i64 (if bit then 1 else 0))] (NH ⟨link, buf, out, mem, at4 k ⟨s, busy, inb⟩, none⟩) (fun v H1 => v = .d (.list 0 []) ∧ H1 = NH ⟨link, buf, out, mem, at4 k ⟨s', busy, inb⟩, none⟩) := by
  have c0 := noff_fn gl k hk link buf (out) mem ⟨s, busy, inb⟩ none
  have c1 := srx_fn gl s bit hok
  rw [hq] at c1
  clear hok hq
  generalize (if bit then (1 : Int) else 0) = bi at *
  simp only [dSe, dHeard] at c1
  rcases four_k hk with rfl | rfl | rfl | rfl
  all_goals
    (refine y_entere func19 ntmps19 results19 fun w M E b0 => ?_)
    ((repeat' first | refine tr_at 12 ?_; refine y_callE (hc := c0) ?_; try refine s_bu ?_ ?_ <;> intro hb | refine tc_at 3 ?_; refine halt ?_ | refine yyp ?_; try refine s_bu ?_ ?_ <;> intro hb | refine yy ?_ | refine at_nil ?_; refine z_nil qn13a_0 ?_ | refine tc_seq fun K hK => ?_ | refine tc_at 12 ?_; refine z_draw [] (lin [0, 4, 8, 12, 16, 21, 26]) ?_ | apply_assumption -exfalso -symm); all_goals try refine unhalt ?_)
    refine tc_wk (wk_hbox_out (n := 900) (q := 902) rfl rfl) ?_
    simp only [nodeC, coreD, four_links0, four_links1, four_links2, four_links3, lkD, seD, dSe, lk0, se0, num, dBs_cons, dBs_nil, bD_none, bD_some, Option.isSome_none, Option.isSome_some, Option.isNone_none, List.length_nil, List.map_append, List.map_cons, List.map_nil, List.cons_append, List.nil_append, List.append_assoc, List.set_cons_succ, List.set_cons_zero]
    ((repeat' first | refine tr_at 8 ?_; (refine z_alloc 1008 ?_) | refine tr_at 9 ?_; (refine z_alloc 1009 ?_) | refine tr_at 61 ?_; (refine tr_keep [0, 1, 2, 6, 7, 8, 9, 12, 32, 33, 44, 60, 61] ?_); refine y_inline func52 ntmps52 results52 fun tm sy => ?_; simp only [slots, shift, zipPs, List.nil_append, List.cons_append, List.append_nil, List.map_cons, List.map_nil, List.zipIdx_cons, List.zipIdx_nil, Nat.reduceAdd]; refine halt ?_ | refine yyp ?_; try refine s_bu ?_ ?_ <;> intro hb | refine yy ?_ | refine at_call 59 ?_; refine y_call (hc := c1) ?_ | refine at_nil ?_; refine z_nil qn13a_0 ?_ | refine tc_seq fun K hK => ?_ | refine tc_at 12 ?_; refine z_draw [6] (lin [0, 4, 8, 12, 16, 21, 27]) ?_ | apply_assumption -exfalso -symm); all_goals try refine unhalt ?_)
    (repeat' first | refine yyp ?_; try refine s_bu ?_ ?_ <;> intro hb | refine yy ?_ | refine at_nil ?_; refine z_nil [0, 2, 3, 4, 5, 6] ?_ | refine tc_seq fun K hK => ?_ | apply_assumption -exfalso -symm)
    (refine tc_ret (y_reti ?_))
    (repeat' first | refine yyp ?_; try refine s_bu ?_ ?_ <;> intro hb | refine at_nil ?_; refine z_nil qn13a_0 ?_ | refine tc_seq fun K hK => ?_ | refine tc_at 12 ?_; refine z_draw [6] (lin [0, 4, 8, 12, 16, 21, 27]) ?_ | apply_assumption -exfalso -symm)
    refine tc_wk (wk_hbox_in (n := 900) (q := 902) (i := 115) rfl rfl rfl rfl (by (repeat (first | exact Drop.nil | apply Drop.drop rfl | apply Drop.take rfl)); fail_if_success intros) rfl) ?_
    (refine tc_ret (y_rete ⟨?_, rfl⟩))
    rfl
end
section
def qn13b_0 : List Nat := [0, 1, 2, 6, 7, 8, 9, 12, 32, 33, 44]
open Go.RowKit Nd
attribute [local irreducible] TR TC
theorem nrx_bad (gl : List (Nat × List D)) (k : Nat) (hk : k < 4) (link : Int) (buf mem : List UInt8) (s s' : Se) (bit : Bool) (out : List UInt8) (busy : Bool) (inb : Option UInt8) (hok : s.ok) (hq : s.hear bit = (s', .bad)) :
    FnE prog gl 19 [.ptr 900 0, .d (.int .i64 k), .d (.int .i64 (if bit then 1 else 0))] (NH ⟨link, buf, out, mem, at4 k ⟨s, busy, inb⟩, none⟩) (fun v H1 => v = .d (.list 0 []) ∧ H1 = NH ⟨link, buf, out, mem, at4 k ⟨s', busy, inb⟩, none⟩) := by
  have c0 := noff_fn gl k hk link buf (out) mem ⟨s, busy, inb⟩ none
  have c1 := srx_fn gl s bit hok
  rw [hq] at c1
  clear hok hq
  generalize (if bit then (1 : Int) else 0) = bi at *
  simp only [dSe, dHeard] at c1
  rcases four_k hk with rfl | rfl | rfl | rfl
  all_goals
    (refine y_entere func19 ntmps19 results19 fun w M E b0 => ?_)
    ((repeat' first | refine tr_at 12 ?_; refine y_callE (hc := c0) ?_; try refine s_bu ?_ ?_ <;> intro hb | refine tc_at 3 ?_; refine halt ?_ | refine yyp ?_; try refine s_bu ?_ ?_ <;> intro hb | refine yy ?_ | refine at_nil ?_; refine z_nil qn13b_0 ?_ | refine tc_seq fun K hK => ?_ | refine tc_at 12 ?_; refine z_draw [] (lin [0, 4, 8, 12, 16, 21, 26]) ?_ | apply_assumption -exfalso -symm); all_goals try refine unhalt ?_)
    refine tc_wk (wk_hbox_out (n := 900) (q := 902) rfl rfl) ?_
    simp only [nodeC, coreD, four_links0, four_links1, four_links2, four_links3, lkD, seD, dSe, lk0, se0, num, dBs_cons, dBs_nil, bD_none, bD_some, Option.isSome_none, Option.isSome_some, Option.isNone_none, List.length_nil, List.map_append, List.map_cons, List.map_nil, List.cons_append, List.nil_append, List.append_assoc, List.set_cons_succ, List.set_cons_zero]
    ((repeat' first | refine tr_at 8 ?_; (refine z_alloc 1008 ?_) | refine tr_at 9 ?_; (refine z_alloc 1009 ?_) | refine tr_at 61 ?_; (refine tr_keep [0, 1, 2, 6, 7, 8, 9, 12, 32, 33, 44, 60, 61] ?_); refine y_inline func52 ntmps52 results52 fun tm sy => ?_; simp only [slots, shift, zipPs, List.nil_append, List.cons_append, List.append_nil, List.map_cons, List.map_nil, List.zipIdx_cons, List.zipIdx_nil, Nat.reduceAdd]; refine halt ?_ | refine yyp ?_; try refine s_bu ?_ ?_ <;> intro hb | refine yy ?_ | refine at_call 59 ?_; refine y_call (hc := c1) ?_ | refine at_nil ?_; refine z_nil qn13b_0 ?_ | refine tc_seq fun K hK => ?_ | refine tc_at 12 ?_; refine z_draw [6] (lin [0, 4, 8, 12, 16, 21, 27]) ?_ | apply_assumption -exfalso -symm); all_goals try refine unhalt ?_)
    (repeat' first | refine yyp ?_; try refine s_bu ?_ ?_ <;> intro hb | refine yy ?_ | refine at_nil ?_; refine z_nil [0, 2, 3, 4, 5, 6] ?_ | refine tc_seq fun K hK => ?_ | apply_assumption -exfalso -symm)
    (refine tc_ret (y_reti ?_))
    (repeat' first | refine yyp ?_; try refine s_bu ?_ ?_ <;> intro hb | refine at_nil ?_; refine z_nil qn13b_0 ?_ | refine tc_seq fun K hK => ?_ | refine tc_at 12 ?_; refine z_draw [6] (lin [0, 4, 8, 12, 16, 21, 27]) ?_ | apply_assumption -exfalso -symm)
    refine tc_wk (wk_hbox_in (n := 900) (q := 902) (i := 115) rfl rfl rfl rfl (by (repeat (first | exact Drop.nil | apply Drop.drop rfl | apply Drop.take rfl)); fail_if_success intros) rfl) ?_
    (refine tc_ret (y_rete ⟨?_, rfl⟩))
    rfl
end
section
def qn13c_0 : List Nat := [0, 1, 2, 6, 7, 8, 9, 12, 32, 33, 44]
def qn13c_1 : Plan := lin [0, 4, 8, 12, 16, 21, 27]
open Go.RowKit Nd
attribute [local irreducible] TR TC
theorem nrx_ack0 (gl : List (Nat × List D)) (k : Nat) (hk : k < 4) (link : Int) (buf mem : List UInt8) (s s' : Se) (bit : Bool) (out : List UInt8) (inb : Option UInt8) (hok : s.ok) (hq : s.hear bit = (s', .ack)) :
    FnE prog gl 19 [.ptr 900 0, .d (.int .i64 k), .d (.int .i64 (if bit then 1 else 0))] (NH ⟨link, buf, out, mem, at4 k ⟨s, false, inb⟩, none⟩) (fun v H1 => v = .d (.list 5 [actA 6 k 0]) ∧ H1 = NH ⟨link, buf, out, mem, at4 k ⟨s', false, inb⟩, none⟩) := by
  have c0 := noff_fn gl k hk link buf (out) mem ⟨s, false, inb⟩ none
  have c1 := srx_fn gl s bit hok
  rw [hq] at c1
  clear hok hq
  generalize (if bit then (1 : Int) else 0) = bi at *
  simp only [dSe, dHeard] at c1
  rcases four_k hk with rfl | rfl | rfl | rfl
  all_goals
    (refine y_entere func19 ntmps19 results19 fun w M E b0 => ?_)
    ((repeat' first | refine tr_at 12 ?_; refine y_callE (hc := c0) ?_; try refine s_bu ?_ ?_ <;> intro hb | refine tc_at 3 ?_; refine halt ?_ | refine yyp ?_; try refine s_bu ?_ ?_ <;> intro hb | refine yy ?_ | refine at_nil ?_; refine z_nil qn13c_0 ?_ | refine tc_seq fun K hK => ?_ | refine tc_at 12 ?_; refine z_draw [] (lin [0, 4, 8, 12, 16, 21, 26]) ?_ | apply_assumption -exfalso -symm); all_goals try refine unhalt ?_)
    refine tc_wk (wk_hbox_out (n := 900) (q := 902) rfl rfl) ?_
    simp only [nodeC, coreD, four_links0, four_links1, four_links2, four_links3, lkD, seD, dSe, lk0, se0, num, dBs_cons, dBs_nil, bD_none, bD_some, Option.isSome_none, Option.isSome_some, Option.isNone_none, List.length_nil, List.map_append, List.map_cons, List.map_nil, List.cons_append, List.nil_append, List.append_assoc, List.set_cons_succ, List.set_cons_zero]
    ((repeat' first | refine tr_at 8 ?_; (refine z_alloc 1008 ?_) | refine tr_at 9 ?_; (refine z_alloc 1009 ?_) | refine tr_at 38 ?_; (refine tr_keep [0, 1, 2, 6, 7, 8, 9, 12, 32, 33, 35, 37, 44] ?_); refine y_inline func51 ntmps51 results51 fun tm sy => ?_; simp only [slots, shift, zipPs, List.nil_append, List.cons_append, List.append_nil, List.map_cons, List.map_nil, List.zipIdx_cons, List.zipIdx_nil, Nat.reduceAdd]; refine halt ?_ | refine yyp ?_; try refine s_bu ?_ ?_ <;> intro hb | refine yy ?_ | refine at_call 59 ?_; refine y_call (hc := c1) ?_ | refine at_nil ?_; refine z_nil qn13c_0 ?_ | refine tc_seq fun K hK => ?_ | refine tc_at 12 ?_; refine z_draw [6] qn13c_1 ?_ | apply_assumption -exfalso -symm); all_goals try refine unhalt ?_)
    (repeat' first | refine tr_at 17 ?_; (refine z_lit 2017 ?_) | refine tr_at 18 ?_; refine z_append0 2018 ?_ | refine yyp ?_; try refine s_bu ?_ ?_ <;> intro hb | refine yy ?_ | refine at_nil ?_; refine z_nil [0, 1, 2, 3, 8, 9] ?_ | refine tc_seq fun K hK => ?_ | apply_assumption -exfalso -symm)
    (refine y_endi ?_)
    ((repeat' first | refine tr_at 43 ?_; (refine tr_keep [0, 1, 2, 6, 7, 8, 9, 12, 32, 33, 39, 42, 44] ?_); refine y_inline func60 ntmps60 results60 fun tm sy => ?_; simp only [slots, shift, zipPs, List.nil_append, List.cons_append, List.append_nil, List.map_cons, List.map_nil, List.zipIdx_cons, List.zipIdx_nil, Nat.reduceAdd]; refine halt ?_ | refine yyp ?_; try refine s_bu ?_ ?_ <;> intro hb | refine yy ?_ | refine at_nil ?_; refine z_nil qn13c_0 ?_ | refine tc_seq fun K hK => ?_ | refine tc_at 12 ?_; refine z_draw [6] qn13c_1 ?_ | apply_assumption -exfalso -symm); all_goals try refine unhalt ?_)
    (repeat' first | refine yyp ?_; try refine s_bu ?_ ?_ <;> intro hb | refine yy ?_ | refine at_nil ?_; refine z_nil [0, 1, 4, 5, 6, 7, 9, 17, 34, 57] ?_ | refine tc_seq fun K hK => ?_ | apply_assumption -exfalso -symm)
    (refine tc_ret (y_reti ?_))
    ((repeat' first | refine tr_at 61 ?_; (refine tr_keep [0, 1, 2, 6, 7, 8, 9, 12, 32, 33, 44, 60, 61] ?_); refine y_inline func52 ntmps52 results52 fun tm sy => ?_; simp only [slots, shift, zipPs, List.nil_append, List.cons_append, List.append_nil, List.map_cons, List.map_nil, List.zipIdx_cons, List.zipIdx_nil, Nat.reduceAdd]; refine halt ?_ | refine yyp ?_; try refine s_bu ?_ ?_ <;> intro hb | refine yy ?_ | refine at_nil ?_; refine z_nil qn13c_0 ?_ | refine tc_seq fun K hK => ?_ | refine tc_at 12 ?_; refine z_draw [6] qn13c_1 ?_ | apply_assumption -exfalso -symm); all_goals try refine unhalt ?_)
    (repeat' first | refine yyp ?_; try refine s_bu ?_ ?_ <;> intro hb | refine yy ?_ | refine at_nil ?_; refine z_nil [0, 2, 3, 4, 5, 6] ?_ | refine tc_seq fun K hK => ?_ | apply_assumption -exfalso -symm)
    (refine tc_ret (y_reti ?_))
    (repeat' first | refine yyp ?_; try refine s_bu ?_ ?_ <;> intro hb | refine at_nil ?_; refine z_nil qn13c_0 ?_ | refine tc_seq fun K hK => ?_ | refine tc_at 12 ?_; refine z_draw [6] qn13c_1 ?_ | apply_assumption -exfalso -symm)
    refine tc_wk (wk_hbox_in (n := 900) (q := 902) (i := 115) rfl rfl rfl rfl (by (repeat (first | exact Drop.nil | apply Drop.drop rfl | apply Drop.take rfl)); fail_if_success intros) rfl) ?_
    (refine tc_ret (y_rete ⟨?_, rfl⟩))
    rfl
end
section
def qn13d_0 : List Nat := [0, 1, 2, 6, 7, 8, 9, 12, 32, 33, 44]
def qn13d_1 : Plan := lin [0, 4, 8, 12, 16, 21, 27]
open Go.RowKit Nd
attribute [local irreducible] TR TC
theorem nrx_ack1 (gl : List (Nat × List D)) (k : Nat) (hk : k < 4) (link : Int) (buf mem : List UInt8) (s s' : Se) (bit : Bool) (o : UInt8) (inb : Option UInt8) (hok : s.ok) (hq : s.hear bit = (s', .ack)) :
    FnE prog gl 19 [.ptr 900 0, .d (.int .i64 k), .d (.int .i64 (if bit then 1 else 0))] (NH ⟨link, buf, [o], mem, at4 k ⟨s, true, inb⟩, none⟩) (fun v H1 => v = .d (.list 5 [actA 6 k 0]) ∧ H1 = NH ⟨-1, buf, [], mem, at4 k ⟨s', false, inb⟩, none⟩) := by
  have c0 := noff_fn gl k hk link buf ([o]) mem ⟨s, true, inb⟩ none
  have c1 := srx_fn gl s bit hok
  rw [hq] at c1
  clear hok hq
  generalize (if bit then (1 : Int) else 0) = bi at *
  simp only [dSe, dHeard] at c1
  rcases four_k hk with rfl | rfl | rfl | rfl
  all_goals
    (refine y_entere func19 ntmps19 results19 fun w M E b0 => ?_)
    ((repeat' first | refine tr_at 12 ?_; refine y_callE (hc := c0) ?_; try refine s_bu ?_ ?_ <;> intro hb | refine tc_at 3 ?_; refine halt ?_ | refine yyp ?_; try refine s_bu ?_ ?_ <;> intro hb | refine yy ?_ | refine at_nil ?_; refine z_nil qn13d_0 ?_ | refine tc_seq fun K hK => ?_ | refine tc_at 12 ?_; refine z_draw [] (lin [0, 4, 8, 12, 16, 21, 26]) ?_ | apply_assumption -exfalso -symm); all_goals try refine unhalt ?_)
    refine tc_wk (wk_hbox_out (n := 900) (q := 902) rfl rfl) ?_
    simp only [nodeC, coreD, four_links0, four_links1, four_links2, four_links3, lkD, seD, dSe, lk0, se0, num, dBs_cons, dBs_nil, bD_none, bD_some, Option.isSome_none, Option.isSome_some, Option.isNone_none, List.length_nil, List.map_append, List.map_cons, List.map_nil, List.cons_append, List.nil_append, List.append_assoc, List.set_cons_succ, List.set_cons_zero]
    ((repeat' first | refine tr_at 8 ?_; (refine z_alloc 1008 ?_) | refine tr_at 9 ?_; (refine z_alloc 1009 ?_) | refine tr_at 38 ?_; (refine tr_keep [0, 1, 2, 6, 7, 8, 9, 12, 32, 33, 35, 37, 44] ?_); refine y_inline func51 ntmps51 results51 fun tm sy => ?_; simp only [slots, shift, zipPs, List.nil_append, List.cons_append, List.append_nil, List.map_cons, List.map_nil, List.zipIdx_cons, List.zipIdx_nil, Nat.reduceAdd]; refine halt ?_ | refine yyp ?_; try refine s_bu ?_ ?_ <;> intro hb | refine yy ?_ | refine at_call 59 ?_; refine y_call (hc := c1) ?_ | refine at_nil ?_; refine z_nil qn13d_0 ?_ | refine tc_seq fun K hK => ?_ | refine tc_at 12 ?_; refine z_draw [6] qn13d_1 ?_ | apply_assumption -exfalso -symm); all_goals try refine unhalt ?_)
    (repeat' first | refine tr_at 17 ?_; (refine z_lit 2017 ?_) | refine tr_at 18 ?_; refine z_append0 2018 ?_ | refine yyp ?_; try refine s_bu ?_ ?_ <;> intro hb | refine yy ?_ | refine at_nil ?_; refine z_nil [0, 1, 2, 3, 8, 9] ?_ | refine tc_seq fun K hK => ?_ | apply_assumption -exfalso -symm)
    (refine y_endi ?_)
    ((repeat' first | refine tr_at 43 ?_; (refine tr_keep [0, 1, 2, 6, 7, 8, 9, 12, 32, 33, 39, 42, 44] ?_); refine y_inline func60 ntmps60 results60 fun tm sy => ?_; simp only [slots, shift, zipPs, List.nil_append, List.cons_append, List.append_nil, List.map_cons, List.map_nil, List.zipIdx_cons, List.zipIdx_nil, Nat.reduceAdd]; refine halt ?_ | refine yyp ?_; try refine s_bu ?_ ?_ <;> intro hb | refine yy ?_ | refine at_nil ?_; refine z_nil qn13d_0 ?_ | refine tc_seq fun K hK => ?_ | refine tc_at 12 ?_; refine z_draw [6] qn13d_1 ?_ | apply_assumption -exfalso -symm); all_goals try refine unhalt ?_)
    ((repeat' first | refine tc_at 4 ?_; refine halt ?_ | refine yyp ?_; try refine s_bu ?_ ?_ <;> intro hb | refine yy ?_ | refine at_nil ?_; refine z_nil [0, 1, 4, 5, 6, 7, 9, 17, 34, 57] ?_ | refine tc_seq fun K hK => ?_ | apply_assumption -exfalso -symm); all_goals try refine unhalt ?_)
    simp only [List.drop_succ_cons, List.drop_zero, List.length_cons, List.length_nil, Nat.add_sub_cancel, List.take_length, List.take_nil, Nat.sub_self, List.take_succ_cons]
    (repeat' first | refine yyp ?_; try refine s_bu ?_ ?_ <;> intro hb | refine yy ?_ | refine yyc ?_ | refine at_nil ?_; refine z_nil [0, 1, 4, 5, 6, 7, 9, 17, 34, 57] ?_ | refine tc_seq fun K hK => ?_ | apply_assumption -exfalso -symm)
    all_goals try (exfalso; simp only [List.length_cons, List.length_nil] at hcmp; omega)
    (refine tc_ret (y_reti ?_))
    ((repeat' first | refine tr_at 61 ?_; (refine tr_keep [0, 1, 2, 6, 7, 8, 9, 12, 32, 33, 44, 60, 61] ?_); refine y_inline func52 ntmps52 results52 fun tm sy => ?_; simp only [slots, shift, zipPs, List.nil_append, List.cons_append, List.append_nil, List.map_cons, List.map_nil, List.zipIdx_cons, List.zipIdx_nil, Nat.reduceAdd]; refine halt ?_ | refine yyp ?_; try refine s_bu ?_ ?_ <;> intro hb | refine yy ?_ | refine at_nil ?_; refine z_nil qn13d_0 ?_ | refine tc_seq fun K hK => ?_ | refine tc_at 12 ?_; refine z_draw [6] qn13d_1 ?_ | apply_assumption -exfalso -symm); all_goals try refine unhalt ?_)
    (repeat' first | refine yyp ?_; try refine s_bu ?_ ?_ <;> intro hb | refine yy ?_ | refine at_nil ?_; refine z_nil [0, 2, 3, 4, 5, 6] ?_ | refine tc_seq fun K hK => ?_ | apply_assumption -exfalso -symm)
    (refine tc_ret (y_reti ?_))
    (repeat' first | refine yyp ?_; try refine s_bu ?_ ?_ <;> intro hb | refine at_nil ?_; refine z_nil qn13d_0 ?_ | refine tc_seq fun K hK => ?_ | refine tc_at 12 ?_; refine z_draw [6] qn13d_1 ?_ | apply_assumption -exfalso -symm)
    refine tc_wk (wk_hbox_in (n := 900) (q := 902) (i := 115) rfl rfl rfl rfl (by (repeat (first | exact Drop.nil | apply Drop.drop rfl | apply Drop.take rfl)); fail_if_success intros) rfl) ?_
    (refine tc_ret (y_rete ⟨?_, rfl⟩))
    rfl
end
end Go.Proofs.YtjhbglklcddekaaGreatDoor
