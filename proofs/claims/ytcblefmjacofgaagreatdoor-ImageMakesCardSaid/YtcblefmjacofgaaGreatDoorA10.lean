/- Parts: F8, F9. -/
import Derived.Test.YtcblefmjacofgaaGreatDoorA7
import Derived.Test.YtcblefmjacofgaaGreatDoorA8
import Derived.Test.YtcblefmjacofgaaGreatDoorA4
import Derived.Test.YtcblefmjacofgaaGreatDoorA9
set_option linter.all false
set_option linter.unusedVariables false
set_option linter.unusedSimpArgs false
namespace Go.Proofs.YtcblefmjacofgaaGreatDoor
open Go.RowKit
theorem Im.obj_at {l : List Im.Obj} {n : Int} (h0 : 0 ≤ n) (h1 : n < l.length) : (l.map dObj)[n.toNat]? = some (dObj (Im.obj l n)) := by
  have : n.toNat < l.length := by omega
  rw [List.getElem?_map, List.getElem?_eq_getElem this]
  simp [Im.obj, List.getD_eq_getElem?_getD, List.getElem?_eq_getElem this]
theorem Im.obj_mem {l : List Im.Obj} {n : Int} (h0 : 0 ≤ n) (h1 : n < l.length) : Im.obj l n ∈ l := by
  have : n.toNat < l.length := by omega
  simp [Im.obj, List.getD_eq_getElem?_getD, List.getElem?_eq_getElem this]
theorem Im.loadC_wf (l : List Im.Obj) (n : Int) : (Im.loadC l n).Wf := by
  unfold Im.loadC
  exact ⟨by dsimp only; omega, by dsimp only; omega, by dsimp only; omega, by dsimp only; omega, by dsimp only; omega⟩
theorem Im.work_in (size : Int) (o : Im.Obj) : -2147483648 ≤ (Im.workspace size o).1 ∧ (Im.workspace size o).1 ≤ 2147483647 := by
  unfold Im.workspace
  split
  · rename_i h
    obtain ⟨h1, h2⟩ := h
    split
    · have := ws_range h1 h2 (by assumption)
      dsimp only
      omega
    · dsimp only; omega
  · dsimp only; omega
theorem Im.runC_wf (size : Int) {l : List Im.Obj} (n : Int) (h : Im.okObj (Im.obj l n)) : (Im.runC size l n).Wf := by
  have h1 := Im.work_in size (Im.obj l n)
  unfold Im.okObj at h
  unfold Im.runC
  exact ⟨by dsimp only; omega, h1.1, h1.2, by dsimp only; omega, by dsimp only; omega⟩
theorem take_min {α β : Type} (f : α → β) (l : List α) : ((l.map f).drop 0).take ((if (l.length : Int) < 64 then (l.length : Int) else 64).toNat - 0) = (l.take 64).map f := by
  split
  · rw [List.take_of_length_le (l := l) (by omega), List.drop_zero, List.take_of_length_le (by rw [List.length_map]; omega)]
  · rw [List.drop_zero, ← List.map_take]; rfl
theorem drop_min {α β : Type} (f : α → β) (l : List α) : ((l.map f).drop (if (l.length : Int) < 64 then (l.length : Int) else 64).toNat).take ((l.map f).length - (if (l.length : Int) < 64 then (l.length : Int) else 64).toNat) = (l.drop 64).map f := by
  rw [slice_all]
  split
  · rw [List.drop_of_length_le (by omega), List.drop_of_length_le (l := l) (i := 64) (by omega)]
  · rfl
attribute [local irreducible] TR TC
set_option maxRecDepth 100000 in
set_option maxHeartbeats 2000000 in
theorem chk1_fn (gl : List (Nat × List D)) (o : Im.Obj) : FnE Tryz.prog gl 29 [.d (dObj o)] [] (fun v H1 => v = .d (.bool (!decide (Im.okObj o))) ∧ H1 = []) := by
  (refine y_entere Tryz.func29 Tryz.ntmps29 Tryz.results29 fun w M E b0 => ?_; simp only [slots, List.map_cons, List.map_nil, List.zipIdx_cons, List.zipIdx_nil, Nat.reduceAdd])
  ((repeat' (first | (refine tr_at 1 ?_; (refine z_box 1 ?_)) | (refine yyp ?_; (try refine s_bu ?_ ?_ <;> (intro hb; try simp only [decide_eq_true_eq, decide_eq_false_iff_not] at hb))) | (refine yy ?_) | (refine yy2 ?_ ?_ <;> (intro hcmp; try simp only [cmp] at hcmp)) | (refine at_call 23 ?_; refine y_call (hc := (objmay_fn gl o)) ?_; (try refine s_bu ?_ ?_ <;> (intro hb; try simp only [decide_eq_true_eq, decide_eq_false_iff_not] at hb))) | (refine at_nil ?_; refine z_nil [0, 1, 2, 3, 4, 5] ?_) | (refine tc_seq fun K hK => ?_) | (apply_assumption -exfalso -symm))); all_goals (try refine unhalt ?_))
  all_goals
    (refine tc_ret (y_rete ⟨?_, rfl⟩))
    simp [oneOf, *]
set_option maxRecDepth 100000 in
set_option maxHeartbeats 2000000 in
theorem chk2_fn (gl : List (Nat × List D)) (n : Int) (o : Im.Obj) (hn : Im.okMem n) (ho : Im.okObj o) : FnE Tryz.prog gl 31 [.d (dObj o), .ptr 6 0] [(6, .box [.d (.int .i64 n)])] (fun v H1 => v = .d (.bool (!decide (Im.fits n o))) ∧ H1 = [(6, .box [.d (.int .i64 n)])]) := by
  (refine y_entere Tryz.func31 Tryz.ntmps31 Tryz.results31 fun w M E b0 => ?_; simp only [slots, List.map_cons, List.map_nil, List.zipIdx_cons, List.zipIdx_nil, Nat.reduceAdd])
  ((repeat' (first | (refine tr_at 2 ?_; (refine z_box 2 ?_)) | (refine yyp ?_; (try refine s_bu ?_ ?_ <;> (intro hb; try simp only [decide_eq_true_eq, decide_eq_false_iff_not] at hb))) | (refine yy ?_) | (refine yy2 ?_ ?_ <;> (intro hcmp; try simp only [cmp] at hcmp)) | (refine at_call 24 ?_; refine y_call (hc := (fits_fn gl n o hn ho)) ?_; (try refine s_bu ?_ ?_ <;> (intro hb; try simp only [decide_eq_true_eq, decide_eq_false_iff_not] at hb))) | (refine at_nil ?_; refine z_nil [0, 1, 2, 3, 4, 5, 6] ?_) | (refine tc_seq fun K hK => ?_) | (apply_assumption -exfalso -symm))); all_goals (try refine unhalt ?_))
  all_goals
    (refine tc_ret (y_rete ⟨?_, rfl⟩))
    simp [oneOf, *]
set_option maxRecDepth 100000 in
set_option maxHeartbeats 4000000 in
theorem check_fn (gl : List (Nat × List D)) (t : To.Topo) (node size : Int) (l : List Im.Obj) (hl : l.length ≤ 1000000) :
    FnD Tryz.prog gl 16 [.d (dTopo t), .d (.int .i64 node), .d (.int .i64 size), .d (.list 4 (l.map dObj))] (fun v => v = .d (.int .i64 (Im.check t node size l))) := by
  have hm := tmay_fn gl t
  unfold dTopo at hm ⊢
  (refine y_enter Tryz.func16 Tryz.ntmps16 Tryz.results16 fun w M => ?_; simp only [slots, List.map_cons, List.map_nil, List.zipIdx_cons, List.zipIdx_nil, Nat.reduceAdd])
  ((repeat' (first | (refine tr_at 4 ?_; (refine z_box 4 ?_)) | (refine tr_at 6 ?_; (refine z_box 6 ?_)) | (refine tr_at 29 ?_; (refine tr_keep [0, 1, 2, 3, 4, 6, 8, 9, 10, 26, 27, 28, 29, 30, 31, 40] ?_); refine y_inline Tryz.func30 Tryz.ntmps30 Tryz.results30 fun tm sy => ?_; simp only [slots, shift, zipPs, List.nil_append, List.cons_append, List.append_nil, List.map_cons, List.map_nil, List.zipIdx_cons, List.zipIdx_nil, Nat.reduceAdd]; refine halt ?_) | (refine tr_at 43 ?_; (refine tr_keep [0, 1, 2, 3, 4, 6, 8, 9, 10, 31, 40, 41, 42, 43] ?_); refine y_inline Tryz.func30 Tryz.ntmps30 Tryz.results30 fun tm sy => ?_; simp only [slots, shift, zipPs, List.nil_append, List.cons_append, List.append_nil, List.map_cons, List.map_nil, List.zipIdx_cons, List.zipIdx_nil, Nat.reduceAdd]; refine halt ?_) | (refine yyp ?_; (try refine s_bu ?_ ?_ <;> (intro hb; try simp only [decide_eq_true_eq, decide_eq_false_iff_not] at hb))) | (refine yy ?_) | (refine yy2 ?_ ?_ <;> (intro hcmp; try simp only [cmp] at hcmp)) | (refine at_call 25 ?_; refine y_call (hc := (hm)) ?_; (try refine s_bu ?_ ?_ <;> (intro hb; try simp only [decide_eq_true_eq, decide_eq_false_iff_not] at hb))) | (refine at_call 22 ?_; refine y_call (hc := (memory_fn gl size)) ?_; (try refine s_bu ?_ ?_ <;> (intro hb; try simp only [decide_eq_true_eq, decide_eq_false_iff_not] at hb))) | (refine at_nil ?_; refine z_nil [0, 1, 2, 3, 4, 6, 8, 9, 10, 31, 40] ?_) | (refine tc_seq fun K hK => ?_) | (apply_assumption -exfalso -symm))); all_goals (try refine unhalt ?_))
  case' refine_1.refine_1.refine_2 =>
    ((repeat' (first | (refine tr_at 7 ?_; (refine tr_keep [0, 1, 4, 5, 6, 7, 8] ?_); refine y_inline Tryz.func59 Tryz.ntmps59 Tryz.results59 fun tm sy => ?_; simp only [slots, shift, zipPs, List.nil_append, List.cons_append, List.append_nil, List.map_cons, List.map_nil, List.zipIdx_cons, List.zipIdx_nil, Nat.reduceAdd]; refine halt ?_) | (refine yyp ?_; (try refine s_bu ?_ ?_ <;> (intro hb; try simp only [decide_eq_true_eq, decide_eq_false_iff_not] at hb))) | (refine yy ?_) | (refine yy2 ?_ ?_ <;> (intro hcmp; try simp only [cmp] at hcmp)) | (refine at_nil ?_; refine z_nil [0, 1, 4, 5, 6, 7] ?_) | (refine tc_seq fun K hK => ?_) | (apply_assumption -exfalso -symm))); all_goals (try refine unhalt ?_))
    ((repeat' (first | (refine yyp ?_; (try refine s_bu ?_ ?_ <;> (intro hb; try simp only [decide_eq_true_eq, decide_eq_false_iff_not] at hb))) | (refine yy ?_) | (refine yy2 ?_ ?_ <;> (intro hcmp; try simp only [cmp] at hcmp)) | (refine at_nil ?_; refine z_nil [0, 1, 4, 5, 6, 7, 8, 9, 16] ?_) | (refine tc_seq fun K hK => ?_) | (apply_assumption -exfalso -symm))); all_goals (try refine unhalt ?_))
    refine y_famx [4, 5, 8, 9, 10, 11, 12, 13, 14, 15, 16, 17, 18] [] (fun k : Nat => [(8, .d (.int .i64 k))]) (fun _ => []) (fun k => k ≤ l.length ∧ ∀ o ∈ l.take k, Im.okObj o) (fun k => l.length - k) 0 ⟨by simp, by simp⟩  fun k ⟨hk, hok⟩ => ?_
    dsimp only [List.cons_append, List.nil_append]
    ((repeat' (first | (refine tr_at 16 ?_; refine y_callE (hc := chk1_fn gl (l[k]'(by omega))) ?_; (try refine s_bu ?_ ?_ <;> (intro hb; try simp only [decide_eq_true_eq, decide_eq_false_iff_not] at hb))) | (refine yyp ?_; (try refine s_bu ?_ ?_ <;> (intro hb; try simp only [decide_eq_true_eq, decide_eq_false_iff_not] at hb))) | (refine yy ?_) | (refine yy2 ?_ ?_ <;> (intro hcmp; try simp only [cmp] at hcmp)) | (refine at_nil ?_; refine z_nil [0, 1, 4, 5, 6, 7, 8, 9, 16] ?_) | (refine tc_seq fun K hK => ?_) | (apply_assumption -exfalso -symm))); all_goals (try refine unhalt ?_))
    · (refine tc_ret (y_reti ?_))
      simp only [oneOf]
      ((repeat' (first | (refine yyp ?_; (try refine s_bu ?_ ?_ <;> (intro hb; try simp only [decide_eq_true_eq, decide_eq_false_iff_not] at hb))) | (refine yy ?_) | (refine yy2 ?_ ?_ <;> (intro hcmp; try simp only [cmp] at hcmp)) | (refine at_nil ?_; refine z_nil [0, 1, 4, 5, 6, 7] ?_))); all_goals (try refine unhalt ?_))
      ((repeat' (first | (refine yyp ?_; (try refine s_bu ?_ ?_ <;> (intro hb; try simp only [decide_eq_true_eq, decide_eq_false_iff_not] at hb))) | (refine yy ?_) | (refine yy2 ?_ ?_ <;> (intro hcmp; try simp only [cmp] at hcmp)) | (refine at_nil ?_; refine z_nil [0, 1, 4, 5, 6, 7] ?_) | (refine tc_seq fun K hK => ?_) | (apply_assumption -exfalso -symm))); all_goals (try refine unhalt ?_))
      (refine tc_ret (y_reti ?_))
      simp only [oneOf]
      ((repeat' (first | (refine tr_at 4 ?_; (refine z_box 4 ?_)) | (refine tr_at 6 ?_; (refine z_box 6 ?_)) | (refine yyp ?_; (try refine s_bu ?_ ?_ <;> (intro hb; try simp only [decide_eq_true_eq, decide_eq_false_iff_not] at hb))) | (refine yy ?_) | (refine yy2 ?_ ?_ <;> (intro hcmp; try simp only [cmp] at hcmp)) | (refine at_nil ?_; refine z_nil [0, 1, 2, 3, 4, 6, 8, 9, 10, 31, 40] ?_))); all_goals (try refine unhalt ?_))
      ((repeat' (first | (refine tr_at 4 ?_; (refine z_box 4 ?_)) | (refine tr_at 6 ?_; (refine z_box 6 ?_)) | (refine yyp ?_; (try refine s_bu ?_ ?_ <;> (intro hb; try simp only [decide_eq_true_eq, decide_eq_false_iff_not] at hb))) | (refine yy ?_) | (refine yy2 ?_ ?_ <;> (intro hcmp; try simp only [cmp] at hcmp)) | (refine at_nil ?_; refine z_nil [0, 1, 2, 3, 4, 6, 8, 9, 10, 31, 40] ?_) | (refine tc_seq fun K hK => ?_) | (apply_assumption -exfalso -symm))); all_goals (try refine unhalt ?_))
      (refine tc_ret (y_ret ?_))
      have hno : ¬ ∀ o ∈ l, Im.okObj o := fun h => by
        have h1 := h _ (List.getElem_mem (l := l) (n := k) (by omega))
        simp [h1] at hb
      unfold Im.check
      rw [if_pos (fun h => hno h.2.2.2)]
      rfl
    · refine ⟨k + 1, ⟨by omega, fun o ho => ?_⟩, by omega, y_wk⟩
      have hk2 : k < l.length := by omega
      rw [← get_take _ hk2] at ho
      rcases List.mem_append.1 ho with ho | ho
      · exact hok o ho
      · rw [List.mem_singleton] at ho
        subst ho
        simpa using hb
    · have hkl : k = l.length := by omega
      subst hkl
      rw [List.take_length] at hok
      have hall : To.May t ∧ Im.okMem size ∧ (l.length : Int) = t.nodes ∧ ∀ o ∈ l, Im.okObj o := ⟨by assumption, by assumption, by omega, hok⟩
      have hmem : Im.okMem size := hall.2.1
      (refine tc_ret (y_reti ?_))
      simp only [oneOf]
      ((repeat' (first | (refine yyp ?_; (try refine s_bu ?_ ?_ <;> (intro hb; try simp only [decide_eq_true_eq, decide_eq_false_iff_not] at hb))) | (refine yy ?_) | (refine yy2 ?_ ?_ <;> (intro hcmp; try simp only [cmp] at hcmp)) | (refine at_nil ?_; refine z_nil [0, 1, 4, 5, 6, 7] ?_))); all_goals (try refine unhalt ?_))
      ((repeat' (first | (refine yyp ?_; (try refine s_bu ?_ ?_ <;> (intro hb; try simp only [decide_eq_true_eq, decide_eq_false_iff_not] at hb))) | (refine yy ?_) | (refine yy2 ?_ ?_ <;> (intro hcmp; try simp only [cmp] at hcmp)) | (refine at_nil ?_; refine z_nil [0, 1, 4, 5, 6, 7] ?_) | (refine tc_seq fun K hK => ?_) | (apply_assumption -exfalso -symm))); all_goals (try refine unhalt ?_))
      (refine tc_ret (y_reti ?_))
      simp only [oneOf]
      ((repeat' (first | (refine tr_at 4 ?_; (refine z_box 4 ?_)) | (refine tr_at 6 ?_; (refine z_box 6 ?_)) | (refine yyp ?_; (try refine s_bu ?_ ?_ <;> (intro hb; try simp only [decide_eq_true_eq, decide_eq_false_iff_not] at hb))) | (refine yy ?_) | (refine yy2 ?_ ?_ <;> (intro hcmp; try simp only [cmp] at hcmp)) | (refine at_nil ?_; refine z_nil [0, 1, 2, 3, 4, 6, 8, 9, 10, 31, 40] ?_))); all_goals (try refine unhalt ?_))
      ((repeat' (first | (refine tr_at 4 ?_; (refine z_box 4 ?_)) | (refine tr_at 6 ?_; (refine z_box 6 ?_)) | (refine tr_at 29 ?_; (refine tr_keep [0, 1, 2, 3, 4, 6, 8, 9, 10, 26, 27, 28, 29, 30, 31, 40] ?_); refine y_inline Tryz.func30 Tryz.ntmps30 Tryz.results30 fun tm sy => ?_; simp only [slots, shift, zipPs, List.nil_append, List.cons_append, List.append_nil, List.map_cons, List.map_nil, List.zipIdx_cons, List.zipIdx_nil, Nat.reduceAdd]; refine halt ?_) | (refine tr_at 43 ?_; (refine tr_keep [0, 1, 2, 3, 4, 6, 8, 9, 10, 31, 40, 41, 42, 43] ?_); refine y_inline Tryz.func30 Tryz.ntmps30 Tryz.results30 fun tm sy => ?_; simp only [slots, shift, zipPs, List.nil_append, List.cons_append, List.append_nil, List.map_cons, List.map_nil, List.zipIdx_cons, List.zipIdx_nil, Nat.reduceAdd]; refine halt ?_) | (refine yyp ?_; (try refine s_bu ?_ ?_ <;> (intro hb; try simp only [decide_eq_true_eq, decide_eq_false_iff_not] at hb))) | (refine yy ?_) | (refine yy2 ?_ ?_ <;> (intro hcmp; try simp only [cmp] at hcmp)) | (refine at_nil ?_; refine z_nil [0, 1, 2, 3, 4, 6, 8, 9, 10, 31, 40] ?_) | (refine tc_seq fun K hK => ?_) | (apply_assumption -exfalso -symm))); all_goals (try refine unhalt ?_))
      iterate 2
        focus
          (refine tc_ret (y_ret ?_))
          unfold Im.check
          rw [if_neg (fun h => h hall), if_pos (by omega)]
          rfl
      ((repeat' (first | (refine tr_at 7 ?_; (refine tr_keep [0, 1, 4, 5, 6, 7, 8] ?_); refine y_inline Tryz.func59 Tryz.ntmps59 Tryz.results59 fun tm sy => ?_; simp only [slots, shift, zipPs, List.nil_append, List.cons_append, List.append_nil, List.map_cons, List.map_nil, List.zipIdx_cons, List.zipIdx_nil, Nat.reduceAdd]; refine halt ?_) | (refine yyp ?_; (try refine s_bu ?_ ?_ <;> (intro hb; try simp only [decide_eq_true_eq, decide_eq_false_iff_not] at hb))) | (refine yy ?_) | (refine yy2 ?_ ?_ <;> (intro hcmp; try simp only [cmp] at hcmp)) | (refine at_nil ?_; refine z_nil [0, 1, 4, 5, 6, 7] ?_) | (refine tc_seq fun K hK => ?_) | (apply_assumption -exfalso -symm))); all_goals (try refine unhalt ?_))
      ((repeat' (first | (refine yyp ?_; (try refine s_bu ?_ ?_ <;> (intro hb; try simp only [decide_eq_true_eq, decide_eq_false_iff_not] at hb))) | (refine yy ?_) | (refine yy2 ?_ ?_ <;> (intro hcmp; try simp only [cmp] at hcmp)) | (refine at_nil ?_; refine z_nil [0, 1, 4, 5, 6, 7, 8, 9, 16] ?_) | (refine tc_seq fun K hK => ?_) | (apply_assumption -exfalso -symm))); all_goals (try refine unhalt ?_))
      refine y_famx [4, 5, 8, 9, 10, 11, 12, 13, 14, 15, 16, 17, 18] [] (fun k : Nat => [(8, .d (.int .i64 k))]) (fun _ => []) (fun k => k ≤ l.length ∧ ∀ o ∈ l.take k, Im.fits size o) (fun k => l.length - k) 0 ⟨by simp, by simp⟩  fun k ⟨hk, hfit⟩ => ?_
      dsimp only [List.cons_append, List.nil_append]
      ((repeat' (first | (refine tr_at 16 ?_; refine y_callE (hc := chk2_fn gl size (l[k]'(by omega)) hmem (hok _ (List.getElem_mem _))) ?_; (try refine s_bu ?_ ?_ <;> (intro hb; try simp only [decide_eq_true_eq, decide_eq_false_iff_not] at hb))) | (refine yyp ?_; (try refine s_bu ?_ ?_ <;> (intro hb; try simp only [decide_eq_true_eq, decide_eq_false_iff_not] at hb))) | (refine yy ?_) | (refine yy2 ?_ ?_ <;> (intro hcmp; try simp only [cmp] at hcmp)) | (refine at_nil ?_; refine z_nil [0, 1, 4, 5, 6, 7, 8, 9, 16] ?_) | (refine tc_seq fun K hK => ?_) | (apply_assumption -exfalso -symm))); all_goals (try refine unhalt ?_))
      · skip
        (refine tc_ret (y_reti ?_))
        simp only [oneOf]
        ((repeat' (first | (refine yyp ?_; (try refine s_bu ?_ ?_ <;> (intro hb; try simp only [decide_eq_true_eq, decide_eq_false_iff_not] at hb))) | (refine yy ?_) | (refine yy2 ?_ ?_ <;> (intro hcmp; try simp only [cmp] at hcmp)) | (refine at_nil ?_; refine z_nil [0, 1, 4, 5, 6, 7] ?_))); all_goals (try refine unhalt ?_))
        ((repeat' (first | (refine yyp ?_; (try refine s_bu ?_ ?_ <;> (intro hb; try simp only [decide_eq_true_eq, decide_eq_false_iff_not] at hb))) | (refine yy ?_) | (refine yy2 ?_ ?_ <;> (intro hcmp; try simp only [cmp] at hcmp)) | (refine at_nil ?_; refine z_nil [0, 1, 4, 5, 6, 7] ?_) | (refine tc_seq fun K hK => ?_) | (apply_assumption -exfalso -symm))); all_goals (try refine unhalt ?_))
        (refine tc_ret (y_reti ?_))
        simp only [oneOf]
        ((repeat' (first | (refine tr_at 4 ?_; (refine z_box 4 ?_)) | (refine tr_at 6 ?_; (refine z_box 6 ?_)) | (refine yyp ?_; (try refine s_bu ?_ ?_ <;> (intro hb; try simp only [decide_eq_true_eq, decide_eq_false_iff_not] at hb))) | (refine yy ?_) | (refine yy2 ?_ ?_ <;> (intro hcmp; try simp only [cmp] at hcmp)) | (refine at_nil ?_; refine z_nil [0, 1, 2, 3, 4, 6, 8, 9, 10, 31, 40] ?_))); all_goals (try refine unhalt ?_))
        ((repeat' (first | (refine tr_at 4 ?_; (refine z_box 4 ?_)) | (refine tr_at 6 ?_; (refine z_box 6 ?_)) | (refine yyp ?_; (try refine s_bu ?_ ?_ <;> (intro hb; try simp only [decide_eq_true_eq, decide_eq_false_iff_not] at hb))) | (refine yy ?_) | (refine yy2 ?_ ?_ <;> (intro hcmp; try simp only [cmp] at hcmp)) | (refine at_nil ?_; refine z_nil [0, 1, 2, 3, 4, 6, 8, 9, 10, 31, 40] ?_) | (refine tc_seq fun K hK => ?_) | (apply_assumption -exfalso -symm))); all_goals (try refine unhalt ?_))
        (refine tc_ret (y_ret ?_))
        have hno : ¬ ∀ o ∈ l, Im.fits size o := fun h => by
          have h1 := h _ (List.getElem_mem (l := l) (n := k) (by omega))
          simp [h1] at hb
        unfold Im.check
        rw [if_neg (fun h => h hall), if_neg (by omega), if_pos hno]
        rfl
      · refine ⟨k + 1, ⟨by omega, fun o ho => ?_⟩, by omega, y_wk⟩
        have hk2 : k < l.length := by omega
        rw [← get_take _ hk2] at ho
        rcases List.mem_append.1 ho with ho | ho
        · exact hfit o ho
        · rw [List.mem_singleton] at ho
          subst ho
          simpa using hb
      · have hkl : k = l.length := by omega
        subst hkl
        rw [List.take_length] at hfit
        (refine tc_ret (y_reti ?_))
        simp only [oneOf]
        ((repeat' (first | (refine yyp ?_; (try refine s_bu ?_ ?_ <;> (intro hb; try simp only [decide_eq_true_eq, decide_eq_false_iff_not] at hb))) | (refine yy ?_) | (refine yy2 ?_ ?_ <;> (intro hcmp; try simp only [cmp] at hcmp)) | (refine at_nil ?_; refine z_nil [0, 1, 4, 5, 6, 7] ?_))); all_goals (try refine unhalt ?_))
        ((repeat' (first | (refine yyp ?_; (try refine s_bu ?_ ?_ <;> (intro hb; try simp only [decide_eq_true_eq, decide_eq_false_iff_not] at hb))) | (refine yy ?_) | (refine yy2 ?_ ?_ <;> (intro hcmp; try simp only [cmp] at hcmp)) | (refine at_nil ?_; refine z_nil [0, 1, 4, 5, 6, 7] ?_) | (refine tc_seq fun K hK => ?_) | (apply_assumption -exfalso -symm))); all_goals (try refine unhalt ?_))
        (refine tc_ret (y_reti ?_))
        simp only [oneOf]
        ((repeat' (first | (refine tr_at 4 ?_; (refine z_box 4 ?_)) | (refine tr_at 6 ?_; (refine z_box 6 ?_)) | (refine yyp ?_; (try refine s_bu ?_ ?_ <;> (intro hb; try simp only [decide_eq_true_eq, decide_eq_false_iff_not] at hb))) | (refine yy ?_) | (refine yy2 ?_ ?_ <;> (intro hcmp; try simp only [cmp] at hcmp)) | (refine at_nil ?_; refine z_nil [0, 1, 2, 3, 4, 6, 8, 9, 10, 31, 40] ?_))); all_goals (try refine unhalt ?_))
        ((repeat' (first | (refine tr_at 4 ?_; (refine z_box 4 ?_)) | (refine tr_at 6 ?_; (refine z_box 6 ?_)) | (refine yyp ?_; (try refine s_bu ?_ ?_ <;> (intro hb; try simp only [decide_eq_true_eq, decide_eq_false_iff_not] at hb))) | (refine yy ?_) | (refine yy2 ?_ ?_ <;> (intro hcmp; try simp only [cmp] at hcmp)) | (refine at_nil ?_; refine z_nil [0, 1, 2, 3, 4, 6, 8, 9, 10, 31, 40] ?_) | (refine tc_seq fun K hK => ?_) | (apply_assumption -exfalso -symm))); all_goals (try refine unhalt ?_))
        (refine tc_ret (y_ret ?_))
        unfold Im.check
        rw [if_neg (fun h => h hall), if_neg (by omega), if_neg (fun h => h hfit)]
        rfl
  all_goals
    ((repeat' (first | (refine tr_at 4 ?_; (refine z_box 4 ?_)) | (refine tr_at 6 ?_; (refine z_box 6 ?_)) | (refine yyp ?_; (try refine s_bu ?_ ?_ <;> (intro hb; try simp only [decide_eq_true_eq, decide_eq_false_iff_not] at hb))) | (refine yy ?_) | (refine yy2 ?_ ?_ <;> (intro hcmp; try simp only [cmp] at hcmp)) | (refine at_nil ?_; refine z_nil [0, 1, 2, 3, 4, 6, 8, 9, 10, 31, 40] ?_))); all_goals (try refine unhalt ?_))
    ((repeat' (first | (refine tr_at 4 ?_; (refine z_box 4 ?_)) | (refine tr_at 6 ?_; (refine z_box 6 ?_)) | (refine yyp ?_; (try refine s_bu ?_ ?_ <;> (intro hb; try simp only [decide_eq_true_eq, decide_eq_false_iff_not] at hb))) | (refine yy ?_) | (refine yy2 ?_ ?_ <;> (intro hcmp; try simp only [cmp] at hcmp)) | (refine at_nil ?_; refine z_nil [0, 1, 2, 3, 4, 6, 8, 9, 10, 31, 40] ?_) | (refine tc_seq fun K hK => ?_) | (apply_assumption -exfalso -symm))); all_goals (try refine unhalt ?_))
    (refine tc_ret (y_ret ?_))
    simp [oneOf, Im.check, *]
end Go.Proofs.YtcblefmjacofgaaGreatDoor
namespace Go.Proofs.YtcblefmjacofgaaGreatDoor
open Go.RowKit
attribute [local irreducible] TR TC
set_option maxRecDepth 100000 in
set_option maxHeartbeats 2000000 in
theorem loadlast_fn (gl : List (Nat × List D)) (l : List Im.Obj) (n : Int) (h0 : 0 ≤ n) (h1 : n < l.length) : FnE Tryz.prog gl 33 [.d (.int .i64 n), .ptr 1003 0] [(1003, .box [.d (.list 4 (l.map dObj))])] (fun v H1 => v = .d (dCmd ((Im.loadC l) n)) ∧ H1 = [(1003, .box [.d (.list 4 (l.map dObj))])]) := by
  have hob := Im.obj_at h0 h1
  have hnl : n.toNat < l.length := by omega
  unfold Im.loadC
  generalize Im.obj l n = ob at hob ⊢
  (refine y_entere Tryz.func33 Tryz.ntmps33 Tryz.results33 fun w M E b0 => ?_; simp only [slots, List.map_cons, List.map_nil, List.zipIdx_cons, List.zipIdx_nil, Nat.reduceAdd])
  ((repeat' (first | (refine tr_at 3 ?_; (refine z_alloc 3 ?_)) | (refine tr_at 9 ?_; refine z_p w_buildn ?_) | (refine yyp ?_; (try refine s_bu ?_ ?_ <;> (intro hb; try simp only [decide_eq_true_eq, decide_eq_false_iff_not] at hb))) | (refine yy ?_) | (refine yy2 ?_ ?_ <;> (intro hcmp; try simp only [cmp] at hcmp)) | (refine at_nil ?_; refine z_nil [0, 1, 3, 4, 5, 6, 48] ?_) | (refine tc_seq fun K hK => ?_) | (apply_assumption -exfalso -symm))); all_goals (try refine unhalt ?_))
  all_goals
    (refine tc_ret (y_rete ⟨?_, rfl⟩))
    simp only [oneOf, dCmd, dBytes, dObj]
    first | exact ⟨rfl, rfl⟩ | rfl
def loadH (t : To.Topo) (l : List Im.Obj) : List (Nat × Ob) := [(2003, boxT t), (2004, .box [.d (dBytes I.bootB)]), (2005, .box [.clo (.func 33) [] [.ptr 1003 0]]), (2007, .box [.clo (.func 60) [] [.ptr 2003 0, .ptr 2007 0, .ptr 2005 0, .ptr 2004 0]]), (1003, .box [.d (.list 4 (l.map dObj))])]
set_option maxRecDepth 100000 in
set_option maxHeartbeats 8000000 in
theorem load_of (gl : List (Nat × List D)) (t : To.Topo) (l : List Im.Obj) (hmay : To.May t) (hll : (l.length : Int) = t.nodes) (hall : ∀ o ∈ l, Im.okObj o) : ∀ (f i : Nat) (hi : i < (To.order t).length), (To.order t).length ≤ i + f →
    FnE Tryz.prog gl 60 [.d (.int .i64 (To.order t)[i].node), .ptr 2003 0, .ptr 2007 0, .ptr 2005 0, .ptr 2004 0] (loadH t l) (fun v H1 => v = .d (dBytes (Im.tr t I.bootB (Im.loadC l) f (To.order t)[i].node)) ∧ H1 = loadH t l) := by
  intro f
  induction f with
  | zero => intro i hi h; omega
  | succ f ih =>
    intro i hi hf
    have hr := (To.order_good hmay.sound).range _ (List.getElem_mem hi)
    unfold To.inR at hr
    obtain ⟨hn0, hn1⟩ := hr
    have hch := fun k hk => Im.child_at (k := k) hmay hi hk
    generalize (To.order t)[i].node = n at hn0 hn1 hch ⊢
    have hC : FnD Tryz.prog gl 46 [.d (dTopo t), .d (.int .i64 n)] (fun v => v = .tup [.d (.list 1 ((To.kids t n).map dInt)), .d (.int .i64 0)]) := by
      have := tchildren_fn gl t n
      unfold To.children at this
      rw [if_pos hmay, if_neg (by omega)] at this
      exact this
    have hP : ∀ k ∈ To.kids t n, ∃ lk, FnD Tryz.prog gl 48 [.d (dTopo t), .d (.agg [.int .i64 n, .int .i64 (k : Nat)])] (fun v => v = .tup [.d (.agg [.int .i64 (Im.child t n k), .int .i64 lk]), .d (.bool true)]) := fun k hk => by
      have := tpeer_fn gl t ⟨n, (k : Nat)⟩
      have hk' := (List.mem_filter.1 hk).2
      unfold To.kid at hk'
      simp only [Bool.and_eq_true] at hk'
      rw [if_pos hmay, hk'.1, decide_eq_true hmay] at this
      exact ⟨_, this⟩
    have hlast := loadlast_fn gl l n hn0 (by omega)
    have hwl : ((Im.loadC l) n).Wf := Im.loadC_wf l n
    have hk4 := fun k (hk : k ∈ To.kids t n) => Im.kids_lt hk
    have hkl := Im.kids_len t n
    have htl := fun k => Im.tr_len t I.bootB (Im.loadC l) (by decide) f (Im.child t n k)
    have htr : Im.tr t I.bootB (Im.loadC l) (f + 1) n = I.bootB ++ (I.putC (((To.kids t n).flatMap fun k => Im.fwd k (Im.tr t I.bootB (Im.loadC l) f (Im.child t n k))) ++ [(Im.loadC l) n])).1 := rfl
    rw [htr]
    generalize To.kids t n = ks at hC hP hch hk4 hkl ⊢
    have hput : ∀ cl, cl = (ks.flatMap fun k => Im.fwd k (Im.tr t I.bootB (Im.loadC l) f (Im.child t n k))) → FnD Tryz.prog gl 62 [.d (.list 4 (cl.map dCmd ++ [dCmd ((Im.loadC l) n)]))] (fun v => v = .tup [.d (dBytes (I.putC (cl ++ [(Im.loadC l) n])).1), .d (.int .i64 (I.putC (cl ++ [(Im.loadC l) n])).2)]) := fun cl hcl => by
      have := lput_fn gl (cl ++ [(Im.loadC l) n]) (fun c hc => by
        rcases List.mem_append.1 hc with hc | hc
        · rw [hcl] at hc
          obtain ⟨k, hk, hc⟩ := List.mem_flatMap.1 hc
          exact Im.fwd_wf (hk4 k hk) _ c hc
        · rw [List.mem_singleton] at hc
          subst hc
          exact hwl)
      rwa [List.map_append] at this
    unfold dTopo at hC hP
    have ih' : ∀ k ∈ ks, FnE Tryz.prog gl 60 [.d (.int .i64 (Im.child t n k)), .ptr 2003 0, .ptr 2007 0, .ptr 2005 0, .ptr 2004 0] (loadH t l) (fun v H1 => v = .d (dBytes (Im.tr t I.bootB (Im.loadC l) f (Im.child t n k))) ∧ H1 = loadH t l) := fun k hk => by
      obtain ⟨j, hij, hj, e⟩ := hch k hk
      have := ih j hj (by omega)
      rw [e] at this
      exact this
    clear ih
    unfold loadH boxT at ih' ⊢
    (refine y_entere Tryz.func60 Tryz.ntmps60 Tryz.results60 fun w M E b0 => ?_; simp only [slots, List.map_cons, List.map_nil, List.zipIdx_cons, List.zipIdx_nil, Nat.reduceAdd])
    ((repeat' (first | (refine tr_at 7 ?_; (refine z_alloc 7 ?_)) | (refine tr_at 11 ?_; (refine z_alloc 11 ?_)) | (refine tr_at 12 ?_; (refine z_alloc 12 ?_)) | (refine tr_at 50 ?_; (refine z_lit 50 ?_)) | (refine tr_at 51 ?_; refine z_append0 51 ?_) | (refine tr_at 58 ?_; (refine z_lit 58 ?_)) | (refine tr_at 59 ?_; refine z_append0 59 ?_) | (refine tr_at 65 ?_; (refine z_lit 65 ?_)) | (refine yyp ?_; (try refine s_bu ?_ ?_ <;> (intro hb; try simp only [decide_eq_true_eq, decide_eq_false_iff_not] at hb))) | (refine yy ?_) | (refine yy2 ?_ ?_ <;> (intro hcmp; try simp only [cmp] at hcmp)) | (refine at_call 46 ?_; refine y_call (hc := (hC)) ?_) | (refine at_append ?_; first | (refine z_append (fun kv => ?_)) | (refine z_append_suf (fun sx sp kv hsx hsp hsl => ?_))) | (refine at_nil ?_; refine z_nil [0, 1, 2, 3, 4, 6, 7, 8, 11, 12, 14, 15, 23, 24, 25, 26, 41, 42] ?_) | (refine tc_seq fun K hK => ?_) | (refine tc_at 11 ?_; refine z_draw [5] (lin [8, 1, 5, 14, 18, 23, 26, 28, 32, 36, 40, 44]) ?_) | (apply_assumption -exfalso -symm))); all_goals (try refine unhalt ?_))
    refine tc_nilbox 7 77 0 (e := 48) (sz := 4) rfl rfl rfl ?_
    refine y_famx (ι := Nat × List I.Cmd × Nat) [11, 12, 13, 14, 25, 26, 27, 28, 29, 30, 31, 32, 33, 34, 35, 36, 37, 38, 39, 40, 41, 43, 44, 45, 46, 47, 48, 49, 50, 51, 52] [7, 77] (fun x => [(25, .d (.int .i64 x.1))]) (fun x => [(7, .box [.own 77 x.2.2]), (77, .row 48 4 true (x.2.1.map dCmd) x.2.2)])
      (fun x => x.1 ≤ ks.length ∧ x.2.1 = (ks.take x.1).flatMap (fun k => Im.fwd k (Im.tr t I.bootB (Im.loadC l) f (Im.child t n k))) ∧ x.2.1.length ≤ x.1 * 2000000) (fun x => ks.length - x.1) (0, [], 0) ⟨by simp, rfl, by simp⟩  fun ⟨j, cl, ver⟩ ⟨hj, hcl, hcll⟩ => ?_
    dsimp only [List.cons_append, List.nil_append] at hj hcl hcll ⊢
    rcases Nat.lt_or_ge j ks.length with hjl | hjl
    · have hkm := List.getElem_mem hjl
      have hk := hk4 _ hkm
      obtain ⟨lk, hPk⟩ := hP _ hkm
      have hofk := ih' _ hkm
      have htlk := htl ks[j]
      ((repeat' (first | (refine tr_at 7 ?_; (refine z_alloc 7 ?_)) | (refine tr_at 11 ?_; (refine z_alloc 11 ?_)) | (refine tr_at 12 ?_; (refine z_alloc 12 ?_)) | (refine tr_at 40 ?_; refine y_callE (hc := hofk) ?_) | (refine tr_at 41 ?_; (refine tr_keep [0, 1, 2, 3, 4, 6, 7, 8, 11, 12, 14, 15, 23, 24, 25, 26, 40, 41, 42] ?_); refine y_inline Tryz.func61 Tryz.ntmps61 Tryz.results61 fun tm sy => ?_; simp only [slots, shift, zipPs, List.nil_append, List.cons_append, List.append_nil, List.map_cons, List.map_nil, List.zipIdx_cons, List.zipIdx_nil, Nat.reduceAdd]; refine halt ?_) | (refine tr_at 50 ?_; (refine z_lit 50 ?_)) | (refine tr_at 51 ?_; refine z_append0 51 ?_) | (refine tr_at 58 ?_; (refine z_lit 58 ?_)) | (refine tr_at 59 ?_; refine z_append0 59 ?_) | (refine tr_at 65 ?_; (refine z_lit 65 ?_)) | (refine yyp ?_; (try refine s_bu ?_ ?_ <;> (intro hb; try simp only [decide_eq_true_eq, decide_eq_false_iff_not] at hb))) | (refine yy ?_) | (refine yy2 ?_ ?_ <;> (intro hcmp; try simp only [cmp] at hcmp)) | (refine at_call 48 ?_; refine y_call (hc := (hPk)) ?_) | (refine at_append ?_; first | (refine z_append (fun kv => ?_)) | (refine z_append_suf (fun sx sp kv hsx hsp hsl => ?_))) | (refine at_nil ?_; refine z_nil [0, 1, 2, 3, 4, 6, 7, 8, 11, 12, 14, 15, 23, 24, 25, 26, 41, 42] ?_) | (refine tc_seq fun K hK => ?_) | (refine tc_at 11 ?_; refine z_draw [5] (lin [8, 1, 5, 14, 18, 23, 26, 28, 32, 36, 40, 44]) ?_) | (apply_assumption -exfalso -symm))); all_goals (try refine unhalt ?_))
      ((repeat' (first | (refine tr_at 1 ?_; (refine z_box 3001 ?_)) | (refine yyp ?_; (try refine s_bu ?_ ?_ <;> (intro hb; try simp only [decide_eq_true_eq, decide_eq_false_iff_not] at hb))) | (refine yy ?_) | (refine yy2 ?_ ?_ <;> (intro hcmp; try simp only [cmp] at hcmp)) | (refine at_nil ?_; refine z_nil [0, 1, 2, 3] ?_) | (refine tc_seq fun K hK => ?_) | (apply_assumption -exfalso -symm))); all_goals (try refine unhalt ?_))
      (refine tc_ret (y_reti ?_))
      simp only [oneOf]
      ((repeat' (first | (refine tr_at 7 ?_; (refine z_alloc 7 ?_)) | (refine tr_at 11 ?_; (refine z_alloc 11 ?_)) | (refine tr_at 12 ?_; (refine z_alloc 12 ?_)) | (refine tr_at 50 ?_; (refine z_lit 50 ?_)) | (refine tr_at 51 ?_; refine z_append0 51 ?_) | (refine tr_at 58 ?_; (refine z_lit 58 ?_)) | (refine tr_at 59 ?_; refine z_append0 59 ?_) | (refine tr_at 65 ?_; (refine z_lit 65 ?_)) | (refine yyp ?_; (try refine s_bu ?_ ?_ <;> (intro hb; try simp only [decide_eq_true_eq, decide_eq_false_iff_not] at hb))) | (refine yy ?_) | (refine yy2 ?_ ?_ <;> (intro hcmp; try simp only [cmp] at hcmp)) | (refine at_append ?_; first | (refine z_append (fun kv => ?_)) | (refine z_append_suf (fun sx sp kv hsx hsp hsl => ?_))) | (refine at_nil ?_; refine z_nil [0, 1, 2, 3, 4, 6, 7, 8, 11, 12, 14, 15, 23, 24, 25, 26, 41, 42] ?_))); all_goals (try refine unhalt ?_))
      ((repeat' (first | (refine tr_at 7 ?_; (refine z_alloc 7 ?_)) | (refine tr_at 11 ?_; (refine z_alloc 11 ?_)) | (refine tr_at 12 ?_; (refine z_alloc 12 ?_)) | (refine tr_at 50 ?_; (refine z_lit 50 ?_)) | (refine tr_at 51 ?_; refine z_append0 51 ?_) | (refine tr_at 58 ?_; (refine z_lit 58 ?_)) | (refine tr_at 59 ?_; refine z_append0 59 ?_) | (refine tr_at 65 ?_; (refine z_lit 65 ?_)) | (refine yyp ?_; (try refine s_bu ?_ ?_ <;> (intro hb; try simp only [decide_eq_true_eq, decide_eq_false_iff_not] at hb))) | (refine yy ?_) | (refine yy2 ?_ ?_ <;> (intro hcmp; try simp only [cmp] at hcmp)) | (refine at_append ?_; first | (refine z_append (fun kv => ?_)) | (refine z_append_suf (fun sx sp kv hsx hsp hsl => ?_))) | (refine at_nil ?_; refine z_nil [0, 1, 2, 3, 4, 6, 7, 8, 11, 12, 14, 15, 23, 24, 25, 26, 41, 42] ?_) | (refine tc_seq fun K hK => ?_) | (refine tc_at 11 ?_; refine z_draw [5] (lin [8, 1, 5, 14, 18, 23, 26, 28, 32, 36, 40, 44]) ?_) | (apply_assumption -exfalso -symm))); all_goals (try refine unhalt ?_))
      generalize hB : Im.tr t I.bootB (Im.loadC l) f (Im.child t n ks[j]) = B at htlk
      (refine tc_range rfl rfl rfl Tryz.func82 rfl Tryz.ntmps82 Tryz.results82 rfl rfl (by (repeat (first | exact Nub.nil _ | apply Nub.skip rfl | apply Nub.keep rfl)); fail_if_success intros) fun tm fn0 sy D0 htm hnt hlow => ?_; simp only [slots, shift, zipPs, List.nil_append, List.cons_append, List.append_nil, List.map_cons, List.map_nil, List.zipIdx_cons, List.zipIdx_nil, Nat.reduceAdd])
      ((repeat' (first | (refine yyp ?_; (try refine s_bu ?_ ?_ <;> (intro hb; try simp only [decide_eq_true_eq, decide_eq_false_iff_not] at hb))) | (refine yy ?_) | (refine yy2 ?_ ?_ <;> (intro hcmp; try simp only [cmp] at hcmp)) | (refine at_nil ?_; refine z_nil [0, 1, 3, 4, 5, 6, 15] ?_) | (refine tc_seq fun K hK => ?_) | (apply_assumption -exfalso -symm))); all_goals (try refine unhalt ?_))
      refine y_famx (ι := List UInt8 × List I.Cmd × Nat) [3, 4, 5, 6, 7, 8, 9, 10, 11, 12, 13, 14, 15, 16, 17, 18] [3001, 7, 77] (fun _ => []) (fun x => [(3001, .box [.d (.list 1 (x.1.map dByte))]), (7, .box [.own 77 x.2.2]), (77, .row 48 4 true (x.2.1.map dCmd) x.2.2)])
        (fun x => x.2.1 ++ Im.fwd ks[j] x.1 = cl ++ Im.fwd ks[j] B ∧ x.1.length ≤ 1049576 ∧ x.2.1.length + x.1.length ≤ j * 2000000 + 1049576) (fun x => x.1.length) (B, cl, ver) ⟨rfl, htlk, by dsimp only; omega⟩  fun ⟨r, cl2, ver2⟩ ⟨hrc, hr1, hr2⟩ => ?_
      dsimp only [List.cons_append, List.nil_append] at hrc hr1 hr2 ⊢
      rcases Nat.eq_zero_or_pos r.length with hr0 | hr0
      · ((repeat' (first | (refine yyp ?_; (try refine s_bu ?_ ?_ <;> (intro hb; try simp only [decide_eq_true_eq, decide_eq_false_iff_not] at hb))) | (refine yy ?_) | (refine yy2 ?_ ?_ <;> (intro hcmp; try simp only [cmp] at hcmp)) | (refine at_nil ?_; refine z_nil [0, 1, 3, 4, 5, 6, 15] ?_) | (refine tc_seq fun K hK => ?_) | (apply_assumption -exfalso -symm))); all_goals (try refine unhalt ?_))
        (refine y_endi ?_)
        ((repeat' (first | (refine tr_at 7 ?_; (refine z_alloc 7 ?_)) | (refine tr_at 11 ?_; (refine z_alloc 11 ?_)) | (refine tr_at 12 ?_; (refine z_alloc 12 ?_)) | (refine tr_at 50 ?_; (refine z_lit 50 ?_)) | (refine tr_at 51 ?_; refine z_append0 51 ?_) | (refine tr_at 58 ?_; (refine z_lit 58 ?_)) | (refine tr_at 59 ?_; refine z_append0 59 ?_) | (refine tr_at 65 ?_; (refine z_lit 65 ?_)) | (refine yyp ?_; (try refine s_bu ?_ ?_ <;> (intro hb; try simp only [decide_eq_true_eq, decide_eq_false_iff_not] at hb))) | (refine yy ?_) | (refine yy2 ?_ ?_ <;> (intro hcmp; try simp only [cmp] at hcmp)) | (refine at_append ?_; first | (refine z_append (fun kv => ?_)) | (refine z_append_suf (fun sx sp kv hsx hsp hsl => ?_))) | (refine at_nil ?_; refine z_nil [0, 1, 2, 3, 4, 6, 7, 8, 11, 12, 14, 15, 23, 24, 25, 26, 41, 42] ?_) | (refine tc_seq fun K hK => ?_) | (refine tc_at 11 ?_; refine z_draw [5] (lin [8, 1, 5, 14, 18, 23, 26, 28, 32, 36, 40, 44]) ?_) | (apply_assumption -exfalso -symm))); all_goals (try refine unhalt ?_))
        have hr : r = [] := List.eq_nil_of_length_eq_zero hr0
        subst hr
        have hcl2 : cl2 = cl ++ Im.fwd ks[j] B := by rw [← hrc, show Im.fwd ks[j] [] = [] from rfl, List.append_nil]
        refine ⟨(j + 1, cl2, ver2), ⟨by dsimp only; omega, ?_, ?_⟩, by dsimp only; omega, y_wk⟩
        · dsimp only
          rw [hcl2, hcl, ← get_take _ hjl, List.flatMap_append, List.flatMap_cons, List.flatMap_nil, List.append_nil, hB]
        · dsimp only
          omega
      · ((repeat' (first | (refine tr_at 14 ?_; (refine tr_keep [0, 1, 3, 4, 5, 6, 10, 13, 14, 15] ?_); (refine s_yield (envc := [(7, .ptr 7 0), (11, .ptr 11 0)]) htm hnt hlow rfl rfl (by (repeat (first | exact Evs.nil | apply Evs.cons rfl rfl)); fail_if_success intros) rfl rfl (by decide) (by (repeat (first | exact Nub.nil _ | apply Nub.skip rfl | apply Nub.keep rfl)); fail_if_success intros) (by simp only [shift, List.map_cons, List.map_nil, Nat.reduceAdd]; (repeat (first | exact Sub.nil | apply Sub.cons rfl)); fail_if_success intros) rfl (ltd rfl) rfl fun tm1 sy1 => ?_; simp only [slots, shift, zipPs, List.nil_append, List.cons_append, List.append_nil, List.map_cons, List.map_nil, List.zipIdx_cons, List.zipIdx_nil, Nat.reduceAdd]; refine halt ?_)) | (refine yyp ?_; (try refine s_bu ?_ ?_ <;> (intro hb; try simp only [decide_eq_true_eq, decide_eq_false_iff_not] at hb))) | (refine yy ?_) | (refine yy2 ?_ ?_ <;> (intro hcmp; try simp only [cmp] at hcmp)) | (refine at_nil ?_; refine z_nil [0, 1, 3, 4, 5, 6, 15] ?_) | (refine tc_seq fun K hK => ?_) | (apply_assumption -exfalso -symm))); all_goals (try refine unhalt ?_))
        ((repeat' (first | (refine tr_at 7 ?_; (refine z_alloc 7 ?_)) | (refine tr_at 11 ?_; (refine z_alloc 11 ?_)) | (refine tr_at 12 ?_; (refine z_alloc 12 ?_)) | (refine tr_at 50 ?_; (refine z_lit 50 ?_)) | (refine tr_at 51 ?_; refine z_append0 51 ?_) | (refine tr_at 58 ?_; (refine z_lit 58 ?_)) | (refine tr_at 59 ?_; refine z_append0 59 ?_) | (refine tr_at 65 ?_; (refine z_lit 65 ?_)) | (refine yyp ?_; (try refine s_bu ?_ ?_ <;> (intro hb; try simp only [decide_eq_true_eq, decide_eq_false_iff_not] at hb))) | (refine yy ?_) | (refine yy2 ?_ ?_ <;> (intro hcmp; try simp only [cmp] at hcmp)) | (refine at_append ?_; first | (refine z_append (fun kv => ?_)) | (refine z_append_suf (fun sx sp kv hsx hsp hsl => ?_))) | (refine at_nil ?_; refine z_nil [0, 1, 2, 3, 4, 6, 7, 8, 11, 12, 14, 15, 23, 24, 25, 26, 41, 42] ?_) | (refine tc_seq fun K hK => ?_) | (refine tc_at 11 ?_; refine z_draw [5] (lin [8, 1, 5, 14, 18, 23, 26, 28, 32, 36, 40, 44]) ?_) | (apply_assumption -exfalso -symm))); all_goals (try refine unhalt ?_))
        (refine EndsA.mk rfl ?_)
        refine tc_block ?_
        ((refine tc_region (id := 9) ?_); (repeat' (first | (refine tr_at 7 ?_; (refine z_alloc 7 ?_)) | (refine tr_at 11 ?_; (refine z_alloc 11 ?_)) | (refine tr_at 12 ?_; (refine z_alloc 12 ?_)) | (refine tr_at 50 ?_; (refine z_lit 50 ?_)) | (refine tr_at 51 ?_; refine z_append0 51 ?_) | (refine tr_at 58 ?_; (refine z_lit 58 ?_)) | (refine tr_at 59 ?_; refine z_append0 59 ?_) | (refine tr_at 65 ?_; (refine z_lit 65 ?_)) | (refine yyp ?_; (try refine s_bu ?_ ?_ <;> (intro hb; try simp only [decide_eq_true_eq, decide_eq_false_iff_not] at hb))) | (refine yy ?_) | (refine yy2 ?_ ?_ <;> (intro hcmp; try simp only [cmp] at hcmp)) | (refine at_append ?_; first | (refine z_append (fun kv => ?_)) | (refine z_append_suf (fun sx sp kv hsx hsp hsl => ?_))) | (refine at_nil ?_; refine z_nil [0, 1, 2, 3, 4, 6, 7, 8, 11, 12, 14, 15, 23, 24, 25, 26, 41, 42] ?_))); all_goals (try refine unhalt ?_))
        (refine y_endy ?_)
        ((repeat' (first | (refine yyp ?_; (try refine s_bu ?_ ?_ <;> (intro hb; try simp only [decide_eq_true_eq, decide_eq_false_iff_not] at hb))) | (refine yy ?_) | (refine yy2 ?_ ?_ <;> (intro hcmp; try simp only [cmp] at hcmp)) | (refine at_nil ?_; refine z_nil [0, 1, 3, 4, 5, 6, 15] ?_))); all_goals (try refine unhalt ?_))
        ((repeat' (first | (refine yyp ?_; (try refine s_bu ?_ ?_ <;> (intro hb; try simp only [decide_eq_true_eq, decide_eq_false_iff_not] at hb))) | (refine yy ?_) | (refine yy2 ?_ ?_ <;> (intro hcmp; try simp only [cmp] at hcmp)) | (refine at_nil ?_; refine z_nil [0, 1, 3, 4, 5, 6, 15] ?_) | (refine tc_seq fun K hK => ?_) | (apply_assumption -exfalso -symm))); all_goals (try refine unhalt ?_))
        refine ⟨(r.drop 64, cl2 ++ [⟨2, -2147483648 + 4 * (ks[j] : Int), 0, r.take 64⟩], kv), ⟨?_, ?_, ?_⟩, ?_, ?_⟩
        · dsimp only
          rw [List.append_assoc, List.singleton_append, ← Im.fwd_step hr0]
          exact hrc
        · rw [List.length_drop]; omega
        · simp only [List.length_drop, List.length_append, List.length_cons, List.length_nil]; omega
        · rw [List.length_drop]; omega
        · dsimp only [List.cons_append, List.nil_append]
          simp only [List.map_append, List.map_cons, List.map_nil, dCmd, dBytes, ← take_min, ← drop_min]
          exact y_wk
    · have hjk : j = ks.length := by omega
      subst hjk
      rw [List.take_length] at hcl
      have hputc := hput cl hcl
      ((repeat' (first | (refine tr_at 7 ?_; (refine z_alloc 7 ?_)) | (refine tr_at 11 ?_; (refine z_alloc 11 ?_)) | (refine tr_at 12 ?_; (refine z_alloc 12 ?_)) | (refine tr_at 50 ?_; (refine z_lit 50 ?_)) | (refine tr_at 51 ?_; refine z_append0 51 ?_) | (refine tr_at 57 ?_; refine y_callE (hc := hlast) ?_) | (refine tr_at 58 ?_; (refine z_lit 58 ?_)) | (refine tr_at 59 ?_; refine z_append0 59 ?_) | (refine tr_at 65 ?_; (refine z_lit 65 ?_)) | (refine yyp ?_; (try refine s_bu ?_ ?_ <;> (intro hb; try simp only [decide_eq_true_eq, decide_eq_false_iff_not] at hb))) | (refine yy ?_) | (refine yy2 ?_ ?_ <;> (intro hcmp; try simp only [cmp] at hcmp)) | (refine at_append ?_; first | (refine z_append (fun kv => ?_)) | (refine z_append_suf (fun sx sp kv hsx hsp hsl => ?_))) | (refine at_call 62 ?_; refine y_call (hc := (hputc)) ?_) | (refine at_call 63 ?_; refine y_call (hc := (FnD.at (concat_fn gl [I.bootB, (I.putC (cl ++ [(Im.loadC l) n])).1] (by have := Im.putC_len (cl ++ [(Im.loadC l) n]); simp only [List.flatten_cons, List.flatten_nil, List.append_nil, List.length_append]; have : (I.bootB : List UInt8).length ≤ 1000 := (by decide); omega)) rfl)) ?_) | (refine at_nil ?_; refine z_nil [0, 1, 2, 3, 4, 6, 7, 8, 11, 12, 14, 15, 23, 24, 25, 26, 41, 42] ?_) | (refine tr_two ?_ ?_) | (refine tr_mid ?_ ?_) | (refine tr_or ?_ ?_) | (refine tc_seq fun K hK => ?_) | (refine tc_at 11 ?_; refine z_draw [3, 5] (linT [8, 5] (.mid 0 (lin [15, 18, 23, 26, 28, 32, 36, 40, 44]) 3 (lin [1, 18, 23, 26, 28, 32, 36, 40, 44]))) ?_) | (apply_assumption -exfalso -symm))); all_goals (try refine unhalt ?_))
      all_goals
        (refine tc_ret (y_rete ⟨?_, rfl⟩))
        simp [oneOf, hcl]
end Go.Proofs.YtcblefmjacofgaaGreatDoor
