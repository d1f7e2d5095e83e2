/- Parts: M4. -/
import Derived.Test.YtcblefmjacofgaaGreatDoorA16
import Derived.Test.YtcblefmjacofgaaGreatDoorA14
set_option linter.all false
set_option linter.unusedVariables false
set_option linter.unusedSimpArgs false
namespace Go.Proofs.YtcblefmjacofgaaGreatDoor
open Go.RowKit
theorem root_at {t : To.Topo} (h : To.May t) {n : Int} (h0 : 0 ≤ n) (h1 : n < t.nodes) : ∃ (i : Nat) (hi : i < (To.order t).length), (To.order t)[i].node = n ∧ (To.order t).length ≤ i + 9 := by
  obtain ⟨i, hi, e⟩ := Im.place h h0 h1
  have := Im.order_le h
  exact ⟨i, hi, e, by omega⟩
theorem rload_at (gl : List (Nat × List D)) {t : To.Topo} {size : Int} {l : List Im.Obj} (hf : Im.Fine t size l) {n : Int} (h0 : 0 ≤ n) (h1 : n < t.nodes) : FnD Tryz.prog gl 19 [.d (dTopo t), .d (.int .i64 n), .d (.int .i64 size), .d (.list 4 (l.map dObj))] (fun v => v = .d (dBytes (Im.load t l n))) := by
  obtain ⟨i, hi, e, hl⟩ := root_at hf.may h0 h1
  have := rload_fn gl t size l hf 9 i hi hl
  rw [e] at this
  exact this
theorem rstart_at (gl : List (Nat × List D)) {t : To.Topo} {size : Int} {l : List Im.Obj} (hf : Im.Fine t size l) {n : Int} (h0 : 0 ≤ n) (h1 : n < t.nodes) : FnD Tryz.prog gl 21 [.d (dTopo t), .d (.int .i64 n), .d (.int .i64 size), .d (.list 4 (l.map dObj))] (fun v => v = .d (dBytes (Im.start t size l n))) := by
  obtain ⟨i, hi, e, hl⟩ := root_at hf.may h0 h1
  have := rstart_fn gl t size l hf 9 i hi hl
  rw [e] at this
  exact this
theorem check_rng {t : To.Topo} {node size : Int} {l : List Im.Obj} (h : Im.check t node size l = 0) : 0 ≤ node ∧ node < t.nodes := by
  have := Im.check_ok h
  exact ⟨this.2.2.2.2.1, this.2.2.2.2.2.1⟩
attribute [local irreducible] TR TC
set_option maxRecDepth 100000 in
set_option maxHeartbeats 4000000 in
theorem ref_Load_fn (gl : List (Nat × List D)) (t : To.Topo) (node size : Int) (l : List Im.Obj) :
    FnD Tryz.prog gl 7 [.d (dTopo t), .d (.int .i64 node), .d (.int .i64 size), .d (.list 4 (l.map dObj))] (fun v => v = .tup [.d (dBytes (Im.loadE t node size l).1), .d (.int .i64 (Im.loadE t node size l).2)]) := by
  have hc := ref_check_fn gl t node size l
  by_cases hz : Im.check t node size l = 0
  · have hb := rload_at gl (Im.fine_of hz) (check_rng hz).1 (check_rng hz).2
    unfold Im.loadE
    rw [hz] at hc
    rw [if_pos hz]
    unfold dTopo at hc hb ⊢
    (refine y_enter Tryz.func7 Tryz.ntmps7 Tryz.results7 fun w M => ?_; simp only [slots, List.map_cons, List.map_nil, List.zipIdx_cons, List.zipIdx_nil, Nat.reduceAdd])
    ((repeat' (first | (refine tr_at 4 ?_; (refine z_box 4 ?_)) | (refine yyp ?_; (try refine s_bu ?_ ?_ <;> (intro hb; try simp only [decide_eq_true_eq, decide_eq_false_iff_not] at hb))) | (refine yy ?_) | (refine yy2 ?_ ?_ <;> (intro hcmp; try simp only [cmp] at hcmp)) | (refine at_call 18 ?_; refine y_call (hc := (hc)) ?_) | (refine at_call 19 ?_; refine y_call (hc := (hb)) ?_) | (refine at_nil ?_; refine z_nil [0, 1, 2, 3, 4, 8, 9, 10, 17] ?_) | (refine tc_seq fun K hK => ?_) | (apply_assumption -exfalso -symm))); all_goals (try refine unhalt ?_))
    (refine tc_ret (y_ret ?_))
    rfl
  · unfold Im.loadE
    rw [if_neg hz]
    unfold dTopo at hc ⊢
    generalize Im.check t node size l = e at *
    (refine y_enter Tryz.func7 Tryz.ntmps7 Tryz.results7 fun w M => ?_; simp only [slots, List.map_cons, List.map_nil, List.zipIdx_cons, List.zipIdx_nil, Nat.reduceAdd])
    ((repeat' (first | (refine tr_at 4 ?_; (refine z_box 4 ?_)) | (refine yyp ?_; (try refine s_bu ?_ ?_ <;> (intro hb; try simp only [decide_eq_true_eq, decide_eq_false_iff_not] at hb))) | (refine yy ?_) | (refine yy2 ?_ ?_ <;> (intro hcmp; try simp only [cmp] at hcmp)) | (refine at_call 18 ?_; refine y_call (hc := (hc)) ?_) | (refine at_nil ?_; refine z_nil [0, 1, 2, 3, 4, 8, 9, 10, 17] ?_) | (refine tc_seq fun K hK => ?_) | (apply_assumption -exfalso -symm))); all_goals (try refine unhalt ?_))
    (refine tc_ret (y_ret ?_))
    rfl
set_option maxRecDepth 100000 in
set_option maxHeartbeats 4000000 in
theorem ref_Start_fn (gl : List (Nat × List D)) (t : To.Topo) (node size : Int) (l : List Im.Obj) :
    FnD Tryz.prog gl 10 [.d (dTopo t), .d (.int .i64 node), .d (.int .i64 size), .d (.list 4 (l.map dObj))] (fun v => v = .tup [.d (dBytes (Im.startE t node size l).1), .d (.int .i64 (Im.startE t node size l).2)]) := by
  have hc := ref_check_fn gl t node size l
  by_cases hz : Im.check t node size l = 0
  · have hb := rstart_at gl (Im.fine_of hz) (check_rng hz).1 (check_rng hz).2
    unfold Im.startE
    rw [hz] at hc
    rw [if_pos hz]
    unfold dTopo at hc hb ⊢
    (refine y_enter Tryz.func10 Tryz.ntmps10 Tryz.results10 fun w M => ?_; simp only [slots, List.map_cons, List.map_nil, List.zipIdx_cons, List.zipIdx_nil, Nat.reduceAdd])
    ((repeat' (first | (refine tr_at 4 ?_; (refine z_box 4 ?_)) | (refine yyp ?_; (try refine s_bu ?_ ?_ <;> (intro hb; try simp only [decide_eq_true_eq, decide_eq_false_iff_not] at hb))) | (refine yy ?_) | (refine yy2 ?_ ?_ <;> (intro hcmp; try simp only [cmp] at hcmp)) | (refine at_call 18 ?_; refine y_call (hc := (hc)) ?_) | (refine at_call 21 ?_; refine y_call (hc := (hb)) ?_) | (refine at_nil ?_; refine z_nil [0, 1, 2, 3, 4, 8, 9, 10, 17] ?_) | (refine tc_seq fun K hK => ?_) | (apply_assumption -exfalso -symm))); all_goals (try refine unhalt ?_))
    (refine tc_ret (y_ret ?_))
    rfl
  · unfold Im.startE
    rw [if_neg hz]
    unfold dTopo at hc ⊢
    generalize Im.check t node size l = e at *
    (refine y_enter Tryz.func10 Tryz.ntmps10 Tryz.results10 fun w M => ?_; simp only [slots, List.map_cons, List.map_nil, List.zipIdx_cons, List.zipIdx_nil, Nat.reduceAdd])
    ((repeat' (first | (refine tr_at 4 ?_; (refine z_box 4 ?_)) | (refine yyp ?_; (try refine s_bu ?_ ?_ <;> (intro hb; try simp only [decide_eq_true_eq, decide_eq_false_iff_not] at hb))) | (refine yy ?_) | (refine yy2 ?_ ?_ <;> (intro hcmp; try simp only [cmp] at hcmp)) | (refine at_call 18 ?_; refine y_call (hc := (hc)) ?_) | (refine at_nil ?_; refine z_nil [0, 1, 2, 3, 4, 8, 9, 10, 17] ?_) | (refine tc_seq fun K hK => ?_) | (apply_assumption -exfalso -symm))); all_goals (try refine unhalt ?_))
    (refine tc_ret (y_ret ?_))
    rfl
set_option maxRecDepth 100000 in
set_option maxHeartbeats 4000000 in
theorem ref_Make_fn (gl : List (Nat × List D)) (t : To.Topo) (size : Int) (l : List Im.Obj) :
    FnD Tryz.prog gl 12 [.d (dTopo t), .d (.int .i64 size), .d (.list 4 (l.map dObj))] (fun v => v = .tup [.d (dBytes (Im.makeE t size l).1), .d (.int .i64 (Im.makeE t size l).2)]) := by
  have hc := ref_check_fn gl t 0 size l
  by_cases hz : Im.check t 0 size l = 0
  · have hf := Im.fine_of hz
    have hh := hf.may.sound.host
    unfold To.inR at hh
    have hb := rload_o gl t size l hf hh.1 hh.2
    have hs := rstart_at gl hf hh.1 hh.2
    have hl1 := Im.tr_len t I.bootB (Im.loadC l) (by decide) 9 t.host.node
    have hl2 := Im.tr_len t [] (Im.runC size l) (by decide) 9 t.host.node
    unfold Im.makeE
    rw [hz] at hc
    rw [if_pos hz]
    have e1 : Im.tr t I.bootB (Im.loadC l) 9 t.host.node = Im.load t l t.host.node := rfl
    have e2 : Im.tr t [] (Im.runC size l) 9 t.host.node = Im.start t size l t.host.node := rfl
    rw [e1] at hl1
    rw [e2] at hl2
    generalize Im.load t l t.host.node = bl at *
    generalize Im.start t size l t.host.node = bs at *
    unfold dTopo at hc hb hs ⊢
    unfold dBytes at hs
    (refine y_enter Tryz.func12 Tryz.ntmps12 Tryz.results12 fun w M => ?_; simp only [slots, List.map_cons, List.map_nil, List.zipIdx_cons, List.zipIdx_nil, Nat.reduceAdd])
    ((repeat' (first | (refine tr_at 3 ?_; (refine z_box 3 ?_)) | (refine tr_at 22 ?_; refine s_callG rfl rfl (by (repeat (first | exact Evs.nil | apply Evs.cons rfl rfl)); fail_if_success intros) (by (repeat (first | exact ArgsE.nil | apply ArgsE.cons (ArgE.own rfl) | apply ArgsE.cons (ArgE.nils _) | apply ArgsE.cons (ArgE.same _))); fail_if_success intros) hb (by (repeat (first | exact Pures.nil | apply Pures.cons (Pure.d _) | apply Pures.cons (Pure.nils _))); fail_if_success intros) (ltd rfl) rfl rfl ?_; rintro _ _ ⟨kv0, rfl, rfl⟩; refine ⟨rfl, ?_⟩) | (refine tr_at 30 ?_; refine z_append0 30 ?_) | (refine yyp ?_; (try refine s_bu ?_ ?_ <;> (intro hb; try simp only [decide_eq_true_eq, decide_eq_false_iff_not] at hb))) | (refine yy ?_) | (refine yy2 ?_ ?_ <;> (intro hcmp; try simp only [cmp] at hcmp)) | (refine at_call 18 ?_; refine y_call (hc := (hc)) ?_) | (refine at_call 21 ?_; refine y_call (hc := (hs)) ?_) | (refine at_append ?_; first | (refine z_append (fun kv => ?_)) | (refine z_append_suf (fun sx sp kv hsx hsp hsl => ?_))) | (refine at_nil ?_; refine z_nil [0, 1, 2, 3, 6, 7, 8, 14] ?_) | (refine tc_seq fun K hK => ?_) | (refine tc_at 4 ?_; refine z_draw [14] (lin [4, 8, 16, 20, 32, 36, 44, 48, 1, 13, 29, 41, 26, 54, 59, 60, 64]) ?_) | (apply_assumption -exfalso -symm))); all_goals (try refine unhalt ?_))
    (refine tc_ret (y_ret ?_))
    simp [oneOf, dBytes]
  · unfold Im.makeE
    rw [if_neg hz]
    unfold dTopo at hc ⊢
    generalize Im.check t 0 size l = e at *
    (refine y_enter Tryz.func12 Tryz.ntmps12 Tryz.results12 fun w M => ?_; simp only [slots, List.map_cons, List.map_nil, List.zipIdx_cons, List.zipIdx_nil, Nat.reduceAdd])
    ((repeat' (first | (refine tr_at 3 ?_; (refine z_box 3 ?_)) | (refine tr_at 30 ?_; refine z_append0 30 ?_) | (refine yyp ?_; (try refine s_bu ?_ ?_ <;> (intro hb; try simp only [decide_eq_true_eq, decide_eq_false_iff_not] at hb))) | (refine yy ?_) | (refine yy2 ?_ ?_ <;> (intro hcmp; try simp only [cmp] at hcmp)) | (refine at_call 18 ?_; refine y_call (hc := (hc)) ?_) | (refine at_append ?_; first | (refine z_append (fun kv => ?_)) | (refine z_append_suf (fun sx sp kv hsx hsp hsl => ?_))) | (refine at_nil ?_; refine z_nil [0, 1, 2, 3, 6, 7, 8, 14] ?_) | (refine tc_seq fun K hK => ?_) | (refine tc_at 4 ?_; refine z_draw [14] (lin [4, 8, 16, 20, 32, 36, 44, 48, 1, 13, 29, 41, 26, 54, 59, 60, 64]) ?_) | (apply_assumption -exfalso -symm))); all_goals (try refine unhalt ?_))
    (refine tc_ret (y_ret ?_))
    rfl
set_option maxRecDepth 100000 in
set_option maxHeartbeats 4000000 in
theorem makes_fn (t : To.Topo) (node size : Int) (l : List Im.Obj) : FnD Tryz.prog glT 3 [.d (dTopo t), .d (.int .i64 node), .d (.int .i64 size), .d (.list 4 (l.map dObj))] (fun v => v = .d (.bool true)) := by
  have hgr := great_fn glT l
  cases hg : Im.great l with
  | true =>
    rw [hg] at hgr
    unfold dTopo
    (refine y_enter Tryz.func3 Tryz.ntmps3 Tryz.results3 fun w M => ?_; simp only [slots, List.map_cons, List.map_nil, List.zipIdx_cons, List.zipIdx_nil, Nat.reduceAdd])
    ((repeat' (first | (refine tr_at 4 ?_; (refine z_box 4 ?_)) | (refine yyp ?_; (try refine s_bu ?_ ?_ <;> (intro hb; try simp only [decide_eq_true_eq, decide_eq_false_iff_not] at hb))) | (refine yy ?_) | (refine yy2 ?_ ?_ <;> (intro hcmp; try simp only [cmp] at hcmp)) | (refine at_call 4 ?_; refine y_call (hc := (hgr)) ?_; (try refine s_bu ?_ ?_ <;> (intro hb; try simp only [decide_eq_true_eq, decide_eq_false_iff_not] at hb))) | (refine at_call 5 ?_; refine y_call (hc := (awake_fn)) ?_; (try refine s_bu ?_ ?_ <;> (intro hb; try simp only [decide_eq_true_eq, decide_eq_false_iff_not] at hb))) | (refine at_nil ?_; refine z_nil [0, 1, 2, 3, 4, 8, 9, 10, 11, 12, 14, 40, 65] ?_) | (refine tc_seq fun K hK => ?_) | (apply_assumption -exfalso -symm))); all_goals (try refine unhalt ?_))
    (refine tc_ret (y_ret ?_))
    rfl
  | false =>
    rw [hg] at hgr
    have hl12 := Im.great_len hg
    have a1 := Load_fn t node size l (by omega)
    have a2 := ref_Load_fn glT t node size l
    have b1 := Start_fn glT t node size l (by omega)
    have b2 := ref_Start_fn glT t node size l
    have c1 := Make_fn t size l (by omega)
    have c2 := ref_Make_fn glT t size l
    have q1 := bytes_equal_fn glT (Im.loadE t node size l).1 (Im.loadE t node size l).1
    have q2 := bytes_equal_fn glT (Im.startE t node size l).1 (Im.startE t node size l).1
    have q3 := bytes_equal_fn glT (Im.makeE t size l).1 (Im.makeE t size l).1
    rw [decide_eq_true rfl] at q1 q2 q3
    generalize (Im.loadE t node size l).1 = x1 at *
    generalize (Im.loadE t node size l).2 = x2 at *
    generalize (Im.startE t node size l).1 = y1 at *
    generalize (Im.startE t node size l).2 = y2 at *
    generalize (Im.makeE t size l).1 = z1 at *
    generalize (Im.makeE t size l).2 = z2 at *
    unfold dTopo at a1 a2 b1 b2 c1 c2 ⊢
    (refine y_enter Tryz.func3 Tryz.ntmps3 Tryz.results3 fun w M => ?_; simp only [slots, List.map_cons, List.map_nil, List.zipIdx_cons, List.zipIdx_nil, Nat.reduceAdd])
    ((repeat' (first | (refine tr_at 4 ?_; (refine z_box 4 ?_)) | (refine tr_at 34 ?_; refine z_call (hc := q1) ?_; rintro _ rfl) | (refine tr_at 59 ?_; refine z_call (hc := q2) ?_; rintro _ rfl) | (refine tr_at 82 ?_; refine z_call (hc := q3) ?_; rintro _ rfl) | (refine yyp ?_; (try refine s_bu ?_ ?_ <;> (intro hb; try simp only [decide_eq_true_eq, decide_eq_false_iff_not] at hb))) | (refine yy ?_) | (refine yy2 ?_ ?_ <;> (intro hcmp; try simp only [cmp] at hcmp)) | (refine at_call 4 ?_; refine y_call (hc := (hgr)) ?_; (try refine s_bu ?_ ?_ <;> (intro hb; try simp only [decide_eq_true_eq, decide_eq_false_iff_not] at hb))) | (refine at_call 5 ?_; refine y_call (hc := (awake_fn)) ?_; (try refine s_bu ?_ ?_ <;> (intro hb; try simp only [decide_eq_true_eq, decide_eq_false_iff_not] at hb))) | (refine at_call 6 ?_; refine y_call (hc := (a1)) ?_) | (refine at_call 7 ?_; refine y_call (hc := (a2)) ?_) | (refine at_call 9 ?_; refine y_call (hc := (b1)) ?_) | (refine at_call 10 ?_; refine y_call (hc := (b2)) ?_) | (refine at_call 11 ?_; refine y_call (hc := (c1)) ?_) | (refine at_call 12 ?_; refine y_call (hc := (c2)) ?_) | (refine at_nil ?_; refine z_nil [0, 1, 2, 3, 4, 8, 9, 10, 11, 12, 14, 40, 65] ?_) | (refine tc_seq fun K hK => ?_) | (apply_assumption -exfalso -symm))); all_goals (try refine unhalt ?_))
    all_goals first | (exfalso; omega) | ((refine tc_ret (y_ret ?_)); rfl)
end Go.Proofs.YtcblefmjacofgaaGreatDoor
