/- Parts: H2. -/
import Derived.Test.YtcblefmjacofgaaDoorA16
import Derived.Test.YtcblefmjacofgaaDoorA14
set_option linter.all false
set_option linter.unusedVariables false
set_option linter.unusedSimpArgs false
namespace Go.Proofs.YtcblefmjacofgaaDoor
open Go.RowKit
attribute [local irreducible] TR TC
set_option maxRecDepth 100000 in
set_option maxHeartbeats 4000000 in
theorem ref_Split_fn (gl : List (Nat × List D)) (t : To.Topo) (b : List UInt8) (hb : b.length ≤ 1000000000) :
    FnD Tryd.prog gl 12 [.d (dTopo t), .d (dBytes b)] (fun v => v = .tup [.d (.list 1 ((Im.split t b).1.map dOut)), .d (.int .i64 (Im.split t b).2)]) := by
  have hm := ref_may_fn gl t
  by_cases hmay : To.May t
  · have hn0 := hmay.sound.n.1
    have hn8 := hmay.sound.n.2
    have hlen := (To.order_good hmay.sound).len hn8 (by omega)
    have hE : FnE Tryd.prog gl 37 [.d (dTopo t), .d (.int .i64 t.host.node), .d (dBytes b), .own 950 0] [(950, .row 44 1 false (List.replicate t.nodes.toNat (D.list 4 [])) 0)] (RecvR (Im.recv t 9 t.host.node b (List.replicate t.nodes.toNat []))) := by
      obtain ⟨m, ho⟩ := To.order_zero t
      have h0 : 0 < (To.order t).length := by rw [ho]; simp
      have := follow_of gl t hmay 9 0 h0 (by omega) b (List.replicate t.nodes.toNat []) hb (by rw [List.length_replicate]; omega)
      rw [rep_out] at this
      have e : (To.order t)[0].node = t.host.node := by simp [ho]
      rw [e] at this
      exact this
    unfold Im.split
    rw [if_pos hmay]
    unfold dTopo at hm hE ⊢
    cases hrec : Im.recv t 9 t.host.node b (List.replicate t.nodes.toNat []) with
    | none =>
      rw [hrec] at hE
      (refine y_enter Tryd.func12 Tryd.ntmps12 Tryd.results12 fun w M => ?_; simp only [slots, List.map_cons, List.map_nil, List.zipIdx_cons, List.zipIdx_nil, Nat.reduceAdd])
      ((repeat' (first | (refine z_box (d := 2) 2 ?_) | (refine z_make (d := 12) 950 ?_) | (refine tr_at 19 ?_; refine z_callE (hc := hE) ?_; rintro _ _ ⟨rfl, o', rfl⟩; refine ⟨rfl, ?_⟩) | (refine yyp ?_; (try refine s_bu ?_ ?_ <;> (intro hb; try simp only [decide_eq_true_eq, decide_eq_false_iff_not] at hb))) | (refine yy ?_) | (refine yy2 ?_ ?_ <;> (intro hcmp; try simp only [cmp] at hcmp)) | (refine y_call (hc := (hm)) ?_; (try refine s_bu ?_ ?_ <;> (intro hb; try simp only [decide_eq_true_eq, decide_eq_false_iff_not] at hb))) | (refine z_nil [0, 1, 2, 4, 5, 6, 7, 9, 20] ?_) | (refine tc_seq fun K hK => ?_) | (apply_assumption -exfalso -symm))); all_goals (try refine unhalt ?_))
      all_goals
        first
          | (exfalso; exact absurd hmay (by assumption))
          | ((refine tc_ret (y_ret ?_))
             rfl)
    | some o =>
      rw [hrec] at hE
      (refine y_enter Tryd.func12 Tryd.ntmps12 Tryd.results12 fun w M => ?_; simp only [slots, List.map_cons, List.map_nil, List.zipIdx_cons, List.zipIdx_nil, Nat.reduceAdd])
      ((repeat' (first | (refine z_box (d := 2) 2 ?_) | (refine z_make (d := 12) 950 ?_) | (refine tr_at 19 ?_; refine y_callE (hc := hE) ?_; (try refine s_bu ?_ ?_ <;> (intro hb; try simp only [decide_eq_true_eq, decide_eq_false_iff_not] at hb))) | (refine tc_at 6 ?_; refine halt ?_) | (refine yyp ?_; (try refine s_bu ?_ ?_ <;> (intro hb; try simp only [decide_eq_true_eq, decide_eq_false_iff_not] at hb))) | (refine yy ?_) | (refine yy2 ?_ ?_ <;> (intro hcmp; try simp only [cmp] at hcmp)) | (refine y_call (hc := (hm)) ?_; (try refine s_bu ?_ ?_ <;> (intro hb; try simp only [decide_eq_true_eq, decide_eq_false_iff_not] at hb))) | (refine z_nil [0, 1, 2, 4, 5, 6, 7, 9, 20] ?_) | (refine tc_seq fun K hK => ?_) | (apply_assumption -exfalso -symm))); all_goals (try refine unhalt ?_))
      all_goals
        first
          | (exfalso; exact absurd hmay (by assumption))
          | (refine tc_share 950 rfl ?_
             ((repeat' (first | (refine z_box (d := 2) 2 ?_) | (refine z_make (d := 12) 12 ?_) | (refine yyp ?_; (try refine s_bu ?_ ?_ <;> (intro hb; try simp only [decide_eq_true_eq, decide_eq_false_iff_not] at hb))) | (refine yy ?_) | (refine yy2 ?_ ?_ <;> (intro hcmp; try simp only [cmp] at hcmp)) | (refine z_nil [0, 1, 2, 4, 5, 6, 7, 9, 20] ?_) | (refine tc_seq fun K hK => ?_) | (apply_assumption -exfalso -symm))); all_goals (try refine unhalt ?_))
             (refine tc_ret (y_ret ?_))
             rfl)
  · unfold Im.split
    rw [if_neg hmay]
    unfold dTopo at hm ⊢
    (refine y_enter Tryd.func12 Tryd.ntmps12 Tryd.results12 fun w M => ?_; simp only [slots, List.map_cons, List.map_nil, List.zipIdx_cons, List.zipIdx_nil, Nat.reduceAdd])
    ((repeat' (first | (refine z_box (d := 2) 2 ?_) | (refine z_make (d := 12) 950 ?_) | (refine yyp ?_; (try refine s_bu ?_ ?_ <;> (intro hb; try simp only [decide_eq_true_eq, decide_eq_false_iff_not] at hb))) | (refine yy ?_) | (refine yy2 ?_ ?_ <;> (intro hcmp; try simp only [cmp] at hcmp)) | (refine y_call (hc := (hm)) ?_; (try refine s_bu ?_ ?_ <;> (intro hb; try simp only [decide_eq_true_eq, decide_eq_false_iff_not] at hb))) | (refine z_nil [0, 1, 2, 4, 5, 6, 7, 9, 20] ?_) | (refine tc_seq fun K hK => ?_) | (apply_assumption -exfalso -symm))); all_goals (try refine unhalt ?_))
    all_goals
      first
        | (exfalso; exact absurd (by assumption) hmay)
        | ((refine tc_ret (y_ret ?_))
           rfl)
set_option maxRecDepth 100000 in
set_option maxHeartbeats 4000000 in
theorem ref_same39_fn (gl : List (Nat × List D)) (xs : List (List I.Cmd)) : FnD Tryd.prog gl 13 [.d (.list 1 (xs.map dOut)), .d (.list 1 (xs.map dOut))] (fun v => v = .d (.bool true)) := by
  (refine y_enter Tryd.func13 Tryd.ntmps13 Tryd.results13 fun w M => ?_; simp only [slots, List.map_cons, List.map_nil, List.zipIdx_cons, List.zipIdx_nil, Nat.reduceAdd])
  refine tc_small 0 rfl fun hn => ?_
  rw [List.length_map] at hn
  ((repeat' (first | (refine yyp ?_; (try refine s_bu ?_ ?_ <;> (intro hb; try simp only [decide_eq_true_eq, decide_eq_false_iff_not] at hb))) | (refine yy ?_) | (refine yy2 ?_ ?_ <;> (intro hcmp; try simp only [cmp] at hcmp)) | (refine z_nil [0, 1, 4, 5, 6, 7, 10, 14, 26] ?_) | (refine tc_seq fun K hK => ?_) | (refine z_draw (id := 6) [] (lin [0, 4, 8, 16, 20, 24, 13, 29, 34, 36]) ?_) | (apply_assumption -exfalso -symm))); all_goals (try refine unhalt ?_))
  refine tc_fam (fun k : Nat => ⟨[(5, .d (.int .i64 k)), (0, .d (.list 1 (xs.map dOut))), (1, .d (.list 1 (xs.map dOut)))], [], gl⟩)
    (fun k => k ≤ xs.length) (fun k => xs.length - k) 0 (Nat.zero_le _) y_wk fun k hk => ?_
  rcases Nat.lt_or_ge k xs.length with hk1 | hk1
  · have hs := ref_same38_fn gl xs[k] xs[k]
    rw [decide_eq_true rfl] at hs
    have hget : (xs.map dOut)[k]? = some (.list 4 (xs[k].map dCmd)) := by rw [List.getElem?_map, List.getElem?_eq_getElem hk1]; rfl
    ((repeat' (first | (refine yyp ?_; (try refine s_bu ?_ ?_ <;> (intro hb; try simp only [decide_eq_true_eq, decide_eq_false_iff_not] at hb))) | (refine yy ?_) | (refine yy2 ?_ ?_ <;> (intro hcmp; try simp only [cmp] at hcmp)) | (refine y_call (hc := (hs)) ?_; (try refine s_bu ?_ ?_ <;> (intro hb; try simp only [decide_eq_true_eq, decide_eq_false_iff_not] at hb))) | (refine z_nil [0, 1, 4, 5, 6, 7, 10, 14, 26] ?_) | (refine tc_seq fun K hK => ?_) | (refine z_draw (id := 6) [] (lin [0, 4, 8, 16, 20, 24, 13, 29, 34, 36]) ?_) | (apply_assumption -exfalso -symm))); all_goals (try refine unhalt ?_))
    exact ⟨k + 1, by omega, by omega, y_wk⟩
  · ((repeat' (first | (refine yyp ?_; (try refine s_bu ?_ ?_ <;> (intro hb; try simp only [decide_eq_true_eq, decide_eq_false_iff_not] at hb))) | (refine yy ?_) | (refine yy2 ?_ ?_ <;> (intro hcmp; try simp only [cmp] at hcmp)) | (refine z_nil [0, 1, 4, 5, 6, 7, 10, 14, 26] ?_) | (refine tc_seq fun K hK => ?_) | (refine z_draw (id := 6) [] (lin [0, 4, 8, 16, 20, 24, 13, 29, 34, 36]) ?_) | (apply_assumption -exfalso -symm))); all_goals (try refine unhalt ?_))
    (refine tc_ret (y_ret ?_))
    rfl
set_option maxRecDepth 100000 in
set_option maxHeartbeats 4000000 in
theorem splits_fn (t : To.Topo) (b : List UInt8) : FnD Tryd.prog glT 4 [.d (dTopo t), .d (dBytes b)] (fun v => v = .d (.bool true)) := by
  rcases Nat.lt_or_ge 40000 b.length with hb | hb
  · unfold dTopo
    (refine y_enter Tryd.func4 Tryd.ntmps4 Tryd.results4 fun w M => ?_; simp only [slots, List.map_cons, List.map_nil, List.zipIdx_cons, List.zipIdx_nil, Nat.reduceAdd])
    ((repeat' (first | (refine z_box (d := 2) 2 ?_) | (refine yyp ?_; (try refine s_bu ?_ ?_ <;> (intro hb; try simp only [decide_eq_true_eq, decide_eq_false_iff_not] at hb))) | (refine yy ?_) | (refine yy2 ?_ ?_ <;> (intro hcmp; try simp only [cmp] at hcmp)) | (refine y_call (hc := (awake_fn)) ?_; (try refine s_bu ?_ ?_ <;> (intro hb; try simp only [decide_eq_true_eq, decide_eq_false_iff_not] at hb))) | (refine z_nil [0, 1, 2, 4, 5, 6, 7, 8, 11] ?_) | (refine tc_seq fun K hK => ?_) | (apply_assumption -exfalso -symm))); all_goals (try refine unhalt ?_))
    (refine tc_ret (y_ret ?_))
    rfl
  · have h1 := Split_fn t b (by omega)
    have h2 := ref_Split_fn glT t b (by omega)
    have h3 := ref_same39_fn glT (Im.split t b).1
    unfold dTopo at h1 h2 ⊢
    (refine y_enter Tryd.func4 Tryd.ntmps4 Tryd.results4 fun w M => ?_; simp only [slots, List.map_cons, List.map_nil, List.zipIdx_cons, List.zipIdx_nil, Nat.reduceAdd])
    ((repeat' (first | (refine z_box (d := 2) 2 ?_) | (refine yyp ?_; (try refine s_bu ?_ ?_ <;> (intro hb; try simp only [decide_eq_true_eq, decide_eq_false_iff_not] at hb))) | (refine yy ?_) | (refine yy2 ?_ ?_ <;> (intro hcmp; try simp only [cmp] at hcmp)) | (refine y_call (hc := (awake_fn)) ?_; (try refine s_bu ?_ ?_ <;> (intro hb; try simp only [decide_eq_true_eq, decide_eq_false_iff_not] at hb))) | (refine y_call (hc := (h1)) ?_) | (refine y_call (hc := (h2)) ?_) | (refine y_call (hc := (h3)) ?_; (try refine s_bu ?_ ?_ <;> (intro hb; try simp only [decide_eq_true_eq, decide_eq_false_iff_not] at hb))) | (refine z_nil [0, 1, 2, 4, 5, 6, 7, 8, 11] ?_) | (refine tc_seq fun K hK => ?_) | (apply_assumption -exfalso -symm))); all_goals (try refine unhalt ?_))
    (refine tc_ret (y_ret ?_))
    rfl
end Go.Proofs.YtcblefmjacofgaaDoor
