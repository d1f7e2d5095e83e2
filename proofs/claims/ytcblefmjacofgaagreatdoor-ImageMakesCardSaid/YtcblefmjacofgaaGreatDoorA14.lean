/- Parts: F17, H0. -/
import Derived.Test.YtcblefmjacofgaaGreatDoorA12
import Derived.Test.YtcblefmjacofgaaGreatDoorA13
import Derived.Test.YtcblefmjacofgaaGreatDoorA8
import Derived.Test.YtcblefmjacofgaaGreatDoorA5
set_option linter.all false
set_option linter.unusedVariables false
set_option linter.unusedSimpArgs false
namespace Go.Proofs.YtcblefmjacofgaaGreatDoor
open Go.RowKit
namespace Im
def one : Obj := ⟨[245], 0, 3, 5⟩
def net : To.Topo := ⟨1, [], ⟨0, 0⟩⟩
def mkB : List UInt8 := (makeE net 1024 [one]).1
theorem ex1 : workspace 1024 one = (-2147482636, 0) := by decide +kernel
theorem ex2 : workspace 1024 ⟨[1], 0, 100, 28⟩ = (0, 9) := by decide +kernel
theorem ex3 : workspace 1024 ⟨[1], 0, 100, 27⟩ = (-2147483024, 0) := by decide +kernel
theorem ex4 : (makeE net 1024 [one]).2 = 0 ∧ mkB.length = 66 := by decide +kernel
theorem ex5 : split net mkB = ([[⟨1, -2147483136, 0, [245]⟩, ⟨0, -2147482636, -2147483136, []⟩]], 0) := by decide +kernel
theorem ex6 : split net I.bootB = ([], 380) := by decide +kernel
theorem ex7 : loadE net 1 1024 [one] = ([], 4) := by decide +kernel
theorem ex8 : makeE net 1024 [] = ([], 2) := by decide +kernel
end Im
def dOne : D := .agg [.list 1 [.int .u8 245], .int .i64 0, .int .i64 3, .int .i64 5]
def dNet : D := .agg [.int .i64 1, .list 4 [], .int .i64 0, .int .i64 0]
theorem rep_nil {w : World} {M : Nat → Nat → Prop} {sz : Nat} (sz' : Nat) {v : Value} (h : RepD w M (.list sz []) v) : RepD w M (.list sz' []) v := by
  obtain ⟨a, c, ys, h1, h2, h3, h4, h5, h6⟩ := h
  exact ⟨a, c, ys, h1, h2, h3, h4, h5, h6⟩
attribute [local irreducible] TR TC
set_option maxRecDepth 100000 in
set_option maxHeartbeats 4000000 in
theorem awake_fn : FnD Tryz.prog glT 5 [] (fun v => v = .d (.bool true)) := by
  have w1 : FnD Tryz.prog glT 13 [.d (.int .i64 1024), .d (.agg [.list 1 [.int .u8 245], .int .i64 0, .int .i64 3, .int .i64 5])] (fun v => v = .tup [.d (.int .i32 (-2147482636)), .d (.int .i64 0)]) := by
    have := Workspace_fn glT 1024 Im.one
    rw [Im.ex1] at this
    exact this
  have w2 : FnD Tryz.prog glT 13 [.d (.int .i64 1024), .d (.agg [.list 1 [.int .u8 1], .int .i64 0, .int .i64 100, .int .i64 28])] (fun v => v = .tup [.d (.int .i32 0), .d (.int .i64 9)]) := by
    have := Workspace_fn glT 1024 ⟨[1], 0, 100, 28⟩
    rw [Im.ex2] at this
    exact this
  have w3 : FnD Tryz.prog glT 13 [.d (.int .i64 1024), .d (.agg [.list 1 [.int .u8 1], .int .i64 0, .int .i64 100, .int .i64 27])] (fun v => v = .tup [.d (.int .i32 (-2147483024)), .d (.int .i64 0)]) := by
    have := Workspace_fn glT 1024 ⟨[1], 0, 100, 27⟩
    rw [Im.ex3] at this
    exact this
  have m1 : FnD Tryz.prog glT 11 [.d (.agg [.int .i64 1, .list 4 [], .int .i64 0, .int .i64 0]), .d (.int .i64 1024), .d (.list 4 [.agg [.list 1 [.int .u8 245], .int .i64 0, .int .i64 3, .int .i64 5]])] (fun v => v = .tup [.d (dBytes Im.mkB), .d (.int .i64 0)]) := by
    have := Make_fn Im.net 1024 [Im.one] (by decide)
    rw [Im.ex4.1] at this
    exact this
  have m2 : FnD Tryz.prog glT 11 [.d (.agg [.int .i64 1, .list 4 [], .int .i64 0, .int .i64 0]), .d (.int .i64 1024), .d (.list 4 [])] (fun v => v = .tup [.d (.list 1 []), .d (.int .i64 2)]) := by
    have := Make_fn Im.net 1024 [] (by decide)
    rw [Im.ex8] at this
    exact this
  have m3 : FnD Tryz.prog glT 11 [.d (.agg [.int .i64 1, .list 4 [], .int .i64 0, .int .i64 0]), .d (.int .i64 1024), .d (.list 0 [])] (fun v => v = .tup [.d (.list 1 []), .d (.int .i64 2)]) := fun w M us hM hus hg => m2 w M us hM (by
    obtain ⟨v1, r1, e1, h1, v2, r2, e2, h2, v3, r3, e3, h3, h4⟩ := hus
    exact ⟨v1, r1, e1, h1, v2, r2, e2, h2, v3, r3, e3, rep_nil 4 h3, h4⟩) hg
  have s1 : FnD Tryz.prog glT 14 [.d (.agg [.int .i64 1, .list 4 [], .int .i64 0, .int .i64 0]), .d (dBytes Im.mkB)] (fun v => v = .tup [.d (.list 1 [.list 4 [.agg [.int .u8 1, .int .i32 (-2147483136), .int .i32 0, .list 1 [.int .u8 245]], .agg [.int .u8 0, .int .i32 (-2147482636), .int .i32 (-2147483136), .list 1 []]]]), .d (.int .i64 0)]) := by
    have := Split_fn Im.net Im.mkB (by rw [Im.ex4.2]; decide)
    rw [Im.ex5] at this
    exact this
  have s2 : FnD Tryz.prog glT 14 [.d (.agg [.int .i64 1, .list 4 [], .int .i64 0, .int .i64 0]), .d (dBytes I.bootB)] (fun v => v = .tup [.d (.list 1 []), .d (.int .i64 380)]) := by
    have := Split_fn Im.net I.bootB (by decide)
    rw [Im.ex6] at this
    exact this
  have l1 : FnD Tryz.prog glT 6 [.d (.agg [.int .i64 1, .list 4 [], .int .i64 0, .int .i64 0]), .d (.int .i64 1), .d (.int .i64 1024), .d (.list 4 [.agg [.list 1 [.int .u8 245], .int .i64 0, .int .i64 3, .int .i64 5]])] (fun v => v = .tup [.d (.list 1 []), .d (.int .i64 4)]) := by
    have := Load_fn Im.net 1 1024 [Im.one] (by decide)
    rw [Im.ex7] at this
    exact this
  have b1 : FnD Tryz.prog glT 8 [.d (.list 1 [.int .u8 245]), .d (.list 1 [.int .u8 245])] (fun v => v = .d (.bool true)) := bytes_equal_fn glT [245] [245]
  have hmk := Im.ex4.2
  generalize Im.mkB = mk at *
  (refine y_enter Tryz.func5 Tryz.ntmps5 Tryz.results5 fun w M => ?_; simp only [slots, List.map_cons, List.map_nil, List.zipIdx_cons, List.zipIdx_nil, Nat.reduceAdd])
  ((repeat' (first | (refine tr_at 21 ?_; (refine z_lit 21 ?_)) | (refine tr_at 22 ?_; refine z_p w_buildn ?_) | (refine tr_at 1 ?_; (refine z_alloc 1 ?_)) | (refine tr_at 25 ?_; refine z_call (hc := w1) ?_; rintro _ rfl) | (refine tr_at 29 ?_; (refine z_lit 29 ?_)) | (refine tr_at 31 ?_; refine z_call (hc := w2) ?_; rintro _ rfl) | (refine tr_at 35 ?_; (refine z_lit 35 ?_)) | (refine tr_at 37 ?_; refine z_call (hc := w3) ?_; rintro _ rfl) | (refine tr_at 40 ?_; refine z_p w_buildn ?_) | (refine tr_at 8 ?_; (refine z_alloc 8 ?_)) | (refine tr_at 44 ?_; (refine z_lit 44 ?_)) | (refine tr_at 45 ?_; refine z_call (hc := m1) ?_; rintro _ rfl) | (refine tr_at 51 ?_; refine z_call (hc := s1) ?_; rintro _ rfl) | (refine tr_at 57 ?_; refine z_call (hc := s2) ?_; rintro _ rfl) | (refine tr_at 63 ?_; (refine z_lit 63 ?_)) | (refine tr_at 69 ?_; refine z_call (hc := m3) ?_; rintro _ rfl) | (refine tr_at 19 ?_; (refine z_alloc 19 ?_)) | (refine tr_at 20 ?_; (refine z_alloc 20 ?_)) | (refine yyp ?_; (try refine s_bu ?_ ?_ <;> (intro hb; try simp only [decide_eq_true_eq, decide_eq_false_iff_not] at hb))) | (refine yy ?_) | (refine yy2 ?_ ?_ <;> (intro hcmp; try simp only [cmp] at hcmp)) | (refine at_call 15 ?_; refine y_call (hc := (boot_fn)) ?_) | (refine at_call 6 ?_; refine y_call (hc := (l1)) ?_) | (refine at_call 8 ?_; refine y_call (hc := (b1)) ?_; (try refine s_bu ?_ ?_ <;> (intro hb; try simp only [decide_eq_true_eq, decide_eq_false_iff_not] at hb))) | (refine at_nil ?_; refine z_nil [0, 1, 2, 3, 4, 5, 6, 7, 8, 9, 10, 11, 12, 14, 16, 18, 19, 20, 114] ?_) | (refine tr_two ?_ ?_) | (refine tr_mid ?_ ?_) | (refine tr_or ?_ ?_) | (apply tc_mid (x := .region 13 _ _); focus ((refine tc_at 13 ?_; refine z_draw [12, 13] (linT [0, 4, 20, 24, 9, 12, 17] (.or (linT [30, 32] (.or (linT [38] (.two 10 (lin [46, 51, 55]) 11 (lin [42, 51, 55]))) (.or (linT [42] (.two 9 (lin [46, 51, 55]) 11 (.mid 9 (lin [51, 55]) 12 (lin [37, 55])))) (linT [46] (.two 9 (lin [42, 51, 55]) 10 (.mid 9 (lin [51, 55]) 12 (lin [37, 55]))))))) (.or (linT [42] (.two 7 (linT [32] (.two 9 (lin [46, 51, 55]) 11 (.mid 9 (lin [51, 55]) 12 (lin [37, 55])))) 11 (.mid 7 (linT [32] (.mid 9 (lin [51, 55]) 12 (lin [37, 55]))) 12 (lin [29, 32, 37, 55])))) (linT [46] (.two 7 (linT [32] (.two 9 (lin [42, 51, 55]) 10 (.mid 9 (lin [51, 55]) 12 (lin [37, 55])))) 10 (.mid 7 (linT [32] (.mid 9 (lin [51, 55]) 12 (lin [37, 55]))) 12 (lin [29, 32, 37, 55]))))))) ?_); (repeat' (first | (refine tr_at 21 ?_; (refine z_lit 21 ?_)) | (refine tr_at 22 ?_; refine z_p w_buildn ?_) | (refine tr_at 1 ?_; (refine z_alloc 1 ?_)) | (refine tr_at 25 ?_; refine z_call (hc := w1) ?_; rintro _ rfl) | (refine tr_at 29 ?_; (refine z_lit 29 ?_)) | (refine tr_at 31 ?_; refine z_call (hc := w2) ?_; rintro _ rfl) | (refine tr_at 35 ?_; (refine z_lit 35 ?_)) | (refine tr_at 37 ?_; refine z_call (hc := w3) ?_; rintro _ rfl) | (refine tr_at 40 ?_; refine z_p w_buildn ?_) | (refine tr_at 8 ?_; (refine z_alloc 8 ?_)) | (refine tr_at 44 ?_; (refine z_lit 44 ?_)) | (refine tr_at 45 ?_; refine z_call (hc := m1) ?_; rintro _ rfl) | (refine tr_at 51 ?_; refine z_call (hc := s1) ?_; rintro _ rfl) | (refine tr_at 57 ?_; refine z_call (hc := s2) ?_; rintro _ rfl) | (refine tr_at 63 ?_; (refine z_lit 63 ?_)) | (refine tr_at 69 ?_; refine z_call (hc := m3) ?_; rintro _ rfl) | (refine tr_at 19 ?_; (refine z_alloc 19 ?_)) | (refine tr_at 20 ?_; (refine z_alloc 20 ?_)) | (refine yyp ?_) | (refine yy ?_) | (refine yy2 ?_ ?_ <;> (intro hcmp; try simp only [cmp] at hcmp)) | (refine at_call 15 ?_; refine y_call (hc := (boot_fn)) ?_) | (refine at_call 6 ?_; refine y_call (hc := (l1)) ?_) | (refine at_call 8 ?_; refine y_call (hc := (b1)) ?_) | (refine at_nil ?_; refine z_nil [0, 1, 2, 3, 4, 5, 6, 7, 8, 9, 10, 11, 12, 14, 16, 18, 19, 20, 114] ?_) | (refine tr_two ?_ ?_) | (refine tr_mid ?_ ?_) | (refine tr_or ?_ ?_))); (all_goals first | exact Wk.refl _ _ | exact y_wk); done)) | (refine tc_seq fun K hK => ?_) | (refine tc_at 8 ?_; refine z_draw [] (lin [1, 6, 10, 12, 16, 20, 24, 28]) ?_) | (refine tc_at 13 ?_; refine z_draw [12, 13] (linT [0, 4, 20, 24, 9, 12, 17] (.or (linT [30, 32] (.or (linT [38] (.two 10 (lin [46, 51, 55]) 11 (lin [42, 51, 55]))) (.or (linT [42] (.two 9 (lin [46, 51, 55]) 11 (.mid 9 (lin [51, 55]) 12 (lin [37, 55])))) (linT [46] (.two 9 (lin [42, 51, 55]) 10 (.mid 9 (lin [51, 55]) 12 (lin [37, 55]))))))) (.or (linT [42] (.two 7 (linT [32] (.two 9 (lin [46, 51, 55]) 11 (.mid 9 (lin [51, 55]) 12 (lin [37, 55])))) 11 (.mid 7 (linT [32] (.mid 9 (lin [51, 55]) 12 (lin [37, 55]))) 12 (lin [29, 32, 37, 55])))) (linT [46] (.two 7 (linT [32] (.two 9 (lin [42, 51, 55]) 10 (.mid 9 (lin [51, 55]) 12 (lin [37, 55])))) 10 (.mid 7 (linT [32] (.mid 9 (lin [51, 55]) 12 (lin [37, 55]))) 12 (lin [29, 32, 37, 55]))))))) ?_) | (apply_assumption -exfalso -symm))); all_goals (try refine unhalt ?_))
  all_goals first | (exfalso; omega) | (exfalso; simp at hcmp; done) | ((refine tc_ret (y_ret ?_)); rfl)
end Go.Proofs.YtcblefmjacofgaaGreatDoor
namespace Go.Proofs.YtcblefmjacofgaaGreatDoor
open Go.RowKit
theorem min_nat (a b : Nat) : ∃ m : Nat, (if (b : Int) < (a : Int) then (b : Int) else (a : Int)) = (m : Int) ∧ m = min a b := by
  split
  · exact ⟨b, rfl, by omega⟩
  · exact ⟨a, rfl, by omega⟩
attribute [local irreducible] TR TC
set_option maxRecDepth 100000 in
set_option maxHeartbeats 4000000 in
theorem great_fn (gl : List (Nat × List D)) (l : List Im.Obj) : FnD Tryz.prog gl 4 [.d (.list 4 (l.map dObj))] (fun v => v = .d (.bool (Im.great l))) := by
  (refine y_enter Tryz.func4 Tryz.ntmps4 Tryz.results4 fun w M => ?_; simp only [slots, List.map_cons, List.map_nil, List.zipIdx_cons, List.zipIdx_nil, Nat.reduceAdd])
  refine tc_small 0 rfl fun hn => ?_
  rw [List.length_map] at hn
  ((repeat' (first | (refine yyp ?_; (try refine s_bu ?_ ?_ <;> (intro hb; try simp only [decide_eq_true_eq, decide_eq_false_iff_not] at hb))) | (refine yy ?_) | (refine yy2 ?_ ?_ <;> (intro hcmp; try simp only [cmp] at hcmp)) | (refine at_nil ?_; refine z_nil [0, 2, 3, 4, 5, 6, 7, 8, 21] ?_) | (refine tc_seq fun K hK => ?_) | (apply_assumption -exfalso -symm))); all_goals (try refine unhalt ?_))
  obtain ⟨m, hm, hmm⟩ := min_nat l.length 12
  rw [show (12 : Int) = ((12 : Nat) : Int) from rfl, hm]
  refine y_famx [2, 3, 7, 8, 9, 10, 11, 12, 13, 14, 15, 16, 17, 18, 19, 20, 21, 22] [] (fun k : Nat => [(7, .d (.int .i64 k))]) (fun _ => []) (fun k => k ≤ m ∧ (l.take k).any (fun o => decide (1 < l.length) && decide (3000 < o.code.length)) = false) (fun k => m - k) 0 ⟨Nat.zero_le _, by simp⟩  fun k ⟨hk, hany⟩ => ?_
  dsimp only [List.cons_append, List.nil_append] at hk hany ⊢
  rcases Nat.lt_or_ge k m with hkm | hkm
  · have hkl : k < l.length := by omega
    have hs : (l.take (k + 1)).any (fun o => decide (1 < l.length) && decide (3000 < o.code.length)) = (decide (1 < l.length) && decide (3000 < l[k].code.length)) := by rw [← get_take _ hkl, List.any_append, hany]; simp
    have hget : (l.map dObj)[k]? = some (.agg [.list 1 (l[k].code.map dByte), .int .i64 l[k].entry, .int .i64 l[k].below, .int .i64 l[k].above]) := by rw [List.getElem?_map, List.getElem?_eq_getElem hkl]; rfl
    ((repeat' (first | (refine yyp ?_; (try refine s_bu ?_ ?_ <;> (intro hb; try simp only [decide_eq_true_eq, decide_eq_false_iff_not] at hb))) | (refine yy ?_) | (refine yy2 ?_ ?_ <;> (intro hcmp; try simp only [cmp] at hcmp)) | (refine at_nil ?_; refine z_nil [0, 2, 3, 4, 5, 6, 7, 8, 21] ?_) | (refine tc_seq fun K hK => ?_) | (apply_assumption -exfalso -symm))); all_goals (try refine unhalt ?_))
    · (refine tc_ret (y_ret ?_))
      unfold Im.great
      have : (l.take 12).any (fun o => decide (1 < l.length) && decide (3000 < o.code.length)) = true := by
        refine List.any_eq_true.2 ⟨l[k], ?_, by simp; omega⟩
        rw [List.mem_take_iff_getElem]
        exact ⟨k, by omega, rfl⟩
      rw [this]; rfl
    · refine ⟨k + 1, ⟨by omega, ?_⟩, by omega, y_wk⟩
      rw [hs]; simp; omega
    · refine ⟨k + 1, ⟨by omega, ?_⟩, by omega, y_wk⟩
      rw [hs]; simp; omega
  · have hany' : (l.take 12).any (fun o => decide (1 < l.length) && decide (3000 < o.code.length)) = false := by
      have : l.take 12 = l.take k := by rw [List.take_eq_take_iff]; omega
      rw [this]; exact hany
    ((repeat' (first | (refine yyp ?_; (try refine s_bu ?_ ?_ <;> (intro hb; try simp only [decide_eq_true_eq, decide_eq_false_iff_not] at hb))) | (refine yy ?_) | (refine yy2 ?_ ?_ <;> (intro hcmp; try simp only [cmp] at hcmp)) | (refine at_nil ?_; refine z_nil [0, 2, 3, 4, 5, 6, 7, 8, 21] ?_) | (refine tc_seq fun K hK => ?_) | (apply_assumption -exfalso -symm))); all_goals (try refine unhalt ?_))
    all_goals
      (refine tc_ret (y_ret ?_))
      unfold Im.great
      rw [hany']
      simp [oneOf]
      try omega
end Go.Proofs.YtcblefmjacofgaaGreatDoor
