/- Parts: F17, F18. -/
import Derived.Test.YtcblefmjacofgaaDoorA12
import Derived.Test.YtcblefmjacofgaaDoorA13
set_option linter.all false
set_option linter.unusedVariables false
set_option linter.unusedSimpArgs false
namespace Go.Proofs.YtcblefmjacofgaaDoor
open Go.RowKit
namespace Im
def one : Obj := ⟨[245], 0, 3, 5⟩
def net : To.Topo := ⟨1, [], ⟨0, 0⟩⟩
def mkB : List UInt8 := (makeE net 1024 [one]).1
theorem ex1 : workspace 1024 one = (-2147482636, 0) := by decide +kernel
theorem ex2 : workspace 1024 ⟨[1], 0, 100, 28⟩ = (0, 9) := by decide +kernel
theorem ex3 : workspace 1024 ⟨[1], 0, 100, 27⟩ = (-2147483024, 0) := by decide +kernel
theorem ex4 : (makeE net 1024 [one]).2 = 0 ∧ mkB.length = 66 := by decide +kernel
theorem ex5 : split net mkB = ([[⟨1, -2147483136, 0, [245]⟩, ⟨0, -2147482636, -2147483136, []⟩]], 0) := by decide +kernel
theorem ex6 : split net I.bootB = ([], 380) := by decide +kernel
theorem ex7 : loadE net 1 1024 [one] = ([], 4) := by decide +kernel
theorem ex8 : makeE net 1024 [] = ([], 2) := by decide +kernel
end Im
def dOne : D := .agg [.list 1 [.int .u8 245], .int .i64 0, .int .i64 3, .int .i64 5]
def dNet : D := .agg [.int .i64 1, .list 4 [], .int .i64 0, .int .i64 0]
theorem rep_nil {w : World} {M : Nat → Nat → Prop} {sz : Nat} (sz' : Nat) {v : Value} (h : RepD w M (.list sz []) v) : RepD w M (.list sz' []) v := by
  obtain ⟨a, c, ys, h1, h2, h3, h4, h5, h6⟩ := h
  exact ⟨a, c, ys, h1, h2, h3, h4, h5, h6⟩
attribute [local irreducible] TR TC
set_option maxRecDepth 100000 in
set_option maxHeartbeats 4000000 in
theorem awake_fn : FnD Tryd.prog glT 10 [] (fun v => v = .d (.bool true)) := by
  have w1 : FnD Tryd.prog glT 8 [.d (.int .i64 1024), .d (.agg [.list 1 [.int .u8 245], .int .i64 0, .int .i64 3, .int .i64 5])] (fun v => v = .tup [.d (.int .i32 (-2147482636)), .d (.int .i64 0)]) := by
    have := Workspace_fn glT 1024 Im.one
    rw [Im.ex1] at this
    exact this
  have w2 : FnD Tryd.prog glT 8 [.d (.int .i64 1024), .d (.agg [.list 1 [.int .u8 1], .int .i64 0, .int .i64 100, .int .i64 28])] (fun v => v = .tup [.d (.int .i32 0), .d (.int .i64 9)]) := by
    have := Workspace_fn glT 1024 ⟨[1], 0, 100, 28⟩
    rw [Im.ex2] at this
    exact this
  have w3 : FnD Tryd.prog glT 8 [.d (.int .i64 1024), .d (.agg [.list 1 [.int .u8 1], .int .i64 0, .int .i64 100, .int .i64 27])] (fun v => v = .tup [.d (.int .i32 (-2147483024)), .d (.int .i64 0)]) := by
    have := Workspace_fn glT 1024 ⟨[1], 0, 100, 27⟩
    rw [Im.ex3] at this
    exact this
  have m1 : FnD Tryd.prog glT 15 [.d (.agg [.int .i64 1, .list 4 [], .int .i64 0, .int .i64 0]), .d (.int .i64 1024), .d (.list 4 [.agg [.list 1 [.int .u8 245], .int .i64 0, .int .i64 3, .int .i64 5]])] (fun v => v = .tup [.d (dBytes Im.mkB), .d (.int .i64 0)]) := by
    have := Make_fn Im.net 1024 [Im.one] (by decide)
    rw [Im.ex4.1] at this
    exact this
  have m2 : FnD Tryd.prog glT 15 [.d (.agg [.int .i64 1, .list 4 [], .int .i64 0, .int .i64 0]), .d (.int .i64 1024), .d (.list 4 [])] (fun v => v = .tup [.d (.list 1 []), .d (.int .i64 2)]) := by
    have := Make_fn Im.net 1024 [] (by decide)
    rw [Im.ex8] at this
    exact this
  have m3 : FnD Tryd.prog glT 15 [.d (.agg [.int .i64 1, .list 4 [], .int .i64 0, .int .i64 0]), .d (.int .i64 1024), .d (.list 0 [])] (fun v => v = .tup [.d (.list 1 []), .d (.int .i64 2)]) := fun w M us hM hus hg => m2 w M us hM (by
    obtain ⟨v1, r1, e1, h1, v2, r2, e2, h2, v3, r3, e3, h3, h4⟩ := hus
    exact ⟨v1, r1, e1, h1, v2, r2, e2, h2, v3, r3, e3, rep_nil 4 h3, h4⟩) hg
  have s1 : FnD Tryd.prog glT 11 [.d (.agg [.int .i64 1, .list 4 [], .int .i64 0, .int .i64 0]), .d (dBytes Im.mkB)] (fun v => v = .tup [.d (.list 1 [.list 4 [.agg [.int .u8 1, .int .i32 (-2147483136), .int .i32 0, .list 1 [.int .u8 245]], .agg [.int .u8 0, .int .i32 (-2147482636), .int .i32 (-2147483136), .list 1 []]]]), .d (.int .i64 0)]) := by
    have := Split_fn Im.net Im.mkB (by rw [Im.ex4.2]; decide)
    rw [Im.ex5] at this
    exact this
  have s2 : FnD Tryd.prog glT 11 [.d (.agg [.int .i64 1, .list 4 [], .int .i64 0, .int .i64 0]), .d (dBytes I.bootB)] (fun v => v = .tup [.d (.list 1 []), .d (.int .i64 380)]) := by
    have := Split_fn Im.net I.bootB (by decide)
    rw [Im.ex6] at this
    exact this
  have l1 : FnD Tryd.prog glT 24 [.d (.agg [.int .i64 1, .list 4 [], .int .i64 0, .int .i64 0]), .d (.int .i64 1), .d (.int .i64 1024), .d (.list 4 [.agg [.list 1 [.int .u8 245], .int .i64 0, .int .i64 3, .int .i64 5]])] (fun v => v = .tup [.d (.list 1 []), .d (.int .i64 4)]) := by
    have := Load_fn Im.net 1 1024 [Im.one] (by decide)
    rw [Im.ex7] at this
    exact this
  have b1 : FnD Tryd.prog glT 16 [.d (.list 1 [.int .u8 245]), .d (.list 1 [.int .u8 245])] (fun v => v = .d (.bool true)) := bytes_equal_fn glT [245] [245]
  have hmk := Im.ex4.2
  generalize Im.mkB = mk at *
  (refine y_enter Tryd.func10 Tryd.ntmps10 Tryd.results10 fun w M => ?_; simp only [slots, List.map_cons, List.map_nil, List.zipIdx_cons, List.zipIdx_nil, Nat.reduceAdd])
  ((repeat' (first | (refine z_lit (d := 21) 21 ?_) | (refine tr_at 22 ?_; refine z_p w_buildn ?_) | (refine z_alloc (d := 1) 1 ?_) | (refine tr_at 25 ?_; refine z_call (hc := w1) ?_; rintro _ rfl) | (refine z_lit (d := 29) 29 ?_) | (refine tr_at 31 ?_; refine z_call (hc := w2) ?_; rintro _ rfl) | (refine z_lit (d := 35) 35 ?_) | (refine tr_at 37 ?_; refine z_call (hc := w3) ?_; rintro _ rfl) | (refine tr_at 40 ?_; refine z_p w_buildn ?_) | (refine z_alloc (d := 8) 8 ?_) | (refine z_lit (d := 44) 44 ?_) | (refine tr_at 45 ?_; refine z_call (hc := m1) ?_; rintro _ rfl) | (refine tr_at 51 ?_; refine z_call (hc := s1) ?_; rintro _ rfl) | (refine tr_at 57 ?_; refine z_call (hc := s2) ?_; rintro _ rfl) | (refine z_lit (d := 63) 63 ?_) | (refine tr_at 69 ?_; refine z_call (hc := m3) ?_; rintro _ rfl) | (refine z_alloc (d := 19) 19 ?_) | (refine z_alloc (d := 20) 20 ?_) | (refine yyp ?_; (try refine s_bu ?_ ?_ <;> (intro hb; try simp only [decide_eq_true_eq, decide_eq_false_iff_not] at hb))) | (refine yy ?_) | (refine yy2 ?_ ?_ <;> (intro hcmp; try simp only [cmp] at hcmp)) | (refine y_call (hc := (boot_fn)) ?_) | (refine y_call (hc := (l1)) ?_) | (refine y_call (hc := (b1)) ?_; (try refine s_bu ?_ ?_ <;> (intro hb; try simp only [decide_eq_true_eq, decide_eq_false_iff_not] at hb))) | (refine z_nil [0, 1, 2, 3, 4, 5, 6, 7, 8, 9, 10, 11, 12, 14, 16, 18, 19, 20, 114] ?_) | (refine tr_two ?_ ?_) | (refine tr_mid ?_ ?_) | (refine tr_or ?_ ?_) | (apply tc_mid (x := .region 13 _ _); focus ((refine z_draw (id := 13) [12, 13] (linT [0, 4, 20, 24, 9, 12, 17] (.or (linT [30, 32] (.or (linT [38] (.two 10 (lin [46, 51, 55]) 11 (lin [42, 51, 55]))) (.or (linT [42] (.two 9 (lin [46, 51, 55]) 11 (.mid 9 (lin [51, 55]) 12 (lin [37, 55])))) (linT [46] (.two 9 (lin [42, 51, 55]) 10 (.mid 9 (lin [51, 55]) 12 (lin [37, 55]))))))) (.or (linT [42] (.two 7 (linT [32] (.two 9 (lin [46, 51, 55]) 11 (.mid 9 (lin [51, 55]) 12 (lin [37, 55])))) 11 (.mid 7 (linT [32] (.mid 9 (lin [51, 55]) 12 (lin [37, 55]))) 12 (lin [29, 32, 37, 55])))) (linT [46] (.two 7 (linT [32] (.two 9 (lin [42, 51, 55]) 10 (.mid 9 (lin [51, 55]) 12 (lin [37, 55])))) 10 (.mid 7 (linT [32] (.mid 9 (lin [51, 55]) 12 (lin [37, 55]))) 12 (lin [29, 32, 37, 55]))))))) ?_); (repeat' (first | (refine z_lit (d := 21) 21 ?_) | (refine tr_at 22 ?_; refine z_p w_buildn ?_) | (refine z_alloc (d := 1) 1 ?_) | (refine tr_at 25 ?_; refine z_call (hc := w1) ?_; rintro _ rfl) | (refine z_lit (d := 29) 29 ?_) | (refine tr_at 31 ?_; refine z_call (hc := w2) ?_; rintro _ rfl) | (refine z_lit (d := 35) 35 ?_) | (refine tr_at 37 ?_; refine z_call (hc := w3) ?_; rintro _ rfl) | (refine tr_at 40 ?_; refine z_p w_buildn ?_) | (refine z_alloc (d := 8) 8 ?_) | (refine z_lit (d := 44) 44 ?_) | (refine tr_at 45 ?_; refine z_call (hc := m1) ?_; rintro _ rfl) | (refine tr_at 51 ?_; refine z_call (hc := s1) ?_; rintro _ rfl) | (refine tr_at 57 ?_; refine z_call (hc := s2) ?_; rintro _ rfl) | (refine z_lit (d := 63) 63 ?_) | (refine tr_at 69 ?_; refine z_call (hc := m3) ?_; rintro _ rfl) | (refine z_alloc (d := 19) 19 ?_) | (refine z_alloc (d := 20) 20 ?_) | (refine yyp ?_) | (refine yy ?_) | (refine yy2 ?_ ?_ <;> (intro hcmp; try simp only [cmp] at hcmp)) | (refine y_call (hc := (boot_fn)) ?_) | (refine y_call (hc := (l1)) ?_) | (refine y_call (hc := (b1)) ?_) | (refine z_nil [0, 1, 2, 3, 4, 5, 6, 7, 8, 9, 10, 11, 12, 14, 16, 18, 19, 20, 114] ?_) | (refine tr_two ?_ ?_) | (refine tr_mid ?_ ?_) | (refine tr_or ?_ ?_))); (all_goals first | exact Wk.refl _ _ | exact y_wk); done)) | (refine tc_seq fun K hK => ?_) | (refine z_draw (id := 8) [] (lin [1, 6, 10, 12, 16, 20, 24, 28]) ?_) | (refine z_draw (id := 13) [12, 13] (linT [0, 4, 20, 24, 9, 12, 17] (.or (linT [30, 32] (.or (linT [38] (.two 10 (lin [46, 51, 55]) 11 (lin [42, 51, 55]))) (.or (linT [42] (.two 9 (lin [46, 51, 55]) 11 (.mid 9 (lin [51, 55]) 12 (lin [37, 55])))) (linT [46] (.two 9 (lin [42, 51, 55]) 10 (.mid 9 (lin [51, 55]) 12 (lin [37, 55]))))))) (.or (linT [42] (.two 7 (linT [32] (.two 9 (lin [46, 51, 55]) 11 (.mid 9 (lin [51, 55]) 12 (lin [37, 55])))) 11 (.mid 7 (linT [32] (.mid 9 (lin [51, 55]) 12 (lin [37, 55]))) 12 (lin [29, 32, 37, 55])))) (linT [46] (.two 7 (linT [32] (.two 9 (lin [42, 51, 55]) 10 (.mid 9 (lin [51, 55]) 12 (lin [37, 55])))) 10 (.mid 7 (linT [32] (.mid 9 (lin [51, 55]) 12 (lin [37, 55]))) 12 (lin [29, 32, 37, 55]))))))) ?_) | (apply_assumption -exfalso -symm))); all_goals (try refine unhalt ?_))
  all_goals first | (exfalso; omega) | (exfalso; simp at hcmp; done) | ((refine tc_ret (y_ret ?_)); rfl)
end Go.Proofs.YtcblefmjacofgaaDoor
namespace Go.Proofs.YtcblefmjacofgaaDoor
open Go.RowKit
attribute [local irreducible] TR TC
set_option maxRecDepth 100000 in
set_option maxHeartbeats 2000000 in
theorem spaces_fn (n : Int) (o : Im.Obj) : FnD Tryd.prog glT 3 [.d (.int .i64 n), .d (dObj o)] (fun v => v = .d (.bool true)) := by
  (refine y_enter Tryd.func3 Tryd.ntmps3 Tryd.results3 fun w M => ?_; simp only [slots, List.map_cons, List.map_nil, List.zipIdx_cons, List.zipIdx_nil, Nat.reduceAdd])
  ((repeat' (first | (refine z_box (d := 3) 3 ?_) | (refine yyp ?_; (try refine s_bu ?_ ?_ <;> (intro hb; try simp only [decide_eq_true_eq, decide_eq_false_iff_not] at hb))) | (refine yy ?_) | (refine yy2 ?_ ?_ <;> (intro hcmp; try simp only [cmp] at hcmp)) | (refine y_call (hc := (Workspace_fn glT n o)) ?_) | (refine y_call (hc := (ref_Workspace_fn glT n o)) ?_) | (refine y_call (hc := (awake_fn)) ?_; (try refine s_bu ?_ ?_ <;> (intro hb; try simp only [decide_eq_true_eq, decide_eq_false_iff_not] at hb))) | (refine z_nil [0, 1, 3, 4, 5, 6, 7, 8] ?_) | (refine tc_seq fun K hK => ?_) | (apply_assumption -exfalso -symm))); all_goals (try refine unhalt ?_))
  all_goals first | (exfalso; simp at hcmp; done) | (exfalso; omega) | ((refine tc_ret (y_ret ?_)); rfl)
end Go.Proofs.YtcblefmjacofgaaDoor
