/- Parts: E6, E7, E8, E9, E10. -/
import Derived.Test.YtcblefmjacofgaaGreatDoorA5
import Derived.Test.YtcblefmjacofgaaGreatDoorTA
import Derived.Test.YtcblefmjacofgaaGreatDoorA3
import Derived.Test.YtcblefmjacofgaaGreatDoorA6
set_option linter.all false
set_option linter.unusedVariables false
set_option linter.unusedSimpArgs false
namespace Go.Proofs.YtcblefmjacofgaaGreatDoor
open Go.RowKit
def dCmd (c : I.Cmd) : D := .agg [.int .u8 c.k, .int .i32 c.ad, .int .i32 c.to, dBytes c.b]
attribute [local irreducible] TR TC
set_option maxRecDepth 100000 in
theorem ref_boot_fn (gl : List (Nat × List D)) : FnD Tryz.prog gl 40 [] (fun v => v = .d (dBytes I.bootB)) := by
  (refine y_enter Tryz.func40 Tryz.ntmps40 Tryz.results40 fun w M => ?_; simp only [slots, List.map_cons, List.map_nil, List.zipIdx_cons, List.zipIdx_nil, Nat.reduceAdd])
  ((repeat' (first | (refine tr_at 1 ?_; (refine z_lit 1 ?_)) | (refine yyp ?_; (try refine s_bu ?_ ?_ <;> (intro hb; try simp only [decide_eq_true_eq, decide_eq_false_iff_not] at hb))) | (refine yy ?_) | (refine yy2 ?_ ?_ <;> (intro hcmp; try simp only [cmp] at hcmp)) | (refine at_nil ?_; refine z_nil [0, 1] ?_) | (refine tc_seq fun K hK => ?_) | (apply_assumption -exfalso -symm))); all_goals (try refine unhalt ?_))
  (refine tc_ret (y_ret ?_))
  rfl
theorem mayC_eq (c : I.Cmd) : I.mayC c = decide ((c.k = 0 ∧ c.ad % 4 = 0 ∧ c.b.length = 0) ∨ (c.k = 1 ∧ c.to = 0 ∧ c.b.length ≤ 65536) ∨ (c.k = 2 ∧ c.ad + 2147483648 < 16 ∧ c.ad % 4 = 0 ∧ c.to = 0 ∧ c.b.length ≤ 64)) := by
  unfold I.mayC
  split
  · simp [*]
  · split
    · simp [*]
    · split
      · simp [*, Bool.and_assoc]
      · simp [*]
set_option maxRecDepth 100000 in
set_option maxHeartbeats 2000000 in
theorem ref_may38_fn (gl : List (Nat × List D)) (c : I.Cmd) (hw : c.Wf) : FnD Tryz.prog gl 70 [.d (dCmd c)] (fun v => v = .d (.bool (I.mayC c))) := by
  have hk := hw.k
  have ha0 := hw.a0
  have ha1 := hw.a1
  have ht0 := hw.t0
  have ht1 := hw.t1
  have htm : c.ad.tmod 4 = 0 ↔ c.ad % 4 = 0 := by rw [← Int.dvd_iff_tmod_eq_zero, ← Int.dvd_iff_emod_eq_zero]
  rw [mayC_eq c]
  (refine y_enter Tryz.func70 Tryz.ntmps70 Tryz.results70 fun w M => ?_; simp only [slots, List.map_cons, List.map_nil, List.zipIdx_cons, List.zipIdx_nil, Nat.reduceAdd])
  ((repeat' (first | (refine tr_at 1 ?_; (refine z_box 1 ?_)) | (refine yyp ?_; (try refine s_bu ?_ ?_ <;> (intro hb; try simp only [decide_eq_true_eq, decide_eq_false_iff_not] at hb))) | (refine yy ?_) | (refine yy2 ?_ ?_ <;> (intro hcmp; try simp only [cmp] at hcmp)) | (refine at_nil ?_; refine z_nil [0, 1, 2, 3, 4, 5, 6, 18, 29] ?_) | (refine tc_seq fun K hK => ?_) | (apply_assumption -exfalso -symm))); all_goals (try refine unhalt ?_))
  all_goals
    (refine tc_ret (y_ret ?_))
    simp only [oneOf, V.d.injEq, D.bool.injEq, true_eq_decide_iff, false_eq_decide_iff]
    omega
end Go.Proofs.YtcblefmjacofgaaGreatDoor
namespace Go.Proofs.YtcblefmjacofgaaGreatDoor
open Go.RowKit
theorem FnD.at {P : Program} {gl : List (Nat × List D)} {f : FuncId} {args args' : List V} {R : V → Prop} (h : FnD P gl f args R) (e : args' = args) : FnD P gl f args' R := e ▸ h
theorem slice_all {α β : Type} (f : α → β) (l : List α) (k : Nat) : ((l.map f).drop k).take ((l.map f).length - k) = (l.drop k).map f := by
  rw [List.take_of_length_le (by simp), List.map_drop]
theorem slice_lo {α β : Type} (f : α → β) (l : List α) (m : Nat) : ((l.map f).drop 0).take (m - 0) = (l.take m).map f := by
  simp [List.map_take]
theorem num4_lt (b : List UInt8) : I.num4 b < 4294967296 := by
  unfold I.num4
  have h0 := (b.getD 0 0).toNat_lt
  have h1 := (b.getD 1 0).toNat_lt
  have h2 := (b.getD 2 0).toNat_lt
  have h3 := (b.getD 3 0).toNat_lt
  omega
theorem i32_in (n : Nat) : -2147483648 ≤ I.i32 n ∧ I.i32 n ≤ 2147483647 := by unfold I.i32; omega
theorem wrap_i32 (n : Nat) : IntKind.i32.wrap (n : Int) = I.i32 n := by rw [IntKind.wrap_i32]; unfold I.i32; omega
def vGet (x : Option (List I.Cmd × List UInt8)) : V := match x with
  | some (l, r) => .tup [.d (.list 4 (l.map dCmd)), .d (dBytes r), .d (.int .i64 0)]
  | none => .tup [.d (.list 4 []), .d (dBytes []), .d (.int .i64 380)]
theorem getC_short {f : Nat} {b : List UInt8} (h : b.length < 12) : I.getC f b = none := by
  cases f with
  | zero => rfl
  | succ f => unfold I.getC; rw [if_pos h]
theorem getC_kind {f : Nat} {b : List UInt8} (h1 : 12 ≤ b.length) (h : 2 < I.num4 b) : I.getC f b = none := by
  cases f with
  | zero => rfl
  | succ f => unfold I.getC; rw [if_neg (by omega), if_pos h]
theorem getC_run {f : Nat} {b : List UInt8} (hf : b.length < f) (h1 : 12 ≤ b.length) (h : I.num4 b = 0) :
    I.getC f b = if I.mayC ⟨I.num4 b, I.i32 (I.num4 (b.drop 4)), I.i32 (I.num4 (b.drop 8)), []⟩ then some ([⟨I.num4 b, I.i32 (I.num4 (b.drop 4)), I.i32 (I.num4 (b.drop 8)), []⟩], b.drop 12) else none := by
  cases f with
  | zero => omega
  | succ f => unfold I.getC; rw [if_neg (by omega), if_neg (by omega), if_pos h, h]
theorem getC_long {f : Nat} {b : List UInt8} (h1 : 12 ≤ b.length) (h2 : ¬ 2 < I.num4 b) (h : ¬ I.num4 b = 0) (h3 : b.length - 12 < I.num4 (b.drop 8)) : I.getC f b = none := by
  cases f with
  | zero => rfl
  | succ f => unfold I.getC; rw [if_neg (by omega), if_neg h2, if_neg h, if_pos h3]
theorem getC_next {f : Nat} {b : List UInt8} (hf : b.length < f) (h1 : 12 ≤ b.length) (h2 : ¬ 2 < I.num4 b) (h : ¬ I.num4 b = 0) (h3 : ¬ b.length - 12 < I.num4 (b.drop 8)) :
    I.getC f b = if I.mayC ⟨I.num4 b, I.i32 (I.num4 (b.drop 4)), 0, (b.drop 12).take (I.num4 (b.drop 8))⟩ then
      (I.getC (f - 1) ((b.drop 12).drop (I.num4 (b.drop 8)))).map (fun p => (⟨I.num4 b, I.i32 (I.num4 (b.drop 4)), 0, (b.drop 12).take (I.num4 (b.drop 8))⟩ :: p.1, p.2)) else none := by
  cases f with
  | zero => omega
  | succ f =>
    rw [Nat.add_sub_cancel]
    conv => lhs; unfold I.getC
    rw [if_neg (by omega), if_neg h2, if_neg h, if_neg h3]
    split
    · generalize I.getC f _ = x
      rcases x with _ | ⟨a, b⟩ <;> rfl
    · rfl
end Go.Proofs.YtcblefmjacofgaaGreatDoor
namespace Go.Proofs.YtcblefmjacofgaaGreatDoor
open Go.RowKit
def dObj (o : Im.Obj) : D := .agg [dBytes o.code, .int .i64 o.entry, .int .i64 o.below, .int .i64 o.above]
attribute [local irreducible] TR TC
set_option maxRecDepth 100000 in
set_option maxHeartbeats 2000000 in
theorem ref_may03_fn (gl : List (Nat × List D)) (n : Int) : FnD Tryz.prog gl 35 [.d (.int .i64 n)] (fun v => v = .d (.bool (decide (Im.okMem n)))) := by
  have htm : n.tmod 4 = 0 ↔ n % 4 = 0 := by rw [← Int.dvd_iff_tmod_eq_zero, ← Int.dvd_iff_emod_eq_zero]
  (refine y_enter Tryz.func35 Tryz.ntmps35 Tryz.results35 fun w M => ?_; simp only [slots, List.map_cons, List.map_nil, List.zipIdx_cons, List.zipIdx_nil, Nat.reduceAdd])
  ((repeat' (first | (refine yyp ?_; (try refine s_bu ?_ ?_ <;> (intro hb; try simp only [decide_eq_true_eq, decide_eq_false_iff_not] at hb))) | (refine yy ?_) | (refine yy2 ?_ ?_ <;> (intro hcmp; try simp only [cmp] at hcmp)) | (refine at_nil ?_; refine z_nil [0, 2, 3, 4, 5, 6] ?_) | (refine tc_seq fun K hK => ?_) | (apply_assumption -exfalso -symm))); all_goals (try refine unhalt ?_))
  all_goals
    (refine tc_ret (y_ret ?_))
    simp only [oneOf, V.d.injEq, D.bool.injEq, true_eq_decide_iff, false_eq_decide_iff]
    unfold Im.okMem
    omega
set_option maxRecDepth 100000 in
set_option maxHeartbeats 2000000 in
theorem ref_may27_fn (gl : List (Nat × List D)) (o : Im.Obj) : FnD Tryz.prog gl 36 [.d (dObj o)] (fun v => v = .d (.bool (decide (Im.okObj o)))) := by
  (refine y_enter Tryz.func36 Tryz.ntmps36 Tryz.results36 fun w M => ?_; simp only [slots, List.map_cons, List.map_nil, List.zipIdx_cons, List.zipIdx_nil, Nat.reduceAdd])
  ((repeat' (first | (refine tr_at 1 ?_; (refine z_box 1 ?_)) | (refine yyp ?_; (try refine s_bu ?_ ?_ <;> (intro hb; try simp only [decide_eq_true_eq, decide_eq_false_iff_not] at hb))) | (refine yy ?_) | (refine yy2 ?_ ?_ <;> (intro hcmp; try simp only [cmp] at hcmp)) | (refine at_nil ?_; refine z_nil [0, 1, 2, 3, 4, 5, 6] ?_) | (refine tc_seq fun K hK => ?_) | (apply_assumption -exfalso -symm))); all_goals (try refine unhalt ?_))
  all_goals
    (refine tc_ret (y_ret ?_))
    simp only [oneOf, V.d.injEq, D.bool.injEq, true_eq_decide_iff, false_eq_decide_iff]
    unfold Im.okObj
    omega
set_option maxRecDepth 100000 in
set_option maxHeartbeats 2000000 in
theorem ref_fits_fn (gl : List (Nat × List D)) (n : Int) (o : Im.Obj) (hn : Im.okMem n) (ho : Im.okObj o) : FnD Tryz.prog gl 37 [.d (.int .i64 n), .d (dObj o)] (fun v => v = .d (.bool (decide (Im.fits n o)))) := by
  unfold Im.okMem at hn
  unfold Im.okObj at ho
  (refine y_enter Tryz.func37 Tryz.ntmps37 Tryz.results37 fun w M => ?_; simp only [slots, List.map_cons, List.map_nil, List.zipIdx_cons, List.zipIdx_nil, Nat.reduceAdd])
  ((repeat' (first | (refine tr_at 3 ?_; (refine z_box 3 ?_)) | (refine yyp ?_; (try refine s_bu ?_ ?_ <;> (intro hb; try simp only [decide_eq_true_eq, decide_eq_false_iff_not] at hb))) | (refine yy ?_) | (refine yy2 ?_ ?_ <;> (intro hcmp; try simp only [cmp] at hcmp)) | (refine at_nil ?_; refine z_nil [0, 1, 3, 4, 5, 6, 7] ?_) | (refine tc_seq fun K hK => ?_) | (apply_assumption -exfalso -symm))); all_goals (try refine unhalt ?_))
  all_goals
    (refine tc_ret (y_ret ?_))
    simp only [oneOf, V.d.injEq, D.bool.injEq, true_eq_decide_iff, false_eq_decide_iff]
    unfold Im.fits
    omega
set_option maxRecDepth 100000 in
set_option maxHeartbeats 2000000 in
theorem ref_workspace_fn (gl : List (Nat × List D)) (n : Int) (o : Im.Obj) (hn : Im.okMem n) (ho : Im.okObj o) (hf : Im.fits n o) : FnD Tryz.prog gl 42 [.d (.int .i64 n), .d (dObj o)] (fun v => v = .d (.int .i32 (-2147483648 + (n - o.below * 4)))) := by
  unfold Im.okMem at hn
  unfold Im.okObj at ho
  unfold Im.fits at hf
  (refine y_enter Tryz.func42 Tryz.ntmps42 Tryz.results42 fun w M => ?_; simp only [slots, List.map_cons, List.map_nil, List.zipIdx_cons, List.zipIdx_nil, Nat.reduceAdd])
  ((repeat' (first | (refine tr_at 3 ?_; (refine z_box 3 ?_)) | (refine yyp ?_; (try refine s_bu ?_ ?_ <;> (intro hb; try simp only [decide_eq_true_eq, decide_eq_false_iff_not] at hb))) | (refine yy ?_) | (refine yy2 ?_ ?_ <;> (intro hcmp; try simp only [cmp] at hcmp)) | (refine at_nil ?_; refine z_nil [0, 1, 3, 4, 5, 6, 7] ?_) | (refine tc_seq fun K hK => ?_) | (apply_assumption -exfalso -symm))); all_goals (try refine unhalt ?_))
  (refine tc_ret (y_ret ?_))
  rw [Int.mul_comm o.below 4]
  rfl
set_option maxRecDepth 100000 in
set_option maxHeartbeats 2000000 in
theorem ref_child_fn (gl : List (Nat × List D)) (t : To.Topo) (n k : Int) : FnD Tryz.prog gl 68 [.d (dTopo t), .d (.int .i64 n), .d (.int .i64 k)]
    (fun v => v = .d (.int .i64 (if To.May t then (To.peer t.wires ⟨n, k⟩).getD ⟨0, 0⟩ else ⟨0, 0⟩).node)) := by
  (refine y_enter Tryz.func68 Tryz.ntmps68 Tryz.results68 fun w M => ?_; simp only [slots, List.map_cons, List.map_nil, List.zipIdx_cons, List.zipIdx_nil, Nat.reduceAdd])
  ((repeat' (first | (refine tr_at 3 ?_; (refine z_box 3 ?_)) | (refine tr_at 7 ?_; (refine z_alloc 7 ?_)) | (refine yyp ?_; (try refine s_bu ?_ ?_ <;> (intro hb; try simp only [decide_eq_true_eq, decide_eq_false_iff_not] at hb))) | (refine yy ?_) | (refine yy2 ?_ ?_ <;> (intro hcmp; try simp only [cmp] at hcmp)) | (refine at_call 87 ?_; refine y_call (hc := (ref_Peer_fn gl t ⟨n, k⟩)) ?_) | (refine at_nil ?_; refine z_nil [0, 1, 2, 3, 6, 7, 8] ?_) | (refine tc_seq fun K hK => ?_) | (apply_assumption -exfalso -symm))); all_goals (try refine unhalt ?_))
  all_goals
    (refine tc_ret (y_ret ?_))
    try rfl
end Go.Proofs.YtcblefmjacofgaaGreatDoor
namespace Go.Proofs.YtcblefmjacofgaaGreatDoor
open Go.RowKit
attribute [local irreducible] TR TC
set_option maxRecDepth 100000 in
set_option maxHeartbeats 2000000 in
theorem memory_fn (gl : List (Nat × List D)) (n : Int) : FnD Tryz.prog gl 22 [.d (.int .i64 n)] (fun v => v = .d (.bool (decide (Im.okMem n)))) := by
  have htm : n.tmod 4 = 0 ↔ n % 4 = 0 := by rw [← Int.dvd_iff_tmod_eq_zero, ← Int.dvd_iff_emod_eq_zero]
  (refine y_enter Tryz.func22 Tryz.ntmps22 Tryz.results22 fun w M => ?_; simp only [slots, List.map_cons, List.map_nil, List.zipIdx_cons, List.zipIdx_nil, Nat.reduceAdd])
  ((repeat' (first | (refine yyp ?_; (try refine s_bu ?_ ?_ <;> (intro hb; try simp only [decide_eq_true_eq, decide_eq_false_iff_not] at hb))) | (refine yy ?_) | (refine yy2 ?_ ?_ <;> (intro hcmp; try simp only [cmp] at hcmp)) | (refine at_nil ?_; refine z_nil [0, 2, 3, 4, 5, 6] ?_) | (refine tc_seq fun K hK => ?_) | (apply_assumption -exfalso -symm))); all_goals (try refine unhalt ?_))
  all_goals
    (refine tc_ret (y_ret ?_))
    simp only [oneOf, V.d.injEq, D.bool.injEq, true_eq_decide_iff, false_eq_decide_iff]
    unfold Im.okMem
    omega
set_option maxRecDepth 100000 in
set_option maxHeartbeats 2000000 in
theorem objmay_fn (gl : List (Nat × List D)) (o : Im.Obj) : FnD Tryz.prog gl 23 [.d (dObj o)] (fun v => v = .d (.bool (decide (Im.okObj o)))) := by
  (refine y_enter Tryz.func23 Tryz.ntmps23 Tryz.results23 fun w M => ?_; simp only [slots, List.map_cons, List.map_nil, List.zipIdx_cons, List.zipIdx_nil, Nat.reduceAdd])
  ((repeat' (first | (refine tr_at 1 ?_; (refine z_box 1 ?_)) | (refine yyp ?_; (try refine s_bu ?_ ?_ <;> (intro hb; try simp only [decide_eq_true_eq, decide_eq_false_iff_not] at hb))) | (refine yy ?_) | (refine yy2 ?_ ?_ <;> (intro hcmp; try simp only [cmp] at hcmp)) | (refine at_nil ?_; refine z_nil [0, 1, 2, 3, 4, 5, 6] ?_) | (refine tc_seq fun K hK => ?_) | (apply_assumption -exfalso -symm))); all_goals (try refine unhalt ?_))
  all_goals
    (refine tc_ret (y_ret ?_))
    simp only [oneOf, V.d.injEq, D.bool.injEq, true_eq_decide_iff, false_eq_decide_iff]
    unfold Im.okObj
    omega
set_option maxRecDepth 100000 in
set_option maxHeartbeats 2000000 in
theorem fits_fn (gl : List (Nat × List D)) (n : Int) (o : Im.Obj) (hn : Im.okMem n) (ho : Im.okObj o) : FnD Tryz.prog gl 24 [.d (.int .i64 n), .d (dObj o)] (fun v => v = .d (.bool (decide (Im.fits n o)))) := by
  unfold Im.okMem at hn
  unfold Im.okObj at ho
  (refine y_enter Tryz.func24 Tryz.ntmps24 Tryz.results24 fun w M => ?_; simp only [slots, List.map_cons, List.map_nil, List.zipIdx_cons, List.zipIdx_nil, Nat.reduceAdd])
  ((repeat' (first | (refine tr_at 3 ?_; (refine z_box 3 ?_)) | (refine yyp ?_; (try refine s_bu ?_ ?_ <;> (intro hb; try simp only [decide_eq_true_eq, decide_eq_false_iff_not] at hb))) | (refine yy ?_) | (refine yy2 ?_ ?_ <;> (intro hcmp; try simp only [cmp] at hcmp)) | (refine at_nil ?_; refine z_nil [0, 1, 3, 4, 5, 6, 7] ?_) | (refine tc_seq fun K hK => ?_) | (apply_assumption -exfalso -symm))); all_goals (try refine unhalt ?_))
  all_goals
    (refine tc_ret (y_ret ?_))
    simp only [oneOf, V.d.injEq, D.bool.injEq, true_eq_decide_iff, false_eq_decide_iff]
    unfold Im.fits
    omega
theorem ws_range {n : Int} {o : Im.Obj} (hn : Im.okMem n) (ho : Im.okObj o) (hf : Im.fits n o) : 0 ≤ n - 4 * o.below ∧ n - 4 * o.below ≤ 65536 ∧ 0 ≤ o.below ∧ o.below ≤ 16384 ∧ 1024 ≤ n ∧ n ≤ 65536 := by
  unfold Im.okMem at hn
  unfold Im.okObj at ho
  unfold Im.fits at hf
  omega
set_option maxRecDepth 100000 in
set_option maxHeartbeats 2000000 in
theorem Workspace_fn (gl : List (Nat × List D)) (n : Int) (o : Im.Obj) : FnD Tryz.prog gl 13 [.d (.int .i64 n), .d (dObj o)] (fun v => v = .tup [.d (.int .i32 (Im.workspace n o).1), .d (.int .i64 (Im.workspace n o).2)]) := by
  (refine y_enter Tryz.func13 Tryz.ntmps13 Tryz.results13 fun w M => ?_; simp only [slots, List.map_cons, List.map_nil, List.zipIdx_cons, List.zipIdx_nil, Nat.reduceAdd])
  ((repeat' (first | (refine tr_at 3 ?_; (refine z_box 3 ?_)) | (refine tc_at 5 ?_; refine halt ?_) | (refine yyp ?_; (try refine s_bu ?_ ?_ <;> (intro hb; try simp only [decide_eq_true_eq, decide_eq_false_iff_not] at hb))) | (refine yy ?_) | (refine yy2 ?_ ?_ <;> (intro hcmp; try simp only [cmp] at hcmp)) | (refine at_call 22 ?_; refine y_call (hc := (memory_fn gl n)) ?_; (try refine s_bu ?_ ?_ <;> (intro hb; try simp only [decide_eq_true_eq, decide_eq_false_iff_not] at hb))) | (refine at_call 23 ?_; refine y_call (hc := (objmay_fn gl o)) ?_; (try refine s_bu ?_ ?_ <;> (intro hb; try simp only [decide_eq_true_eq, decide_eq_false_iff_not] at hb))) | (refine at_call 24 ?_; refine y_call (hc := (fits_fn gl n o ‹_› ‹_›)) ?_; (try refine s_bu ?_ ?_ <;> (intro hb; try simp only [decide_eq_true_eq, decide_eq_false_iff_not] at hb))) | (refine at_nil ?_; refine z_nil [0, 1, 3, 4, 5, 6, 7, 15] ?_) | (refine tc_seq fun K hK => ?_) | (apply_assumption -exfalso -symm))); all_goals (try refine unhalt ?_))
  case' refine_1.refine_1.refine_1 =>
    have hr := ws_range ‹Im.okMem n› ‹Im.okObj o› ‹Im.fits n o›
    obtain ⟨h1, h2, h3, h4, h5, h6⟩ := hr
    ((repeat' (first | (refine tr_at 3 ?_; (refine z_box 3 ?_)) | (refine yyp ?_; (try refine s_bu ?_ ?_ <;> (intro hb; try simp only [decide_eq_true_eq, decide_eq_false_iff_not] at hb))) | (refine yy ?_) | (refine yy2 ?_ ?_ <;> (intro hcmp; try simp only [cmp] at hcmp)) | (refine at_nil ?_; refine z_nil [0, 1, 3, 4, 5, 6, 7, 15] ?_) | (refine tc_seq fun K hK => ?_) | (apply_assumption -exfalso -symm))); all_goals (try refine unhalt ?_))
  all_goals
    (refine tc_ret (y_ret ?_))
    simp [oneOf, Im.workspace, Int.mul_comm, *]
theorem and3 (n : Int) : IntKind.i32.wrap ((BitVec.ofInt IntKind.i32.bits n &&& BitVec.ofInt IntKind.i32.bits 3).toNat : Int) = n % 4 := by
  have key : (BitVec.ofInt 32 n &&& BitVec.ofInt 32 3).toNat = (n % ((2 ^ 32 : Nat) : Int)).toNat % 2 ^ 2 := by
    rw [BitVec.toNat_and, BitVec.toNat_ofInt, show (BitVec.ofInt 32 3).toNat = 2 ^ 2 - 1 from rfl, Nat.and_two_pow_sub_one_eq_mod]
  show IntKind.i32.wrap ((BitVec.ofInt 32 n &&& BitVec.ofInt 32 3).toNat : Nat) = n % 4
  rw [key, IntKind.wrap_i32]
  omega
set_option maxRecDepth 100000 in
set_option maxHeartbeats 2000000 in
theorem lmay_fn (gl : List (Nat × List D)) (c : I.Cmd) (hw : c.Wf) : FnD Tryz.prog gl 76 [.d (dCmd c)] (fun v => v = .d (.bool (I.mayC c))) := by
  have hk := hw.k
  have ha0 := hw.a0
  have ha1 := hw.a1
  have ht0 := hw.t0
  have ht1 := hw.t1
  have hand := and3 c.ad
  have hu : IntKind.u32.wrap (IntKind.i32.wrap (c.ad - -2147483648)) = c.ad + 2147483648 := by rw [IntKind.wrap_i32, IntKind.wrap_u32]; omega
  rw [mayC_eq c]
  (refine y_enter Tryz.func76 Tryz.ntmps76 Tryz.results76 fun w M => ?_; simp only [slots, List.map_cons, List.map_nil, List.zipIdx_cons, List.zipIdx_nil, Nat.reduceAdd])
  ((repeat' (first | (refine tr_at 1 ?_; (refine z_box 1 ?_)) | (refine yyp ?_; (try refine s_bu ?_ ?_ <;> (intro hb; try simp only [decide_eq_true_eq, decide_eq_false_iff_not] at hb))) | (refine yy ?_) | (refine yy2 ?_ ?_ <;> (intro hcmp; try simp only [cmp] at hcmp)) | (refine at_nil ?_; refine z_nil [0, 1, 2, 3, 4, 5, 6, 17, 28] ?_) | (refine tc_seq fun K hK => ?_) | (apply_assumption -exfalso -symm))); all_goals (try refine unhalt ?_))
  all_goals
    (refine tc_ret (y_ret ?_))
    simp only [oneOf, V.d.injEq, D.bool.injEq, true_eq_decide_iff, false_eq_decide_iff]
    omega
end Go.Proofs.YtcblefmjacofgaaGreatDoor
namespace Go.Proofs.YtcblefmjacofgaaGreatDoor
open Go.RowKit
theorem cmd_ext {a b : I.Cmd} (h1 : a.k = b.k) (h2 : a.ad = b.ad) (h3 : a.to = b.to) (h4 : a.b = b.b) : a = b := by
  cases a; cases b; simp_all
end Go.Proofs.YtcblefmjacofgaaGreatDoor
