/- Parts: N29, N30. -/
import Derived.Test.YtjhbglklcddekaaGreatDoorP40
import Derived.Test.YtjhbglklcddekaaGreatDoorP41
import Derived.Test.YtjhbglklcddekaaGreatDoorP24
set_option linter.all false
set_option maxRecDepth 100000
set_option maxHeartbeats 16000000
namespace Go.Proofs.YtjhbglklcddekaaGreatDoor
open Go.RowKit Go.Proofs.Tryz
section
def qn29_0 : List Nat := [0, 2, 3, 4, 5, 6]
def qn29_1 : List Nat := [0, 2, 4, 5, 6, 13, 18, 33, 34, 35, 36, 45]
def qn29_2 : Plan := lin [0, 4, 28, 32, 9, 14, 16, 20, 24, 36, 40, 47, 48]
def qn29_3 : Plan := lin [0, 4, 8, 12, 24, 28, 32, 36, 17, 41, 22, 48, 52, 46, 59, 60, 64, 71]
open Go.RowKit Nd
def nz : List V := [.d (.int .i32 0), .d (.int .i32 0), .d (.int .i32 0), .d (.int .i32 0), .d (.int .i32 0), .d (.int .i64 0), .d (.bool false), .d (.bool false), .d (.bool false), .d (.bool false), .d (.int .i32 0), .d (.int .i32 0), .d (.int .i32 0), .d (.int .i32 0), .d (.int .i32 0), .d (.int .i32 0), .d (.int .i32 0), .d (.int .i32 0), .d (.int .i32 0), .d (.int .i32 0), .d (.bool false), .d (.int .i32 0), .d (.int .i32 0), .d (.int .i32 0), .d (.int .i32 0), .d (.int .i32 0), .d (.bool false), .d (.int .i32 0), .d (.raw (.pointer none)), .d (.int .i32 0), .d (.int .i32 0), .d (.int .i32 0), .d (.int .i32 0), .d (.bool false), .d (.bool false), .d (.int .u8 0), .d (.int .i32 0), .d (.int .i32 0), .d (.int .i32 0), .d (.int .i32 0), .d (.bool false), .d (.bool false), .d (.int .u8 0), .d (.int .u16 0), .d (.int .i64 0), .d (.bool false), .d (.bool false), .d (.int .u8 0), .d (.int .i64 0), .d (.int .u16 0), .d (.int .i32 0), .d (.int .i32 0), .d (.int .i32 0), .d (.int .i32 0), .d (.bool false), .d (.bool false), .d (.int .u8 0), .d (.int .i32 0), .d (.int .i32 0), .d (.int .i32 0), .d (.int .i32 0), .d (.bool false), .d (.bool false), .d (.int .u8 0), .d (.int .u16 0), .d (.int .i64 0), .d (.bool false), .d (.bool false), .d (.int .u8 0), .d (.int .i64 0), .d (.int .u16 0), .d (.int .i32 0), .d (.int .i32 0), .d (.int .i32 0), .d (.int .i32 0), .d (.bool false), .d (.bool false), .d (.int .u8 0), .d (.int .i32 0), .d (.int .i32 0), .d (.int .i32 0), .d (.int .i32 0), .d (.bool false), .d (.bool false), .d (.int .u8 0), .d (.int .u16 0), .d (.int .i64 0), .d (.bool false), .d (.bool false), .d (.int .u8 0), .d (.int .i64 0), .d (.int .u16 0), .d (.int .i32 0), .d (.int .i32 0), .d (.int .i32 0), .d (.int .i32 0), .d (.bool false), .d (.bool false), .d (.int .u8 0), .d (.int .i32 0), .d (.int .i32 0), .d (.int .i32 0), .d (.int .i32 0), .d (.bool false), .d (.bool false), .d (.int .u8 0), .d (.int .u16 0), .d (.int .i64 0), .d (.bool false), .d (.bool false), .d (.int .u8 0), .d (.int .i64 0), .d (.int .u16 0), .d (.bool false), .d (.int .i64 0), .nils 1, .nils 1, .nils 0]
def zD : List D := [.int .i32 0, .int .i32 0, .int .i32 0, .int .i32 0, .int .i32 0, .int .i64 0, .bool false, .bool false, .bool false, .bool false, .int .i32 0, .int .i32 0, .int .i32 0, .int .i32 0, .int .i32 0, .int .i32 0, .int .i32 0, .int .i32 0, .int .i32 0, .int .i32 0, .bool false, .int .i32 0, .int .i32 0, .int .i32 0, .int .i32 0, .int .i32 0, .bool false, .int .i32 0, .list 1 [], .int .i32 0, .int .i32 0, .int .i32 0, .int .i32 0, .bool false, .bool false, .int .u8 0, .int .i32 0, .int .i32 0, .int .i32 0, .int .i32 0, .bool false, .bool false, .int .u8 0, .int .u16 0, .int .i64 0, .bool false, .bool false, .int .u8 0, .int .i64 0, .int .u16 0, .int .i32 0, .int .i32 0, .int .i32 0, .int .i32 0, .bool false, .bool false, .int .u8 0, .int .i32 0, .int .i32 0, .int .i32 0, .int .i32 0, .bool false, .bool false, .int .u8 0, .int .u16 0, .int .i64 0, .bool false, .bool false, .int .u8 0, .int .i64 0, .int .u16 0, .int .i32 0, .int .i32 0, .int .i32 0, .int .i32 0, .bool false, .bool false, .int .u8 0, .int .i32 0, .int .i32 0, .int .i32 0, .int .i32 0, .bool false, .bool false, .int .u8 0, .int .u16 0, .int .i64 0, .bool false, .bool false, .int .u8 0, .int .i64 0, .int .u16 0, .int .i32 0, .int .i32 0, .int .i32 0, .int .i32 0, .bool false, .bool false, .int .u8 0, .int .i32 0, .int .i32 0, .int .i32 0, .int .i32 0, .bool false, .bool false, .int .u8 0, .int .u16 0, .int .i64 0, .bool false, .bool false, .int .u8 0, .int .i64 0, .int .u16 0, .bool false, .int .i64 0, .list 1 [], .list 1 []]
attribute [local irreducible] TR TC
theorem znone_n (gl : List (Nat × List D)) : FnE prog gl 46 [.d (.raw (.pointer none))] [] (fun v H1 => v = .d (.bool true) ∧ H1 = []) := by
  (refine y_entere func46 ntmps46 results46 fun w M E b0 => ?_)
  (repeat' first | refine yyp ?_; try refine s_bu ?_ ?_ <;> intro hb | refine yyq ?_; try refine s_bu ?_ ?_ <;> intro hb | refine yy ?_ | refine at_nil ?_; refine z_nil qn29_0 ?_ | refine tc_seq fun K hK => ?_ | apply_assumption -exfalso -symm)
  all_goals
    (refine tc_ret (y_rete ⟨?_, rfl⟩))
    rfl
theorem zoff_n (gl : List (Nat × List D)) (k : Int) : FnE prog gl 49 [.d (.raw (.pointer none)), .d (.int .i64 k)] [] (fun v H1 => v = .d (.bool true) ∧ H1 = []) := by
  have c0 := znone_n gl
  (refine y_entere func49 ntmps49 results49 fun w M E b0 => ?_)
  (repeat' first | refine tr_at 6 ?_; refine y_callE (hc := c0) ?_; try refine s_bu ?_ ?_ <;> intro hb | refine yyp ?_; try refine s_bu ?_ ?_ <;> intro hb | refine yy ?_ | refine at_nil ?_; refine z_nil [0, 1, 4, 5, 6, 7] ?_ | refine tc_seq fun K hK => ?_ | apply_assumption -exfalso -symm)
  all_goals
    (refine tc_ret (y_rete ⟨?_, rfl⟩))
    rfl
theorem ztx_n (gl : List (Nat × List D)) (k : Int) : FnE prog gl 17 [.d (.raw (.pointer none)), .d (.int .i64 k)] [] (fun v H1 => v = .tup [.d (.int .i64 0), .d (.list 5 [])] ∧ H1 = []) := by
  have c0 := zoff_n gl k
  (refine y_entere func17 ntmps17 results17 fun w M E b0 => ?_)
  (repeat' first | refine tr_at 9 ?_; refine y_callE (hc := c0) ?_; try refine s_bu ?_ ?_ <;> intro hb | refine yyp ?_; try refine s_bu ?_ ?_ <;> intro hb | refine yy ?_ | refine at_nil ?_; refine z_nil [0, 1, 4, 5, 6, 7, 9, 39, 57] ?_ | refine tc_seq fun K hK => ?_ | refine tc_at 4 ?_; refine z_draw [11] qn29_2 ?_ | apply_assumption -exfalso -symm)
  all_goals
    (refine tc_ret (y_rete ⟨?_, rfl⟩))
    rfl
theorem zrx_n (gl : List (Nat × List D)) (k : Int) (b : Int) : FnE prog gl 19 [.d (.raw (.pointer none)), .d (.int .i64 k), .d (.int .i64 b)] [] (fun v H1 => v = .d (.list 5 []) ∧ H1 = []) := by
  have c0 := zoff_n gl k
  (refine y_entere func19 ntmps19 results19 fun w M E b0 => ?_)
  (repeat' first | refine tr_at 12 ?_; refine y_callE (hc := c0) ?_; try refine s_bu ?_ ?_ <;> intro hb | refine yyp ?_; try refine s_bu ?_ ?_ <;> intro hb | refine yy ?_ | refine at_nil ?_; refine z_nil [0, 1, 2, 6, 7, 8, 9, 12, 32, 33, 44] ?_ | refine tc_seq fun K hK => ?_ | refine tc_at 12 ?_; refine z_draw [] (lin [0, 4, 8, 12, 16, 21, 26]) ?_ | apply_assumption -exfalso -symm)
  all_goals
    (refine tc_ret (y_rete ⟨?_, rfl⟩))
    rfl
theorem zstep_n (gl : List (Nat × List D)) : FnE prog gl 18 [.d (.raw (.pointer none))] [] (fun v H1 => v = .d (.list 5 []) ∧ H1 = []) := by
  have c0 := znone_n gl
  (refine y_entere func18 ntmps18 results18 fun w M E b0 => ?_)
  (repeat' first | refine yyp ?_; try refine s_bu ?_ ?_ <;> intro hb | refine yy ?_ | refine at_nil ?_; refine z_nil qn29_1 ?_ | refine tc_seq fun K hK => ?_ | apply_assumption -exfalso -symm)
  refine tc_scope rfl ?_
  (repeat' first | refine tr_at 6 ?_; refine y_callE (hc := c0) ?_; try refine s_bu ?_ ?_ <;> intro hb | refine yyp ?_; try refine s_bu ?_ ?_ <;> intro hb | refine yy ?_ | refine at_nil ?_; refine z_nil qn29_1 ?_ | refine tc_seq fun K hK => ?_ | apply_assumption -exfalso -symm)
  all_goals
    (refine tc_ret (y_rete ⟨?_, rfl⟩))
    rfl
theorem zbooted_n (gl : List (Nat × List D)) : FnE prog gl 13 [.d (.raw (.pointer none))] [] (fun v H1 => v = .tup [.d (.int .i64 0), .d (.bool false)] ∧ H1 = []) := by
  have c0 := znone_n gl
  (refine y_entere func13 ntmps13 results13 fun w M E b0 => ?_)
  (repeat' first | refine tr_at 5 ?_; refine y_callE (hc := c0) ?_; try refine s_bu ?_ ?_ <;> intro hb | refine yyp ?_; try refine s_bu ?_ ?_ <;> intro hb | refine yy ?_ | refine at_nil ?_; refine z_nil [0, 2, 3, 4, 5, 6, 12] ?_ | refine tc_seq fun K hK => ?_ | apply_assumption -exfalso -symm)
  all_goals
    (refine tc_ret (y_rete ⟨?_, rfl⟩))
    rfl
theorem zidle_n (gl : List (Nat × List D)) : FnE prog gl 20 [.d (.raw (.pointer none))] [] (fun v H1 => v = .d (.bool false) ∧ H1 = []) := by
  have c0 := znone_n gl
  (refine y_entere func20 ntmps20 results20 fun w M E b0 => ?_)
  (repeat' first | refine tr_at 6 ?_; refine y_callE (hc := c0) ?_; try refine s_bu ?_ ?_ <;> intro hb | refine yyp ?_; try refine s_bu ?_ ?_ <;> intro hb | refine yy ?_ | refine at_nil ?_; refine z_nil [0, 2, 4, 5, 6, 11, 34, 38, 39, 40, 81] ?_ | refine tc_seq fun K hK => ?_ | apply_assumption -exfalso -symm)
  all_goals
    (refine tc_ret (y_rete ⟨?_, rfl⟩))
    rfl
theorem zcopy_n (gl : List (Nat × List D)) : FnE prog gl 21 [.d (.raw (.pointer none))] [] (fun v H1 => v = .d (.raw (.pointer none)) ∧ H1 = []) := by
  have c0 := znone_n gl
  (refine y_entere func21 ntmps21 results21 fun w M E b0 => ?_)
  (repeat' first | refine tr_at 6 ?_; refine y_callE (hc := c0) ?_; try refine s_bu ?_ ?_ <;> intro hb | refine yyp ?_; try refine s_bu ?_ ?_ <;> intro hb | refine yy ?_ | refine at_nil ?_; refine z_nil qn29_0 ?_ | refine tc_seq fun K hK => ?_ | apply_assumption -exfalso -symm)
  all_goals
    (refine tc_ret (y_rete ⟨?_, rfl⟩))
    rfl
theorem zstate_n (gl : List (Nat × List D)) : FnE prog gl 15 [.d (.raw (.pointer none))] [] (fun v H1 => v = .d (.agg zD) ∧ H1 = []) := by
  have c0 := znone_n gl
  (refine y_entere func15 ntmps15 results15 fun w M E b0 => ?_)
  (repeat' first | refine tr_at 2 ?_; (refine z_alloc 1002 ?_) | refine tr_at 5 ?_; refine y_callE (hc := c0) ?_; try refine s_bu ?_ ?_ <;> intro hb | refine tr_at 6 ?_; refine z_p w_buildn ?_ | refine yyp ?_; try refine s_bu ?_ ?_ <;> intro hb | refine yy ?_ | refine at_nil ?_; refine z_nil [0, 2, 3, 4, 5, 6, 60] ?_ | (apply tc_mid (x := .region 3 _ _); focus ((refine tc_at 3 ?_; refine z_draw [20] (linT [0, 4, 8, 16, 20, 24, 40, 44, 48, 56, 60, 64, 13, 29, 53, 69] (.two 8 (lin [36, 72, 78, 83]) 19 (lin [34, 36, 72, 83]))) ?_); (repeat' (first | refine tr_at 2 ?_; (refine z_alloc 1002 ?_))); (all_goals first | exact Wk.refl _ _ | exact y_wk); done)) | refine tc_seq fun K hK => ?_ | refine tc_at 3 ?_; refine z_draw [20] (linT [0, 4, 8, 16, 20, 24, 40, 44, 48, 56, 60, 64, 13, 29, 53, 69] (.two 8 (lin [36, 72, 78, 83]) 19 (lin [34, 36, 72, 83]))) ?_ | refine tc_at 4 ?_; refine z_draw [14, 17] qn29_3 ?_ | apply_assumption -exfalso -symm)
  all_goals
    (refine tc_ret (y_rete ⟨?_, rfl⟩))
    rfl
theorem znone_z (gl : List (Nat × List D)) : FnE prog gl 46 [.ptr 950 0] [(950, .box nz)] (fun v H1 => v = .d (.bool true) ∧ H1 = [(950, .box nz)]) := by
  (refine y_entere func46 ntmps46 results46 fun w M E b0 => ?_)
  (repeat' first | refine yyp ?_; try refine s_bu ?_ ?_ <;> intro hb | refine yyq ?_; try refine s_bu ?_ ?_ <;> intro hb | refine yy ?_ | refine at_nil ?_; refine z_nil qn29_0 ?_ | refine tc_seq fun K hK => ?_ | apply_assumption -exfalso -symm)
  all_goals
    (refine tc_ret (y_rete ⟨?_, rfl⟩))
    rfl
theorem zoff_z (gl : List (Nat × List D)) (k : Int) : FnE prog gl 49 [.ptr 950 0, .d (.int .i64 k)] [(950, .box nz)] (fun v H1 => v = .d (.bool true) ∧ H1 = [(950, .box nz)]) := by
  have c0 := znone_z gl
  (refine y_entere func49 ntmps49 results49 fun w M E b0 => ?_)
  (repeat' first | refine tr_at 6 ?_; refine y_callE (hc := c0) ?_; try refine s_bu ?_ ?_ <;> intro hb | refine yyp ?_; try refine s_bu ?_ ?_ <;> intro hb | refine yy ?_ | refine at_nil ?_; refine z_nil [0, 1, 4, 5, 6, 7] ?_ | refine tc_seq fun K hK => ?_ | apply_assumption -exfalso -symm)
  all_goals
    (refine tc_ret (y_rete ⟨?_, rfl⟩))
    rfl
theorem ztx_z (gl : List (Nat × List D)) (k : Int) : FnE prog gl 17 [.ptr 950 0, .d (.int .i64 k)] [(950, .box nz)] (fun v H1 => v = .tup [.d (.int .i64 0), .d (.list 5 [])] ∧ H1 = [(950, .box nz)]) := by
  have c0 := zoff_z gl k
  (refine y_entere func17 ntmps17 results17 fun w M E b0 => ?_)
  (repeat' first | refine tr_at 9 ?_; refine y_callE (hc := c0) ?_; try refine s_bu ?_ ?_ <;> intro hb | refine yyp ?_; try refine s_bu ?_ ?_ <;> intro hb | refine yy ?_ | refine at_nil ?_; refine z_nil [0, 1, 4, 5, 6, 7, 9, 39, 57] ?_ | refine tc_seq fun K hK => ?_ | refine tc_at 4 ?_; refine z_draw [11] qn29_2 ?_ | apply_assumption -exfalso -symm)
  all_goals
    (refine tc_ret (y_rete ⟨?_, rfl⟩))
    rfl
theorem zrx_z (gl : List (Nat × List D)) (k : Int) (b : Int) : FnE prog gl 19 [.ptr 950 0, .d (.int .i64 k), .d (.int .i64 b)] [(950, .box nz)] (fun v H1 => v = .d (.list 5 []) ∧ H1 = [(950, .box nz)]) := by
  have c0 := zoff_z gl k
  (refine y_entere func19 ntmps19 results19 fun w M E b0 => ?_)
  (repeat' first | refine tr_at 12 ?_; refine y_callE (hc := c0) ?_; try refine s_bu ?_ ?_ <;> intro hb | refine yyp ?_; try refine s_bu ?_ ?_ <;> intro hb | refine yy ?_ | refine at_nil ?_; refine z_nil [0, 1, 2, 6, 7, 8, 9, 12, 32, 33, 44] ?_ | refine tc_seq fun K hK => ?_ | refine tc_at 12 ?_; refine z_draw [] (lin [0, 4, 8, 12, 16, 21, 26]) ?_ | apply_assumption -exfalso -symm)
  all_goals
    (refine tc_ret (y_rete ⟨?_, rfl⟩))
    rfl
theorem zstep_z (gl : List (Nat × List D)) : FnE prog gl 18 [.ptr 950 0] [(950, .box nz)] (fun v H1 => v = .d (.list 5 []) ∧ H1 = [(950, .box nz)]) := by
  have c0 := znone_z gl
  (refine y_entere func18 ntmps18 results18 fun w M E b0 => ?_)
  (repeat' first | refine yyp ?_; try refine s_bu ?_ ?_ <;> intro hb | refine yy ?_ | refine at_nil ?_; refine z_nil qn29_1 ?_ | refine tc_seq fun K hK => ?_ | apply_assumption -exfalso -symm)
  refine tc_scope rfl ?_
  (repeat' first | refine tr_at 6 ?_; refine y_callE (hc := c0) ?_; try refine s_bu ?_ ?_ <;> intro hb | refine yyp ?_; try refine s_bu ?_ ?_ <;> intro hb | refine yy ?_ | refine at_nil ?_; refine z_nil qn29_1 ?_ | refine tc_seq fun K hK => ?_ | apply_assumption -exfalso -symm)
  all_goals
    (refine tc_ret (y_rete ⟨?_, rfl⟩))
    rfl
theorem zbooted_z (gl : List (Nat × List D)) : FnE prog gl 13 [.ptr 950 0] [(950, .box nz)] (fun v H1 => v = .tup [.d (.int .i64 0), .d (.bool false)] ∧ H1 = [(950, .box nz)]) := by
  have c0 := znone_z gl
  (refine y_entere func13 ntmps13 results13 fun w M E b0 => ?_)
  (repeat' first | refine tr_at 5 ?_; refine y_callE (hc := c0) ?_; try refine s_bu ?_ ?_ <;> intro hb | refine yyp ?_; try refine s_bu ?_ ?_ <;> intro hb | refine yy ?_ | refine at_nil ?_; refine z_nil [0, 2, 3, 4, 5, 6, 12] ?_ | refine tc_seq fun K hK => ?_ | apply_assumption -exfalso -symm)
  all_goals
    (refine tc_ret (y_rete ⟨?_, rfl⟩))
    rfl
theorem zidle_z (gl : List (Nat × List D)) : FnE prog gl 20 [.ptr 950 0] [(950, .box nz)] (fun v H1 => v = .d (.bool false) ∧ H1 = [(950, .box nz)]) := by
  have c0 := znone_z gl
  (refine y_entere func20 ntmps20 results20 fun w M E b0 => ?_)
  (repeat' first | refine tr_at 6 ?_; refine y_callE (hc := c0) ?_; try refine s_bu ?_ ?_ <;> intro hb | refine yyp ?_; try refine s_bu ?_ ?_ <;> intro hb | refine yy ?_ | refine at_nil ?_; refine z_nil [0, 2, 4, 5, 6, 11, 34, 38, 39, 40, 81] ?_ | refine tc_seq fun K hK => ?_ | apply_assumption -exfalso -symm)
  all_goals
    (refine tc_ret (y_rete ⟨?_, rfl⟩))
    rfl
theorem zcopy_z (gl : List (Nat × List D)) : FnE prog gl 21 [.ptr 950 0] [(950, .box nz)] (fun v H1 => v = .d (.raw (.pointer none)) ∧ H1 = [(950, .box nz)]) := by
  have c0 := znone_z gl
  (refine y_entere func21 ntmps21 results21 fun w M E b0 => ?_)
  (repeat' first | refine tr_at 6 ?_; refine y_callE (hc := c0) ?_; try refine s_bu ?_ ?_ <;> intro hb | refine yyp ?_; try refine s_bu ?_ ?_ <;> intro hb | refine yy ?_ | refine at_nil ?_; refine z_nil qn29_0 ?_ | refine tc_seq fun K hK => ?_ | apply_assumption -exfalso -symm)
  all_goals
    (refine tc_ret (y_rete ⟨?_, rfl⟩))
    rfl
theorem zstate_z (gl : List (Nat × List D)) : FnE prog gl 15 [.ptr 950 0] [(950, .box nz)] (fun v H1 => v = .d (.agg zD) ∧ H1 = [(950, .box nz)]) := by
  have c0 := znone_z gl
  (refine y_entere func15 ntmps15 results15 fun w M E b0 => ?_)
  (repeat' first | refine tr_at 2 ?_; (refine z_alloc 1002 ?_) | refine tr_at 5 ?_; refine y_callE (hc := c0) ?_; try refine s_bu ?_ ?_ <;> intro hb | refine tr_at 6 ?_; refine z_p w_buildn ?_ | refine yyp ?_; try refine s_bu ?_ ?_ <;> intro hb | refine yy ?_ | refine at_nil ?_; refine z_nil [0, 2, 3, 4, 5, 6, 60] ?_ | (apply tc_mid (x := .region 3 _ _); focus ((refine tc_at 3 ?_; refine z_draw [20] (linT [0, 4, 8, 16, 20, 24, 40, 44, 48, 56, 60, 64, 13, 29, 53, 69] (.two 8 (lin [36, 72, 78, 83]) 19 (lin [34, 36, 72, 83]))) ?_); (repeat' (first | refine tr_at 2 ?_; (refine z_alloc 1002 ?_))); (all_goals first | exact Wk.refl _ _ | exact y_wk); done)) | refine tc_seq fun K hK => ?_ | refine tc_at 3 ?_; refine z_draw [20] (linT [0, 4, 8, 16, 20, 24, 40, 44, 48, 56, 60, 64, 13, 29, 53, 69] (.two 8 (lin [36, 72, 78, 83]) 19 (lin [34, 36, 72, 83]))) ?_ | refine tc_at 4 ?_; refine z_draw [14, 17] qn29_3 ?_ | apply_assumption -exfalso -symm)
  all_goals
    (refine tc_ret (y_rete ⟨?_, rfl⟩))
    rfl
end
section
def qn30_0 : List Nat := [0, 1, 2, 3, 4, 5, 6, 7, 8, 9, 11, 71]
open Go.RowKit Nd
instance : TEqA prog 49 [1,1,1,1,1,1,0,0,0,0,1,1,1,1,1,1,1,1,1,1,0,1,1,1,1,1,0,1] := ⟨by kernel_rfl⟩
instance : TEqA prog 56 [1,1,1,1,0,0,1,1,1,1,1,0,0,1,1,1,0,0,1,1,1,1,1,1,1,0,0,1,1,1,1,1,0,0,1,1,1,0,0,1,1,1,1,1,1,1,0,0,1,1,1,1,1,0,0,1,1,1,0,0,1,1,1,1,1,1,1,0,0,1,1,1,1,1,0,0,1,1,1,0,0,1,1,1] := ⟨by kernel_rfl⟩
attribute [local irreducible] TR TC
theorem rsame_list (gl : List (Nat × List D)) (m : List UInt8) : FnD prog gl 16 [.d (.list 1 (dBs m)), .d (.list 1 (dBs m))] (fun v => v = .d (.bool true)) := by
  (refine y_enter func16 ntmps16 results16 fun w M => ?_)
  (repeat' first | refine yyp ?_; try refine s_bu ?_ ?_ <;> intro hb | refine yy ?_ | refine yy2 ?_ ?_ <;> intro hcmp | refine at_nil ?_; refine z_nil [0, 1, 4, 5, 6, 7] ?_ | refine tc_seq fun K hK => ?_ | apply_assumption -exfalso -symm)
  · (refine tc_ret (y_ret ?_))
    rfl
  · exact absurd rfl hcmp
theorem rsame_nil (gl : List (Nat × List D)) : FnD prog gl 16 [.d (.list 1 []), .d (.list 1 [])] (fun v => v = .d (.bool true)) := rsame_list gl []
theorem rsame_zero (gl : List (Nat × List D)) : FnD prog gl 22 [.d (.agg zD), .d (.agg zD)] (fun v => v = .d (.bool true)) := by
  have c1 := rsame_nil gl
  unfold zD
  (refine y_enter func22 ntmps22 results22 fun w M => ?_)
  (repeat' first | refine tr_at 2 ?_; (refine z_box 1002 ?_) | refine tr_at 3 ?_; (refine z_box 1003 ?_) | refine tr_at 11 ?_; (refine z_p (q_aggA_eq rfl rfl rfl rfl (by repeat (first | exact EqC.nil | apply EqC.bool | apply EqC.int)) (by simp)) ?_) | refine tr_at 26 ?_; (refine z_p (q_aggA_eq rfl rfl rfl rfl (by repeat (first | exact EqC.nil | apply EqC.bool | apply EqC.int)) (by simp)) ?_) | refine yyp ?_; try refine s_bu ?_ ?_ <;> intro hb | refine yy ?_ | refine at_call 16 ?_; refine y_call (hc := c1) ?_; try refine s_bu ?_ ?_ <;> intro hb | refine at_nil ?_; refine z_nil [0, 1, 2, 3, 4, 5, 6, 7] ?_ | refine tc_seq fun K hK => ?_ | apply_assumption -exfalso -symm)
  (refine tc_ret (y_ret ?_))
  rfl
theorem nodeNone_fn (gl : List (Nat × List D)) (a k b : Int) : FnD prog gl 4 [.d (.agg [.int .u8 a, .int .i64 k, .int .i64 b])] (fun v => v = .d (.bool true)) := by
  (refine y_enter func4 ntmps4 results4 fun w M => ?_)
  (repeat' first | refine tr_at 1 ?_; (refine z_box 1001 ?_) | refine tr_at 3 ?_; (refine z_alloc 950 ?_) | refine yyp ?_; try refine s_bu ?_ ?_ <;> intro hb | refine yy ?_ | refine at_nil ?_; refine z_nil qn30_0 ?_ | refine tc_seq fun K hK => ?_ | apply_assumption -exfalso -symm)
  refine tc_rounds 3 (rounds_next fun K5 h5 => ?_)
  (repeat' first | refine tr_at 18 ?_; refine y_callE (hc := ztx_z gl k) ?_ | refine tr_at 23 ?_; refine y_callE (hc := zbooted_z gl) ?_ | refine tr_at 42 ?_; refine y_callE (hc := zstep_z gl) ?_ | refine tr_at 52 ?_; refine y_callE (hc := zrx_z gl k b) ?_ | refine tr_at 58 ?_; refine y_callE (hc := zidle_z gl) ?_; try refine s_bu ?_ ?_ <;> intro hb | refine tr_at 62 ?_; refine y_callE (hc := zcopy_z gl) ?_ | refine tr_at 67 ?_; refine y_callE (hc := zstate_z gl) ?_ | refine yyp ?_; try refine s_bu ?_ ?_ <;> intro hb | refine yyq ?_; try refine s_bu ?_ ?_ <;> intro hb | refine yy ?_ | refine yyc ?_ | refine at_call 22 ?_; refine y_call (hc := rsame_zero gl) ?_; try refine s_bu ?_ ?_ <;> intro hb | refine at_nil ?_; refine z_nil qn30_0 ?_ | refine tc_seq fun K hK => ?_ | apply_assumption -exfalso -symm)
  (repeat' first | refine tr_at 18 ?_; refine y_callE (hc := ztx_n gl k) ?_ | refine tr_at 23 ?_; refine y_callE (hc := zbooted_n gl) ?_ | refine tr_at 42 ?_; refine y_callE (hc := zstep_n gl) ?_ | refine tr_at 52 ?_; refine y_callE (hc := zrx_n gl k b) ?_ | refine tr_at 58 ?_; refine y_callE (hc := zidle_n gl) ?_; try refine s_bu ?_ ?_ <;> intro hb | refine tr_at 62 ?_; refine y_callE (hc := zcopy_n gl) ?_ | refine tr_at 67 ?_; refine y_callE (hc := zstate_n gl) ?_ | refine yyp ?_; try refine s_bu ?_ ?_ <;> intro hb | refine yyq ?_; try refine s_bu ?_ ?_ <;> intro hb | refine yy ?_ | refine yyc ?_ | refine at_call 22 ?_; refine y_call (hc := rsame_zero gl) ?_; try refine s_bu ?_ ?_ <;> intro hb | refine at_call 7 ?_; refine y_call (hc := head_fn gl) ?_; try refine s_bu ?_ ?_ <;> intro hb | refine at_nil ?_; refine z_nil qn30_0 ?_ | refine tc_seq fun K hK => ?_ | apply_assumption -exfalso -symm)
  (refine tc_ret (y_ret ?_))
  rfl
end
end Go.Proofs.YtjhbglklcddekaaGreatDoor
