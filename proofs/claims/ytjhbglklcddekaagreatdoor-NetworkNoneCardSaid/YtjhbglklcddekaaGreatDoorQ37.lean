/- Parts: N29, N30. -/
import Derived.Test.YtjhbglklcddekaaGreatDoorQ35
import Derived.Test.YtjhbglklcddekaaGreatDoorQ36
import Derived.Test.YtjhbglklcddekaaGreatDoorQ19
set_option linter.all false
set_option maxRecDepth 100000
set_option maxHeartbeats 16000000
namespace Go.Proofs.YtjhbglklcddekaaGreatDoor
open Go.RowKit Go.Proofs.Tryz
section
def qn29_0 : List Nat := [0, 2, 3, 4, 5, 6]
def qn29_1 : List Nat := [0, 2, 4, 5, 6, 13, 18, 33, 34, 35, 36, 45]
def qn29_2 : Plan := lin [0, 4, 28, 32, 9, 14, 16, 20, 24, 36, 40, 47, 48]
def qn29_3 : Plan := lin [0, 4, 8, 12, 24, 28, 32, 36, 17, 41, 22, 48, 52, 46, 59, 60, 64, 71]
open Go.RowKit Nd
def zD : List D := [.int .i32 0, .int .i32 0, .int .i32 0, .int .i32 0, .int .i32 0, .int .i64 0, .bool false, .bool false, .bool false, .bool false, .int .i32 0, .int .i32 0, .int .i32 0, .int .i32 0, .int .i32 0, .int .i32 0, .int .i32 0, .int .i32 0, .int .i32 0, .int .i32 0, .bool false, .int .i32 0, .int .i32 0, .int .i32 0, .int .i32 0, .int .i32 0, .bool false, .int .i32 0, .list 1 [], .int .i32 0, .int .i32 0, .int .i32 0, .int .i32 0, .bool false, .bool false, .int .u8 0, .int .i32 0, .int .i32 0, .int .i32 0, .int .i32 0, .bool false, .bool false, .int .u8 0, .int .u16 0, .int .i64 0, .bool false, .bool false, .int .u8 0, .int .i64 0, .int .u16 0, .int .i32 0, .int .i32 0, .int .i32 0, .int .i32 0, .bool false, .bool false, .int .u8 0, .int .i32 0, .int .i32 0, .int .i32 0, .int .i32 0, .bool false, .bool false, .int .u8 0, .int .u16 0, .int .i64 0, .bool false, .bool false, .int .u8 0, .int .i64 0, .int .u16 0, .int .i32 0, .int .i32 0, .int .i32 0, .int .i32 0, .bool false, .bool false, .int .u8 0, .int .i32 0, .int .i32 0, .int .i32 0, .int .i32 0, .bool false, .bool false, .int .u8 0, .int .u16 0, .int .i64 0, .bool false, .bool false, .int .u8 0, .int .i64 0, .int .u16 0, .int .i32 0, .int .i32 0, .int .i32 0, .int .i32 0, .bool false, .bool false, .int .u8 0, .int .i32 0, .int .i32 0, .int .i32 0, .int .i32 0, .bool false, .bool false, .int .u8 0, .int .u16 0, .int .i64 0, .bool false, .bool false, .int .u8 0, .int .i64 0, .int .u16 0, .bool false, .int .i64 0, .list 1 [], .list 1 []]
attribute [local irreducible] TR TC
end
section
def qn30_0 : List Nat := [0, 1, 2, 3, 4, 5, 6, 7, 8, 9, 11, 71]
open Go.RowKit Nd
instance : TEqA prog 49 [1,1,1,1,1,1,0,0,0,0,1,1,1,1,1,1,1,1,1,1,0,1,1,1,1,1,0,1] := ⟨by kernel_rfl⟩
instance : TEqA prog 56 [1,1,1,1,0,0,1,1,1,1,1,0,0,1,1,1,0,0,1,1,1,1,1,1,1,0,0,1,1,1,1,1,0,0,1,1,1,0,0,1,1,1,1,1,1,1,0,0,1,1,1,1,1,0,0,1,1,1,0,0,1,1,1,1,1,1,1,0,0,1,1,1,1,1,0,0,1,1,1,0,0,1,1,1] := ⟨by kernel_rfl⟩
attribute [local irreducible] TR TC
theorem rsame_list (gl : List (Nat × List D)) (m : List UInt8) : FnD prog gl 16 [.d (.list 1 (dBs m)), .d (.list 1 (dBs m))] (fun v => v = .d (.bool true)) := by
  (refine y_enter func16 ntmps16 results16 fun w M => ?_)
  (repeat' first | refine yyp ?_; try refine s_bu ?_ ?_ <;> intro hb | refine yy ?_ | refine yy2 ?_ ?_ <;> intro hcmp | refine at_nil ?_; refine z_nil [0, 1, 4, 5, 6, 7] ?_ | refine tc_seq fun K hK => ?_ | apply_assumption -exfalso -symm)
  · (refine tc_ret (y_ret ?_))
    rfl
  · exact absurd rfl hcmp
theorem rsame_nil (gl : List (Nat × List D)) : FnD prog gl 16 [.d (.list 1 []), .d (.list 1 [])] (fun v => v = .d (.bool true)) := rsame_list gl []
theorem rsame_zero (gl : List (Nat × List D)) : FnD prog gl 22 [.d (.agg zD), .d (.agg zD)] (fun v => v = .d (.bool true)) := by
  have c1 := rsame_nil gl
  unfold zD
  (refine y_enter func22 ntmps22 results22 fun w M => ?_)
  (repeat' first | refine tr_at 2 ?_; (refine z_box 1002 ?_) | refine tr_at 3 ?_; (refine z_box 1003 ?_) | refine tr_at 11 ?_; (refine z_p (q_aggA_eq rfl rfl rfl rfl (by repeat (first | exact EqC.nil | apply EqC.bool | apply EqC.int)) (by simp)) ?_) | refine tr_at 26 ?_; (refine z_p (q_aggA_eq rfl rfl rfl rfl (by repeat (first | exact EqC.nil | apply EqC.bool | apply EqC.int)) (by simp)) ?_) | refine yyp ?_; try refine s_bu ?_ ?_ <;> intro hb | refine yy ?_ | refine at_call 16 ?_; refine y_call (hc := c1) ?_; try refine s_bu ?_ ?_ <;> intro hb | refine at_nil ?_; refine z_nil [0, 1, 2, 3, 4, 5, 6, 7] ?_ | refine tc_seq fun K hK => ?_ | apply_assumption -exfalso -symm)
  (refine tc_ret (y_ret ?_))
  rfl
end
end Go.Proofs.YtjhbglklcddekaaGreatDoor
