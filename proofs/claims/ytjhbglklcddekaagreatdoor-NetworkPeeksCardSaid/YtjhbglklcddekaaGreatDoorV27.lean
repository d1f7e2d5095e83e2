/- Parts: N19, N20, N21, N22. -/
import Derived.Test.YtjhbglklcddekaaGreatDoorV17
import Derived.Test.YtjhbglklcddekaaGreatDoorV18
import Derived.Test.YtjhbglklcddekaaGreatDoorV13
set_option linter.all false
set_option maxRecDepth 100000
set_option maxHeartbeats 16000000
namespace Go.Proofs.YtjhbglklcddekaaGreatDoor
open Go.RowKit Go.Proofs.Tryz
section
def qn19_0 : List Nat := [0, 1, 2, 3, 4, 5, 6, 32, 54, 77]
open Go.RowKit Nd
attribute [local irreducible] TR TC
end
section
def qn20_0 : List Nat := [0, 1, 2, 3, 4, 5, 6, 7, 20, 29, 31, 37]
open Go.RowKit Nd
attribute [local irreducible] TR TC
end
section
def qn21_0 : List Nat := [0, 1, 2, 4, 5, 6, 7, 10, 14, 24, 31, 32, 41, 55, 121]
open Go.RowKit Nd
attribute [local irreducible] TR TC
end
section
def qn22_0 : List Nat := [0, 1, 4, 5, 6, 7, 12]
def qn22_1 : Plan := lin [0, 4, 8, 20, 24, 28, 32, 52, 56, 60, 64, 84, 88, 92, 96, 13, 16, 37, 40, 44, 48, 69, 72, 76, 80, 101, 104, 108, 112, 116]
open Go.RowKit Nd
namespace Nd
theorem index_eq (a : Nat) (ha : a < 4294967296) : s32 a + 2147483648 = (index a : Nat) := by
  unfold s32 index
  split <;> omega
theorem index_lt (a : Nat) : index a < 4294967296 := Nat.mod_lt _ (by omega)
theorem num4_sum (m : List UInt8) (j : Nat) (h : j + 4 ≤ m.length) : num4 (m.drop j) = m[j].toNat + 256 * m[j + 1].toNat + 65536 * m[j + 2].toNat + 16777216 * m[j + 3].toNat := by
  unfold num4
  simp [List.getElem?_eq_getElem, show j < m.length by omega, show j + 1 < m.length by omega, show j + 2 < m.length by omega, show j + 3 < m.length by omega]
theorem wordU_eq (b0 b1 b2 b3 : Nat) (h0 : b0 < 2 ^ 8) (h1 : b1 < 2 ^ 8) (h2 : b2 < 2 ^ 8) (h3 : b3 < 2 ^ 8) :
    IntKind.u32.wrap (IntKind.u32.wrap (IntKind.u32.wrap (IntKind.u32.wrap (b0 : Int) + IntKind.u32.wrap (IntKind.u32.wrap (b1 : Int) * 256)) + IntKind.u32.wrap (IntKind.u32.wrap (b2 : Int) * 65536)) + IntKind.u32.wrap (IntKind.u32.wrap (b3 : Int) * 16777216)) = ((b0 + 256 * b1 + 65536 * b2 + 16777216 * b3 : Nat) : Int) := by
  have w : ∀ x : Nat, x < 4294967296 → IntKind.u32.wrap ((x : Nat) : Int) = (x : Nat) := fun x h => wrap_in (by constructor <;> omega)
  rw [w b0 (by omega), w b1 (by omega), w b2 (by omega), w b3 (by omega)]
  rw [show (b1 : Int) * 256 = ((b1 * 256 : Nat) : Int) by omega, show (b2 : Int) * 65536 = ((b2 * 65536 : Nat) : Int) by omega, show (b3 : Int) * 16777216 = ((b3 * 16777216 : Nat) : Int) by omega]
  rw [w _ (by omega), w _ (by omega), w _ (by omega)]
  rw [show (b0 : Int) + ((b1 * 256 : Nat) : Int) = ((b0 + b1 * 256 : Nat) : Int) by omega, w _ (by omega)]
  rw [show ((b0 + b1 * 256 : Nat) : Int) + ((b2 * 65536 : Nat) : Int) = ((b0 + b1 * 256 + b2 * 65536 : Nat) : Int) by omega, w _ (by omega)]
  rw [show ((b0 + b1 * 256 + b2 * 65536 : Nat) : Int) + ((b3 * 16777216 : Nat) : Int) = ((b0 + b1 * 256 + b2 * 65536 + b3 * 16777216 : Nat) : Int) by omega, w _ (by omega)]
  congr 1
  omega
theorem dBs_take (l : List UInt8) (n : Nat) : dBs (l.take n) = (dBs l).take n := by simp [dBs]
theorem dBs_app (l m : List UInt8) : dBs (l ++ m) = dBs l ++ dBs m := by simp [dBs]
end Nd
attribute [local irreducible] TR TC
theorem rindex_fn (gl : List (Nat × List D)) (a : Nat) (ha : a < 4294967296) : FnD prog gl 40 [.d (.int .i32 (s32 a))] (fun v => v = .d (.int .i64 (index a : Nat))) := by
  have e := index_eq a ha
  have hb : s32 a < 2147483648 ∧ -2147483648 ≤ s32 a := by unfold s32; split <;> omega
  (refine y_enter func40 ntmps40 results40 fun w M => ?_)
  (repeat' first | refine yyp ?_; try refine s_bu ?_ ?_ <;> intro hb | refine yy ?_ | refine at_nil ?_; refine z_nil [0, 2, 3, 4, 5] ?_ | refine tc_seq fun K hK => ?_ | apply_assumption -exfalso -symm)
  (refine tc_ret (y_ret ?_))
  rw [e]
  rfl
theorem rlies_fn (gl : List (Nat × List D)) (a size n : Nat) (ha : a < 4294967296) (hs : size ≤ 65536) (hn : n ≤ 65536) : FnD prog gl 39 [.d (.int .i64 size), .d (.int .i32 (s32 a)), .d (.int .i64 n)] (fun v => v = .d (.bool (decide (index a < size ∧ index a + n ≤ size)))) := by
  have c1 := rindex_fn gl a ha
  have h0 := index_lt a
  generalize index a = i at *
  (refine y_enter func39 ntmps39 results39 fun w M => ?_)
  (repeat' first | refine yyp ?_; try refine s_bu ?_ ?_ <;> intro hb | refine yy ?_ | refine yy2 ?_ ?_ <;> intro hcmp | refine at_call 40 ?_; refine y_call (hc := c1) ?_ | refine at_nil ?_; refine z_nil [0, 1, 2, 6, 7, 8] ?_ | refine tc_seq fun K hK => ?_ | apply_assumption -exfalso -symm)
  all_goals
    (refine tc_ret (y_ret ?_))
    first
      | (rw [decide_eq_true (by omega)]
         rfl)
      | (rw [decide_eq_false (by omega)]
         rfl)
theorem rfour_fn (gl : List (Nat × List D)) (v : Nat) (hv : v < 4294967296) : FnD prog gl 38 [.d (.int .i32 (s32 v))] (fun r => r = .d (.list 1 (dBs (four v)))) := by
  have e := u32_s32 v hv
  (refine y_enter func38 ntmps38 results38 fun w M => ?_)
  ((repeat' first | refine tc_at 2 ?_; refine halt ?_ | refine yyp ?_; try refine s_bu ?_ ?_ <;> intro hb | refine yy ?_ | refine at_nil ?_; refine z_nil [0, 2, 3, 4, 5, 6] ?_ | refine tc_seq fun K hK => ?_ | apply_assumption -exfalso -symm); all_goals try refine unhalt ?_)
  rw [e]
  (repeat' first | refine tr_at 17 ?_; (refine z_lit 117 ?_) | refine yyp ?_; try refine s_bu ?_ ?_ <;> intro hb | refine yy ?_ | refine at_nil ?_; refine z_nil [0, 2, 3, 4, 5, 6] ?_ | refine tc_seq fun K hK => ?_ | apply_assumption -exfalso -symm)
  (refine tc_ret (y_ret ?_))
  have h : ∀ x : Int, IntKind.u8.wrap x = x % 256 := fun x => by unfold IntKind.wrap; simp [IntKind.signed, IntKind.bits]
  simp only [oneOf, h, dBs, four, dB, List.map_cons, List.map_nil, byte_lt]
  have q0 : ((v : Nat) : Int) % 256 = ((v % 256 : Nat) : Int) := by omega
  have q1 : ((v : Nat) : Int) / 256 % 256 = ((v / 256 % 256 : Nat) : Int) := by omega
  have q2 : ((v : Nat) : Int) / 65536 % 256 = ((v / 65536 % 256 : Nat) : Int) := by omega
  have q3 : ((v : Nat) : Int) / 16777216 = ((v / 16777216 % 256 : Nat) : Int) := by omega
  rw [q0, q1, q2, q3]
theorem rput_fn (gl : List (Nat × List D)) (m x : List UInt8) (i : Nat) (h : i + x.length ≤ m.length) (hm : m.length ≤ 65536) : FnD prog gl 41 [.d (.list 1 (dBs m)), .d (.int .i64 i), .d (.list 1 (dBs x))] (fun r => r = .d (.list 1 (dBs (put m i x)))) := by
  have h1 := dBs_len m
  have h2 := dBs_len x
  rw [dBs_put]
  generalize dBs m = ms at *
  generalize dBs x = xs at *
  (refine y_enter func41 ntmps41 results41 fun w M => ?_)
  (repeat' first | refine tr_at 12 ?_; refine z_append0 112 ?_ | refine yyp ?_; try refine s_bu ?_ ?_ <;> intro hb | refine yy ?_ | (refine at_append ?_; first | (refine z_append (fun kv => ?_)) | (refine z_append_suf (fun sx sp kv hsx hsp hsl => ?_))) | refine at_nil ?_; refine z_nil [0, 1, 2, 6, 7, 8] ?_ | refine tc_seq fun K hK => ?_ | apply_assumption -exfalso -symm)
  (refine tc_ret (y_ret ?_))
  have q1 : ms.take (i - 0) = ms.take i := rfl
  rw [List.drop_zero, q1, h2, List.take_of_length_le (l := ms.drop (i + x.length)) (by rw [List.length_drop]; omega)]
  rfl
theorem rsetWord_fn (gl : List (Nat × List D)) (m : List UInt8) (a v : Nat) (ha : a < 4294967296) (hv : v < 4294967296) (h2 : m.length % 4 = 0) (h3 : m.length ≤ 65536) :
    FnD prog gl 10 [.d (.list 1 (dBs m)), .d (.int .i32 (s32 a)), .d (.int .i32 (s32 v))] (fun r => r = .tup [.d (.list 1 (dBs (setWord m a v))), .d (.int .i64 (if index a < m.length then 0 else 4))]) := by
  have c1 := rlies_fn gl a m.length 1 ha h3 (by omega)
  have c2 := rindex_fn gl a ha
  have c3 := rfour_fn gl v hv
  have hl := dBs_len m
  by_cases h : index a < m.length
  · have c4 := rput_fn gl m (four v) (index a / 4 * 4) (by rw [four_len]; omega) h3
    rw [decide_eq_true (by omega)] at c1
    rw [setWord_in m a v h, if_pos h]
    have e : ((index a : Nat) : Int) - ((index a : Nat) : Int) % 4 = ((index a / 4 * 4 : Nat) : Int) := by omega
    have hi := index_lt a
    generalize index a = i at *
    (refine y_enter func10 ntmps10 results10 fun w M => ?_)
    (repeat' first | refine yyp ?_; try refine s_bu ?_ ?_ <;> intro hb | refine yy ?_ | refine at_call 39 ?_; refine y_call (hc := c1) ?_; try refine s_bu ?_ ?_ <;> intro hb | refine at_call 40 ?_; refine y_call (hc := c2) ?_ | refine at_call 38 ?_; refine y_call (hc := c3) ?_ | refine at_call 41 ?_; refine y_call (hc := (by rw [e]; exact c4)) ?_ | refine at_nil ?_; refine z_nil [0, 1, 2, 6, 7, 8, 13] ?_ | refine tc_seq fun K hK => ?_ | apply_assumption -exfalso -symm)
    (refine tc_ret (y_ret ?_))
    rfl
  · rw [decide_eq_false (by omega)] at c1
    rw [setWord_out m a v (by omega), if_neg h]
    (refine y_enter func10 ntmps10 results10 fun w M => ?_)
    (repeat' first | refine yyp ?_; try refine s_bu ?_ ?_ <;> intro hb | refine yy ?_ | refine at_call 39 ?_; refine y_call (hc := c1) ?_; try refine s_bu ?_ ?_ <;> intro hb | refine at_nil ?_; refine z_nil [0, 1, 2, 6, 7, 8, 13] ?_ | refine tc_seq fun K hK => ?_ | apply_assumption -exfalso -symm)
    (refine tc_ret (y_ret ?_))
    rfl
theorem rword_fn (gl : List (Nat × List D)) (m : List UInt8) (a : Nat) (ha : a < 4294967296) (h2 : m.length % 4 = 0) (h3 : m.length ≤ 65536) :
    FnD prog gl 11 [.d (.list 1 (dBs m)), .d (.int .i32 (s32 a))] (fun r => r = .tup [.d (.int .i32 (s32 (wordAt m a))), .d (.int .i64 (if index a < m.length then 0 else 4))]) := by
  have c1 := rlies_fn gl a m.length 1 ha h3 (by omega)
  have c2 := rindex_fn gl a ha
  have hl := dBs_len m
  by_cases h : index a < m.length
  · rw [decide_eq_true (by omega)] at c1
    rw [wordAt_in m a h, if_pos h]
    have e : ((index a : Nat) : Int) - ((index a : Nat) : Int) % 4 = ((index a / 4 * 4 : Nat) : Int) := by omega
    have hi := index_lt a
    have hle : index a / 4 * 4 + 4 ≤ m.length := by omega
    generalize index a / 4 * 4 = j at *
    generalize index a = i at *
    unfold dBs at *
    (refine y_enter func11 ntmps11 results11 fun w M => ?_)
    ((repeat' first | refine tc_at 5 ?_; refine halt ?_ | refine yyp ?_; try refine s_bu ?_ ?_ <;> intro hb | refine yy ?_ | refine at_call 39 ?_; refine y_call (hc := c1) ?_; try refine s_bu ?_ ?_ <;> intro hb | refine at_call 40 ?_; refine y_call (hc := c2) ?_ | refine at_nil ?_; refine z_nil qn22_0 ?_ | refine tc_seq fun K hK => ?_ | apply_assumption -exfalso -symm); all_goals try refine unhalt ?_)
    rw [e]
    ((repeat' first | refine tc_at 6 ?_; refine halt ?_ | refine yyp ?_; try refine s_bu ?_ ?_ <;> intro hb | refine at_nil ?_; refine z_nil qn22_0 ?_ | refine tc_seq fun K hK => ?_ | refine tc_at 5 ?_; refine z_draw [] qn22_1 ?_ | apply_assumption -exfalso -symm); all_goals try refine unhalt ?_)
    rw [wordU_eq _ _ _ _ (m[j]'(by omega)).toNat_lt (m[j + 1]'(by omega)).toNat_lt (m[j + 2]'(by omega)).toNat_lt (m[j + 3]'(by omega)).toNat_lt]
    have e5 := num4_lt (m.drop j)
    rw [← num4_sum m j hle]
    generalize num4 (m.drop j) = w4 at *
    (repeat' first | refine yyp ?_; try refine s_bu ?_ ?_ <;> intro hb | refine yy ?_ | refine at_nil ?_; refine z_nil qn22_0 ?_ | refine tc_seq fun K hK => ?_ | refine tc_at 5 ?_; refine z_draw [] qn22_1 ?_ | apply_assumption -exfalso -symm)
    (refine tc_ret (y_ret ?_))
    rw [wrap_s32 _ e5]
    rfl
  · rw [decide_eq_false (by omega)] at c1
    rw [wordAt_out m a (by omega), if_neg h]
    (refine y_enter func11 ntmps11 results11 fun w M => ?_)
    (repeat' first | refine yyp ?_; try refine s_bu ?_ ?_ <;> intro hb | refine yy ?_ | refine at_call 39 ?_; refine y_call (hc := c1) ?_; try refine s_bu ?_ ?_ <;> intro hb | refine at_nil ?_; refine z_nil qn22_0 ?_ | refine tc_seq fun K hK => ?_ | refine tc_at 5 ?_; refine z_draw [] qn22_1 ?_ | apply_assumption -exfalso -symm)
    (refine tc_ret (y_ret ?_))
    rfl
end
end Go.Proofs.YtjhbglklcddekaaGreatDoor
