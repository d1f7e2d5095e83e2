/- Parts: N3, N4, N8, N9, N7. -/
import Derived.Test.YtjhbglklcddekaaGreatDoorV16
import Derived.Test.YtjhbglklcddekaaGreatDoorV13
set_option linter.all false
set_option maxRecDepth 100000
set_option maxHeartbeats 16000000
namespace Go.Proofs.YtjhbglklcddekaaGreatDoor
open Go.RowKit Go.Proofs.Tryz
section
def qn3_0 : List Nat := [0, 1, 4, 5, 6, 7, 16]
def qn3_1 : List Nat := [0, 1, 4, 5, 6, 7]
namespace Nd
def bD (o : Option UInt8) : Int := match o with | some b => b.toNat | none => 0
def dSe (s : Se) : D := .agg [.int .u16 (num s.tx : Nat), .int .i64 (s.tx.length : Nat), .bool s.ack, .bool s.data.isSome, .int .u8 (bD s.data), .int .i64 (s.rx.length : Nat), .int .u16 (num s.rx : Nat)]
theorem shr_at (n k : Nat) (hk : k ≤ 16) : ((n : Nat) : Int).fdiv (2 ^ min ((k : Nat) : Int).toNat IntKind.u16.bits) = ((n / 2 ^ k : Nat) : Int) := by
  rw [show IntKind.u16.bits = 16 from rfl, Int.toNat_natCast, Nat.min_eq_left hk, Int.fdiv_eq_ediv_of_nonneg _ (by exact Int.le_of_lt (Int.pow_pos (by omega)))]
  rw [Int.natCast_ediv, Int.natCast_pow]
  rfl
theorem num_last (l : List Bool) (h0 : l ≠ []) (h : l.getLast h0 = false) : num l < 2 ^ (l.length - 1) := by
  have h1 := List.dropLast_concat_getLast h0
  rw [h] at h1
  have h2 := num_app l.dropLast [false]
  rw [h1] at h2
  have h3 := num_lt l.dropLast
  rw [List.length_dropLast] at h3
  simp only [num] at h2
  simp at h2
  omega
theorem and1 (n : Nat) (hn : n < 65536) : IntKind.u16.wrap ((BitVec.ofInt IntKind.u16.bits (n : Nat) &&& BitVec.ofInt IntKind.u16.bits 1).toNat) = ((n % 2 : Nat) : Int) := by
  have e1 : (BitVec.ofInt IntKind.u16.bits ((n : Nat) : Int) &&& BitVec.ofInt IntKind.u16.bits 1).toNat = n % 2 := by
    rw [show IntKind.u16.bits = 16 from rfl, BitVec.toNat_and]
    have : (BitVec.ofInt 16 ((n : Nat) : Int)).toNat = n := by
      simp only [BitVec.toNat_ofInt]
      omega
    rw [this, show (BitVec.ofInt 16 1).toNat = 1 from rfl, Nat.and_one_is_mod]
  rw [e1]
  have h2 : n % 2 < 2 := Nat.mod_lt _ (by omega)
  rcases (by omega : n % 2 = 0 ∨ n % 2 = 1) with h | h <;> rw [h] <;> rfl
end Nd
open Nd
attribute [local irreducible] TR TC
theorem ends_fn (gl : List (Nat × List D)) (l : List Bool) (h1 : l.length ≤ 10) (h2 : ∀ h : l ≠ [], l.getLast h = false) (h3 : l.length = 10 → l.head? = some true) :
    FnD prog gl 99 [.d (.int .u16 (num l : Nat)), .d (.int .i64 (l.length : Nat))] (fun v => v = .d (.bool true)) := by
  (refine y_enter func99 ntmps99 results99 fun w M => ?_)
  (repeat' first | refine tr_at 7 ?_; (first | refine yyp ?_; try refine s_bu ?_ ?_ <;> intro hb | refine yy2 ?_ ?_ <;> intro hcmp); all_goals try refine z_sh true 7 16 qn3_0 ?_ | refine tr_at 11 ?_; (first | refine yyp ?_; try refine s_bu ?_ ?_ <;> intro hb | refine yy2 ?_ ?_ <;> intro hcmp); all_goals try refine z_sh true 11 16 qn3_0 ?_ | refine tr_at 19 ?_; (first | refine yyp ?_; try refine s_bu ?_ ?_ <;> intro hb | refine yy2 ?_ ?_ <;> intro hcmp); all_goals try refine z_sh true 19 4 qn3_0 ?_ | refine yyp ?_; try refine s_bu ?_ ?_ <;> intro hb | refine yy ?_ | refine yy2 ?_ ?_ <;> intro hcmp | refine at_nil ?_; refine z_nil qn3_0 ?_ | refine tc_seq fun K hK => ?_ | apply_assumption -exfalso -symm)
  all_goals
    first
      | ((refine tc_ret (y_ret ?_))
         rfl)
      | (exfalso
         first
           | (apply hcmp
              rw [shr_at _ _ (by omega), Nat.div_eq_of_lt (num_lt l)]
              rfl)
           | (rename_i a _ _ _
              exact absurd (by
                rw [show ((l.length : Nat) : Int) - 1 = ((l.length - 1 : Nat) : Int) by omega, shr_at _ _ (by omega), Nat.div_eq_of_lt (num_last l (fun e => by subst e; simp at *) (h2 _))]
                rfl) hcmp)
           | (apply hcmp
              have hl : l.length = 10 := by omega
              have hh := h3 hl
              rw [and1 _ (by have := num_lt l; rw [hl] at this; omega)]
              cases l with
              | nil => simp at hl
              | cons b t =>
                simp only [List.head?_cons, Option.some.injEq] at hh
                subst hh
                simp only [num, if_true]
                omega))
theorem and3 (n : Nat) (hn : n < 65536) : IntKind.u16.wrap ((BitVec.ofInt IntKind.u16.bits (n : Nat) &&& BitVec.ofInt IntKind.u16.bits 3).toNat) = ((n % 4 : Nat) : Int) := by
  have e1 : (BitVec.ofInt IntKind.u16.bits ((n : Nat) : Int) &&& BitVec.ofInt IntKind.u16.bits 3).toNat = n % 4 := by
    rw [show IntKind.u16.bits = 16 from rfl, BitVec.toNat_and]
    have : (BitVec.ofInt 16 ((n : Nat) : Int)).toNat = n := by
      simp only [BitVec.toNat_ofInt]
      omega
    rw [this, show (BitVec.ofInt 16 3).toNat = 2 ^ 2 - 1 from rfl, Nat.and_two_pow_sub_one_eq_mod]
  rw [e1]
  have h2 : n % 4 < 4 := Nat.mod_lt _ (by omega)
  rcases (by omega : n % 4 = 0 ∨ n % 4 = 1 ∨ n % 4 = 2 ∨ n % 4 = 3) with h | h | h | h <;> rw [h] <;> rfl
theorem begin_bits (l : List Bool) (h0 : ∀ b, l[0]? = some b → b = true) (h1 : ∀ b, l[1]? = some b → b = true) : num l % 4 = 2 ^ min l.length 2 - 1 := by
  match l, h0, h1 with
  | [], _, _ => rfl
  | [x], h0, _ => rw [h0 x rfl]; rfl
  | x :: y :: l, h0, h1 =>
    rw [h0 x rfl, h1 y rfl]
    simp only [num, if_true, List.length_cons]
    rw [Nat.min_eq_right (by omega)]
    omega
theorem begins_fn (gl : List (Nat × List D)) (l : List Bool) (h1 : l.length ≤ 10) (h2 : ∀ b, l[0]? = some b → b = true) (h3 : ∀ b, l[1]? = some b → b = true) :
    FnD prog gl 100 [.d (.int .u16 (num l : Nat)), .d (.int .i64 (l.length : Nat))] (fun v => v = .d (.bool true)) := by
  (refine y_enter func100 ntmps100 results100 fun w M => ?_)
  (repeat' first | refine tr_at 7 ?_; (first | refine yyp ?_; try refine s_bu ?_ ?_ <;> intro hb | refine yy2 ?_ ?_ <;> intro hcmp); all_goals try refine z_sh false 7 4 qn3_1 ?_ | refine tr_at 11 ?_; (first | refine yyp ?_; try refine s_bu ?_ ?_ <;> intro hb | refine yy2 ?_ ?_ <;> intro hcmp); all_goals try refine z_sh false 11 4 qn3_1 ?_ | refine tr_at 17 ?_; (first | refine yyp ?_; try refine s_bu ?_ ?_ <;> intro hb | refine yy2 ?_ ?_ <;> intro hcmp); all_goals try refine z_sh false 17 4 qn3_1 ?_ | refine yyp ?_; try refine s_bu ?_ ?_ <;> intro hb | refine yy ?_ | refine yy2 ?_ ?_ <;> intro hcmp | refine at_nil ?_; refine z_nil qn3_1 ?_ | refine tc_seq fun K hK => ?_ | apply_assumption -exfalso -symm)
  all_goals
    first
      | ((refine tc_ret (y_ret ?_))
         rfl)
      | (exfalso
         first
           | (apply hcmp
              rw [shr_at _ _ (by omega), Nat.div_eq_of_lt (num_lt l)]
              rfl)
           | (apply hcmp
              have hb := begin_bits l h2 h3
              rw [and3 _ (by have h := num_lt l; have : 2 ^ l.length ≤ 2 ^ 10 := Nat.pow_le_pow_right (by omega) h1; omega), hb]
              rcases (by omega : l.length = 0 ∨ l.length = 1 ∨ 2 ≤ l.length) with h | h | h
              · rw [h]; rfl
              · rw [h]; rfl
              · rw [Nat.min_eq_right h, show (if (2 : Int) < ((l.length : Nat) : Int) then (2 : Int) else ((l.length : Nat) : Int)) = 2 by split <;> omega]; rfl))
end
section
def qn4_0 : List Nat := [0, 1, 2, 3, 4, 5, 6, 9, 27, 31, 34]
def qn4_1 : List Nat := [0, 1, 2, 4, 5, 6, 7, 9, 14, 28, 31, 38, 47, 55, 121]
def qn4_2 : Plan := lin [0, 8, 5, 13, 16, 20, 24, 31]
open Go.RowKit Nd
theorem data_byte (o : Option UInt8) : o.isSome = false → bD o = 0 := by cases o <;> simp [bD]
attribute [local irreducible] TR TC
theorem smay_fn (gl : List (Nat × List D)) (s : Se) (h : s.ok) : FnD prog gl 75 [.d (dSe s)] (fun v => v = .d (.bool true)) := by
  have c1 := ends_fn gl s.tx h.txl h.last h.first
  have c2 := begins_fn gl s.rx h.rxl h.rx0 h.rx1
  have h3 := data_byte s.data
  unfold dSe
  generalize s.data.isSome = ds at *
  generalize bD s.data = db at *
  (refine y_enter func75 ntmps75 results75 fun w M => ?_)
  (repeat' first | refine tr_at 1 ?_; (refine z_box 1 ?_) | refine tr_at 8 ?_; (first | refine yyp ?_; try refine s_bu ?_ ?_ <;> intro hb | refine yy2 ?_ ?_ <;> intro hcmp); all_goals try refine z_sh false 8 2 [0, 1, 2, 3, 4, 5, 6] ?_ | refine tr_at 15 ?_; (first | refine yyp ?_; try refine s_bu ?_ ?_ <;> intro hb | refine yy2 ?_ ?_ <;> intro hcmp); all_goals try refine z_sh false 15 2 [0, 1, 2, 3, 4, 5, 6] ?_ | refine yyp ?_; try refine s_bu ?_ ?_ <;> intro hb | refine yy ?_ | refine yy2 ?_ ?_ <;> intro hcmp | refine at_call 99 ?_; refine y_call (hc := c1) ?_; try refine s_bu ?_ ?_ <;> intro hb | refine at_call 100 ?_; refine y_call (hc := c2) ?_; try refine s_bu ?_ ?_ <;> intro hb | refine at_nil ?_; refine z_nil [0, 1, 2, 3, 4, 5, 6] ?_ | refine tc_seq fun K hK => ?_ | apply_assumption -exfalso -symm)
  all_goals
    first
      | ((refine tc_ret (y_ret ?_))
         rfl)
      | (exfalso; exact hcmp (h3 (by assumption)))
theorem num_cons (b : Bool) (l : List Bool) : num (b :: l) = (if b then 1 else 0) + 2 * num l := rfl
theorem bit_of (b : Bool) (l : List Bool) : ((num (b :: l) % 2 : Nat) : Int) = if b then 1 else 0 := by
  rw [num_cons]
  cases b
  · simp
  · simp only [if_true]
    omega
theorem half_of (b : Bool) (l : List Bool) : num (b :: l) / 2 = num l := by
  rw [num_cons]
  cases b
  · simp
  · simp only [if_true]
    omega
theorem rest_num : ∀ n : Nat, n < 256 → IntKind.u16.wrap ((BitVec.ofInt IntKind.u16.bits 1 ||| BitVec.ofInt IntKind.u16.bits (IntKind.u16.wrap (IntKind.u16.wrap (n : Int) * 2 ^ min (Int.toNat 1) IntKind.u16.bits))).toNat) = ((num (true :: (bitsN 8 n ++ [false])) : Nat) : Int) := by
  decide +kernel
theorem stx_fn (gl : List (Nat × List D)) (s : Se) (h : s.ok) : FnD prog gl 50 [.d (dSe s)] (fun v => v = .tup [.d (dSe s.next.1), .d (.int .i64 (if s.next.2 then 1 else 0))]) := by
  have c1 := smay_fn gl s h
  obtain ⟨tx, ack, data, rx⟩ := s
  unfold dSe at c1 ⊢
  dsimp only at c1 ⊢
  cases tx with
  | cons b t =>
    have hl := h.txl
    dsimp only [List.length_cons] at hl
    have hn : num (b :: t) < 65536 := by
      have h1 := num_lt (b :: t)
      have h2 : 2 ^ (b :: t).length ≤ 2 ^ 10 := Nat.pow_le_pow_right (by omega) (by simpa using hl)
      omega
    simp only [List.length_cons] at c1 ⊢
    (refine y_enter func50 ntmps50 results50 fun w M => ?_)
    (repeat' first | refine tr_at 1 ?_; (refine z_box 1 ?_) | refine tr_at 2 ?_; (refine z_alloc 2 ?_) | refine yyp ?_; try refine s_bu ?_ ?_ <;> intro hb | refine yy ?_ | refine at_call 75 ?_; refine y_call (hc := c1) ?_; try refine s_bu ?_ ?_ <;> intro hb | refine at_nil ?_; refine z_nil qn4_0 ?_ | refine tc_seq fun K hK => ?_ | apply_assumption -exfalso -symm)
    all_goals
      first
        | ((refine tc_ret (y_ret ?_))
           have e1 : ((num (b :: t) : Nat) : Int).fdiv (2 ^ min (Int.toNat 1) IntKind.u16.bits) = ((num t : Nat) : Int) := by
             have := shr_at (num (b :: t)) 1 (by omega)
             rw [Nat.pow_one, half_of] at this
             exact this
           have e2 := and1 (num (b :: t)) hn
           rw [bit_of] at e2
           rw [e1, e2, show ((t.length + 1 : Nat) : Int) - 1 = ((t.length : Nat) : Int) by omega]
           cases b <;> rfl)
  | nil =>
    dsimp only [num, List.length_nil] at c1 ⊢
    cases ack with
    | true =>
      (refine y_enter func50 ntmps50 results50 fun w M => ?_)
      (repeat' first | refine tr_at 1 ?_; (refine z_box 1 ?_) | refine tr_at 2 ?_; (refine z_alloc 2 ?_) | refine yyp ?_; try refine s_bu ?_ ?_ <;> intro hb | refine yy ?_ | refine at_call 75 ?_; refine y_call (hc := c1) ?_; try refine s_bu ?_ ?_ <;> intro hb | refine at_nil ?_; refine z_nil qn4_0 ?_ | refine tc_seq fun K hK => ?_ | apply_assumption -exfalso -symm)
      all_goals
        first
          | ((refine tc_ret (y_ret ?_))
             rfl)
    | false =>
      cases data with
      | none =>
        (refine y_enter func50 ntmps50 results50 fun w M => ?_)
        (repeat' first | refine tr_at 1 ?_; (refine z_box 1 ?_) | refine tr_at 2 ?_; (refine z_alloc 2 ?_) | refine yyp ?_; try refine s_bu ?_ ?_ <;> intro hb | refine yy ?_ | refine at_call 75 ?_; refine y_call (hc := c1) ?_; try refine s_bu ?_ ?_ <;> intro hb | refine at_nil ?_; refine z_nil qn4_0 ?_ | refine tc_seq fun K hK => ?_ | apply_assumption -exfalso -symm)
        all_goals
          first
            | ((refine tc_ret (y_ret ?_))
               rfl)
      | some b =>
        have hb : b.toNat < 256 := b.toNat_lt
        (refine y_enter func50 ntmps50 results50 fun w M => ?_)
        (repeat' first | refine tr_at 1 ?_; (refine z_box 1 ?_) | refine tr_at 2 ?_; (refine z_alloc 2 ?_) | refine yyp ?_; try refine s_bu ?_ ?_ <;> intro hb | refine yy ?_ | refine at_call 75 ?_; refine y_call (hc := c1) ?_; try refine s_bu ?_ ?_ <;> intro hb | refine at_nil ?_; refine z_nil qn4_0 ?_ | refine tc_seq fun K hK => ?_ | apply_assumption -exfalso -symm)
        all_goals
          first
            | ((refine tc_ret (y_ret ?_))
               rw [show bD (some b) = ((b.toNat : Nat) : Int) from rfl, rest_num b.toNat hb]
               rfl)
def dHeard : Heard → D
  | .none => .agg [.int .u8 0, .int .u8 0]
  | .byte b => .agg [.int .u8 1, .int .u8 b.toNat]
  | .ack => .agg [.int .u8 2, .int .u8 0]
  | .bad => .agg [.int .u8 3, .int .u8 0]
theorem hear_end (tx : List Bool) (ack : Bool) (data : Option UInt8) (l : List Bool) (hl : l.length + 1 + 1 = 10) (bit : Bool) : Se.hear ⟨tx, ack, data, true :: true :: l⟩ bit = if bit then (⟨tx, ack, data, []⟩, .bad) else (⟨tx, ack, data, []⟩, .byte (UInt8.ofNat (num l))) := by
  unfold Se.hear
  dsimp only
  rw [if_pos (by simp only [List.length_cons]; exact hl)]
  rfl
theorem hear_more (tx : List Bool) (ack : Bool) (data : Option UInt8) (l : List Bool) (hl : ¬ l.length + 1 + 1 = 10) (bit : Bool) : Se.hear ⟨tx, ack, data, true :: true :: l⟩ bit = (⟨tx, ack, data, true :: true :: l ++ [bit]⟩, .none) := by
  unfold Se.hear
  dsimp only
  rw [if_neg (by simp only [List.length_cons]; exact hl)]
theorem num_more (l : List Bool) (b : Bool) : num (l ++ [b]) = num l + 2 ^ l.length * (if b then 1 else 0) := by
  rw [num_app]
  cases b <;> simp [num]
theorem or_bit : ∀ k : Nat, k < 10 → ∀ n : Nat, n < 2 ^ k → IntKind.u16.wrap ((BitVec.ofInt IntKind.u16.bits (n : Int) ||| BitVec.ofInt IntKind.u16.bits (IntKind.u16.wrap (1 * 2 ^ min ((k : Int)).toNat IntKind.u16.bits))).toNat) = ((n + 2 ^ k : Nat) : Int) := by
  decide +kernel
theorem low2 (l : List Bool) : num (true :: true :: l) / 4 = num l := by
  simp only [num, if_true]
  omega
theorem srx_fn (gl : List (Nat × List D)) (s : Se) (bit : Bool) (h : s.ok) : FnD prog gl 59 [.d (dSe s), .d (.int .i64 (if bit then 1 else 0))] (fun v => v = .tup [.d (dSe (s.hear bit).1), .d (dHeard (s.hear bit).2)]) := by
  have c1 := smay_fn gl s h
  obtain ⟨tx, ack, data, rx⟩ := s
  unfold dSe at c1 ⊢
  dsimp only at c1 ⊢
  have h4 := h.rxl
  have h5 := h.rx0
  have h6 := h.rx1
  dsimp only at h4 h5 h6
  match rx, h4, h5, h6 with
  | [], _, _, _ =>
    dsimp only [num, List.length_nil] at c1 ⊢
    cases bit
    all_goals simp only [reduceIte, Bool.false_eq_true]
    all_goals
      (refine y_enter func59 ntmps59 results59 fun w M => ?_)
      (repeat' first | refine tr_at 2 ?_; (refine z_box 2 ?_) | refine tr_at 4 ?_; (refine z_alloc 4 ?_) | refine tr_at 5 ?_; (refine z_alloc 5 ?_) | refine yyp ?_; try refine s_bu ?_ ?_ <;> intro hb | refine yy ?_ | refine at_call 75 ?_; refine y_call (hc := c1) ?_; try refine s_bu ?_ ?_ <;> intro hb | refine at_nil ?_; refine z_nil qn4_1 ?_ | (apply tc_mid (x := .region 2 _ _); focus ((refine tc_at 2 ?_; refine z_draw [2, 3] (linT [1] (.mid 1 (lin [11, 15]) 2 (lin [5, 15]))) ?_); (repeat' (first | refine tr_at 2 ?_; (refine z_box 2 ?_))); (all_goals first | exact Wk.refl _ _ | exact y_wk); done)) | (apply tc_mid (x := .region 9 _ _); focus ((refine tc_at 9 ?_; refine z_draw [2, 3] (linT [1] (.mid 1 (lin [11, 15]) 2 (lin [5, 15]))) ?_); (repeat' (first | refine yyp ?_ | refine yy ?_ | refine at_nil ?_; refine z_nil qn4_1 ?_ | refine tr_mid ?_ ?_)); (all_goals first | exact Wk.refl _ _ | exact y_wk); done)) | (apply tc_mid (x := .region 7 _ _); focus ((refine tc_at 7 ?_; refine z_draw [2, 3] (linT [1] (.mid 1 (lin [11, 15]) 2 (lin [5, 15]))) ?_); (repeat' (first | refine yyp ?_ | refine yy ?_ | refine at_nil ?_; refine z_nil qn4_1 ?_ | refine tr_mid ?_ ?_)); (all_goals first | exact Wk.refl _ _ | exact y_wk); done)) | (apply tc_mid (x := .region 17 _ _); focus ((refine tc_at 17 ?_; refine z_draw [2, 3] (linT [1] (.mid 1 (lin [11, 15]) 2 (lin [5, 15]))) ?_); (repeat' (first | refine tr_at 2 ?_; (refine z_box 2 ?_))); (all_goals first | exact Wk.refl _ _ | exact y_wk); done)) | refine tc_seq fun K hK => ?_ | refine tc_at 2 ?_; refine z_draw [2, 3] (linT [1] (.mid 1 (lin [11, 15]) 2 (lin [5, 15]))) ?_ | refine tc_at 9 ?_; refine z_draw [2, 3] (linT [1] (.mid 1 (lin [11, 15]) 2 (lin [5, 15]))) ?_ | refine tc_at 5 ?_; refine z_draw [7] qn4_2 ?_ | refine tc_at 7 ?_; refine z_draw [2, 3] (linT [1] (.mid 1 (lin [11, 15]) 2 (lin [5, 15]))) ?_ | refine tc_at 17 ?_; refine z_draw [2, 3] (linT [1] (.mid 1 (lin [11, 15]) 2 (lin [5, 15]))) ?_ | apply_assumption -exfalso -symm)
      all_goals
        first
          | ((refine tc_ret (y_ret ?_))
             rfl)
  | [x], _, h5, _ =>
    obtain rfl := h5 x rfl
    dsimp only [num, List.length_cons, List.length_nil] at c1 ⊢
    cases bit
    all_goals simp only [reduceIte, Bool.false_eq_true] at c1 ⊢
    all_goals
      (refine y_enter func59 ntmps59 results59 fun w M => ?_)
      (repeat' first | refine tr_at 2 ?_; (refine z_box 2 ?_) | refine tr_at 4 ?_; (refine z_alloc 4 ?_) | refine tr_at 5 ?_; (refine z_alloc 5 ?_) | refine yyp ?_; try refine s_bu ?_ ?_ <;> intro hb | refine yy ?_ | refine at_call 75 ?_; refine y_call (hc := c1) ?_; try refine s_bu ?_ ?_ <;> intro hb | refine at_nil ?_; refine z_nil qn4_1 ?_ | (apply tc_mid (x := .region 2 _ _); focus ((refine tc_at 2 ?_; refine z_draw [2, 3] (linT [1] (.mid 1 (lin [11, 15]) 2 (lin [5, 15]))) ?_); (repeat' (first | refine tr_at 2 ?_; (refine z_box 2 ?_))); (all_goals first | exact Wk.refl _ _ | exact y_wk); done)) | (apply tc_mid (x := .region 9 _ _); focus ((refine tc_at 9 ?_; refine z_draw [2, 3] (linT [1] (.mid 1 (lin [11, 15]) 2 (lin [5, 15]))) ?_); (repeat' (first | refine tr_at 2 ?_; (refine z_box 2 ?_))); (all_goals first | exact Wk.refl _ _ | exact y_wk); done)) | (apply tc_mid (x := .region 7 _ _); focus ((refine tc_at 7 ?_; refine z_draw [2, 3] (linT [1] (.mid 1 (lin [11, 15]) 2 (lin [5, 15]))) ?_); (repeat' (first | refine yyp ?_ | refine yy ?_ | refine at_nil ?_; refine z_nil qn4_1 ?_ | refine tr_mid ?_ ?_)); (all_goals first | exact Wk.refl _ _ | exact y_wk); done)) | (apply tc_mid (x := .region 17 _ _); focus ((refine tc_at 17 ?_; refine z_draw [2, 3] (linT [1] (.mid 1 (lin [11, 15]) 2 (lin [5, 15]))) ?_); (repeat' (first | refine yyp ?_ | refine yy ?_ | refine at_nil ?_; refine z_nil qn4_1 ?_ | refine tr_mid ?_ ?_)); (all_goals first | exact Wk.refl _ _ | exact y_wk); done)) | refine tc_seq fun K hK => ?_ | refine tc_at 2 ?_; refine z_draw [2, 3] (linT [1] (.mid 1 (lin [11, 15]) 2 (lin [5, 15]))) ?_ | refine tc_at 9 ?_; refine z_draw [2, 3] (linT [1] (.mid 1 (lin [11, 15]) 2 (lin [5, 15]))) ?_ | refine tc_at 5 ?_; refine z_draw [7] qn4_2 ?_ | refine tc_at 7 ?_; refine z_draw [2, 3] (linT [1] (.mid 1 (lin [11, 15]) 2 (lin [5, 15]))) ?_ | refine tc_at 17 ?_; refine z_draw [2, 3] (linT [1] (.mid 1 (lin [11, 15]) 2 (lin [5, 15]))) ?_ | apply_assumption -exfalso -symm)
      all_goals
        first
          | ((refine tc_ret (y_ret ?_))
             rfl)
  | x :: y :: l, h4, h5, h6 =>
    obtain rfl := h5 x rfl
    obtain rfl := h6 y rfl
    simp only [List.length_cons] at h4
    cases bit
    all_goals simp only [reduceIte, Bool.false_eq_true, List.length_cons] at c1 ⊢
    all_goals
      (refine y_enter func59 ntmps59 results59 fun w M => ?_)
      (repeat' first | refine tr_at 2 ?_; (refine z_box 2 ?_) | refine tr_at 4 ?_; (refine z_alloc 4 ?_) | refine tr_at 5 ?_; (refine z_alloc 5 ?_) | refine tr_at 63 ?_; refine z_p w_buildn ?_ | refine yyp ?_; try refine s_bu ?_ ?_ <;> intro hb | refine yy ?_ | refine yy2 ?_ ?_ <;> intro hcmp | refine at_call 75 ?_; refine y_call (hc := c1) ?_; try refine s_bu ?_ ?_ <;> intro hb | refine at_nil ?_; refine z_nil qn4_1 ?_ | (apply tc_mid (x := .region 2 _ _); focus ((refine tc_at 2 ?_; refine z_draw [2, 3] (linT [1] (.mid 1 (lin [11, 15]) 2 (lin [5, 15]))) ?_); (repeat' (first | refine tr_at 2 ?_; (refine z_box 2 ?_))); (all_goals first | exact Wk.refl _ _ | exact y_wk); done)) | (apply tc_mid (x := .region 9 _ _); focus ((refine tc_at 9 ?_; refine z_draw [2, 3] (linT [1] (.mid 1 (lin [11, 15]) 2 (lin [5, 15]))) ?_); (repeat' (first | refine tr_at 2 ?_; (refine z_box 2 ?_))); (all_goals first | exact Wk.refl _ _ | exact y_wk); done)) | (apply tc_mid (x := .region 7 _ _); focus ((refine tc_at 7 ?_; refine z_draw [2, 3] (linT [1] (.mid 1 (lin [11, 15]) 2 (lin [5, 15]))) ?_); (repeat' (first | refine yyp ?_ | refine yy ?_ | refine at_nil ?_; refine z_nil qn4_1 ?_ | refine tr_mid ?_ ?_)); (all_goals first | exact Wk.refl _ _ | exact y_wk); done)) | (apply tc_mid (x := .region 17 _ _); focus ((refine tc_at 17 ?_; refine z_draw [2, 3] (linT [1] (.mid 1 (lin [11, 15]) 2 (lin [5, 15]))) ?_); (repeat' (first | refine yyp ?_ | refine yy ?_ | refine at_nil ?_; refine z_nil qn4_1 ?_ | refine tr_mid ?_ ?_)); (all_goals first | exact Wk.refl _ _ | exact y_wk); done)) | refine tc_seq fun K hK => ?_ | refine tc_at 2 ?_; refine z_draw [2, 3] (linT [1] (.mid 1 (lin [11, 15]) 2 (lin [5, 15]))) ?_ | refine tc_at 9 ?_; refine z_draw [2, 3] (linT [1] (.mid 1 (lin [11, 15]) 2 (lin [5, 15]))) ?_ | refine tc_at 5 ?_; refine z_draw [7] qn4_2 ?_ | refine tc_at 7 ?_; refine z_draw [2, 3] (linT [1] (.mid 1 (lin [11, 15]) 2 (lin [5, 15]))) ?_ | refine tc_at 17 ?_; refine z_draw [2, 3] (linT [1] (.mid 1 (lin [11, 15]) 2 (lin [5, 15]))) ?_ | apply_assumption -exfalso -symm)
      all_goals
        first
          | (exfalso; omega)
          | ((refine tc_ret (y_ret ?_))
             rfl)
          | ((refine tc_ret (y_ret ?_))
             rw [hear_end _ _ _ _ (by omega)]
             simp only [reduceIte, Bool.false_eq_true, oneOf, dHeard]
             first
               | rfl
               | (rw [show (Int.toNat 2) = ((2 : Nat) : Int).toNat from rfl, shr_at _ 2 (by omega), show (2 : Nat) ^ 2 = 4 from rfl, low2]
                  have hb : num l < 256 := by have h := num_lt l; rw [show l.length = 8 by omega] at h; exact h
                  rw [wrap_in (by constructor <;> omega), UInt8.toNat_ofNat', Nat.mod_eq_of_lt hb]
                  rfl))
          | ((refine tc_ret (y_ret ?_))
             rw [hear_more _ _ _ _ (by omega)]
             simp only [oneOf, dHeard, List.length_append, List.length_cons, List.length_nil, num_more]
             first
               | (rw [or_bit _ (by omega) _ (by have h := num_lt (true :: true :: l); exact h)]
                  simp only [if_true, Nat.mul_one]
                  rfl)
               | (simp only [Bool.false_eq_true, if_false, Nat.mul_zero, Nat.add_zero]
                  rfl))
theorem ssend_fn (gl : List (Nat × List D)) (s : Se) (b : UInt8) (h : s.ok) : FnD prog gl 94 [.d (dSe s), .d (.int .u8 b.toNat)] (fun v => v = if s.data.isSome then .tup [.d (dSe se0), .d (.int .i64 8)] else .tup [.d (dSe { s with data := some b }), .d (.int .i64 0)]) := by
  have c1 := smay_fn gl s h
  obtain ⟨tx, ack, data, rx⟩ := s
  unfold dSe at c1 ⊢
  dsimp only at c1 ⊢
  cases data
  all_goals
    (refine y_enter func94 ntmps94 results94 fun w M => ?_)
    (repeat' first | refine tr_at 2 ?_; (refine z_box 2 ?_) | refine tr_at 4 ?_; (refine z_alloc 4 ?_) | refine tr_at 14 ?_; refine z_p w_buildn ?_ | refine yyp ?_; try refine s_bu ?_ ?_ <;> intro hb | refine yy ?_ | refine at_call 75 ?_; refine y_call (hc := c1) ?_; try refine s_bu ?_ ?_ <;> intro hb | refine at_nil ?_; refine z_nil [0, 1, 2, 4, 5, 6, 7, 11, 31] ?_ | refine tc_seq fun K hK => ?_ | apply_assumption -exfalso -symm)
    all_goals
      first
        | ((refine tc_ret (y_ret ?_))
           rfl)
theorem sack_fn (gl : List (Nat × List D)) (s : Se) (h : s.ok) : FnD prog gl 101 [.d (dSe s)] (fun v => v = if s.ack then .tup [.d (dSe se0), .d (.int .i64 8)] else .tup [.d (dSe { s with ack := true }), .d (.int .i64 0)]) := by
  have c1 := smay_fn gl s h
  obtain ⟨tx, ack, data, rx⟩ := s
  unfold dSe at c1 ⊢
  dsimp only at c1 ⊢
  cases ack
  all_goals
    (refine y_enter func101 ntmps101 results101 fun w M => ?_)
    (repeat' first | refine tr_at 1 ?_; (refine z_box 1 ?_) | refine tr_at 2 ?_; (refine z_alloc 2 ?_) | refine tr_at 12 ?_; refine z_p w_buildn ?_ | refine yyp ?_; try refine s_bu ?_ ?_ <;> intro hb | refine yy ?_ | refine at_call 75 ?_; refine y_call (hc := c1) ?_; try refine s_bu ?_ ?_ <;> intro hb | refine at_nil ?_; refine z_nil [0, 1, 2, 3, 4, 5, 6, 9, 31] ?_ | refine tc_seq fun K hK => ?_ | apply_assumption -exfalso -symm)
    all_goals
      first
        | ((refine tc_ret (y_ret ?_))
           rfl)
end
section
def qn8_0 : List Nat := [0, 1, 2, 6, 7, 8, 10, 31]
open Go.RowKit Nd
namespace Nd
def dB (b : UInt8) : D := .int .u8 b.toNat
def dBs (l : List UInt8) : List D := l.map dB
theorem dBs_len (l : List UInt8) : (dBs l).length = l.length := List.length_map _
def s32 (n : Nat) : Int := if n < 2147483648 then n else n - 4294967296
theorem andn (x : BitVec 32) : x &&& ~~~ 3#32 = (x >>> 2) <<< 2 := by
  apply BitVec.eq_of_getLsbD_eq
  intro i hi
  simp only [BitVec.getLsbD_and, BitVec.getLsbD_not, BitVec.getLsbD_shiftLeft, BitVec.getLsbD_ushiftRight, hi, decide_true, Bool.true_and]
  rcases (by omega : i = 0 ∨ i = 1 ∨ 2 ≤ i) with rfl | rfl | h
  · simp
  · simp
  · have h3 : (3#32).getLsbD i = false := by
      simp only [BitVec.getLsbD, BitVec.toNat_ofNat]
      rw [show 3 % 2 ^ 32 = 2 ^ 2 - 1 from rfl, Nat.testBit_two_pow_sub_one]
      simp; omega
    rw [h3, show 2 + (i - 2) = i by omega]
    simp; omega
theorem s32_nat (n : Nat) (hn : n < 4294967296) : (BitVec.ofInt 32 (s32 n)).toNat = n := by
  unfold s32
  simp only [BitVec.toNat_ofInt]
  split <;> omega
theorem andn_nat (n : Nat) (hn : n < 4294967296) : (BitVec.ofInt 32 (s32 n) &&& ~~~ (BitVec.ofInt 32 3)).toNat = n / 4 * 4 := by
  have h1 := s32_nat n hn
  rw [show BitVec.ofInt 32 3 = 3#32 from rfl, andn]
  simp only [BitVec.toNat_shiftLeft, BitVec.toNat_ushiftRight, h1, Nat.shiftRight_eq_div_pow, Nat.shiftLeft_eq]
  omega
theorem wrap_s32 (n : Nat) (hn : n < 4294967296) : IntKind.i32.wrap (n : Int) = s32 n := by
  unfold s32
  split
  · exact wrap_in (by constructor <;> omega)
  · unfold IntKind.wrap
    simp [IntKind.signed, IntKind.bits, IntKind.min, IntKind.max]
    omega
theorem at_word (n : Nat) (hn : n < 4294967296) : IntKind.i32.wrap ((BitVec.ofInt IntKind.i32.bits (s32 n) &&& ~~~ (BitVec.ofInt IntKind.i32.bits 3)).toNat) = ((index n / 4 * 4 : Nat) : Int) - 2147483648 := by
  rw [show IntKind.i32.bits = 32 from rfl, andn_nat n hn, wrap_s32 _ (by omega)]
  unfold s32 index
  split <;> omega
def memO (m : List UInt8) : List (Nat × Ob) := [(901, .box [.own 903 0]), (903, .row 5 1 false (dBs m) 0)]
end Nd
attribute [local irreducible] TR TC
theorem mnone_fn (gl : List (Nat × List D)) (m : List UInt8) (h : 0 < m.length) : FnE prog gl 74 [.ptr 901 0] (memO m) (fun v H1 => v = .d (.bool false) ∧ H1 = memO m) := by
  have hl := dBs_len m
  unfold memO
  generalize dBs m = ms at hl ⊢
  (refine y_entere func74 ntmps74 results74 fun w M E b0 => ?_)
  (repeat' first | refine yyp ?_; try refine s_bu ?_ ?_ <;> intro hb | refine yyq ?_; try refine s_bu ?_ ?_ <;> intro hb | refine yy ?_ | refine at_nil ?_; refine z_nil [0, 2, 3, 4, 5, 6] ?_ | refine tc_seq fun K hK => ?_ | apply_assumption -exfalso -symm)
  all_goals
    first
      | ((refine tc_ret (y_rete ⟨?_, rfl⟩))
         rfl)
      | (exfalso; omega)
theorem span_fn (gl : List (Nat × List D)) (m : List UInt8) (i n : Nat) (a : Int) (ha : a = (i : Int) - 2147483648) (h1 : i < m.length) (h2 : i + n ≤ m.length) (h3 : m.length ≤ 65536) :
    FnE prog gl 121 [.ptr 901 0, .d (.int .i32 a), .d (.int .i64 n)] (memO m) (fun v H1 => v = .tup [.win 903 0 i n, .d (.int .i64 0)] ∧ H1 = memO m) := by
  subst ha
  have c1 := mnone_fn gl m (by omega)
  have hl := dBs_len m
  unfold memO at c1 ⊢
  generalize dBs m = ms at hl c1 ⊢
  (refine y_entere func121 ntmps121 results121 fun w M E b0 => ?_)
  ((repeat' first | refine tr_at 10 ?_; refine y_callE (hc := c1) ?_; try refine s_bu ?_ ?_ <;> intro hb | refine tc_at 4 ?_; refine halt ?_ | refine yyp ?_; try refine s_bu ?_ ?_ <;> intro hb | refine yy ?_ | refine at_nil ?_; refine z_nil qn8_0 ?_ | refine tc_seq fun K hK => ?_ | apply_assumption -exfalso -symm); all_goals try refine unhalt ?_)
  rw [show (i : Int) - 2147483648 - -2147483648 = i by omega]
  (repeat' first | refine yyp ?_; try refine s_bu ?_ ?_ <;> intro hb | refine yyq ?_; try refine s_bu ?_ ?_ <;> intro hb | refine yy ?_ | refine at_nil ?_; refine z_nil qn8_0 ?_ | refine tc_seq fun K hK => ?_ | apply_assumption -exfalso -symm)
  all_goals
    first
      | ((refine tc_ret (y_rete ⟨?_, rfl⟩))
         rfl)
      | (exfalso; omega)
theorem span_no (gl : List (Nat × List D)) (m : List UInt8) (i n : Nat) (a : Int) (ha : a = (i : Int) - 2147483648) (h0 : 0 < m.length) (h1 : m.length ≤ i) (h2 : i < 4294967296) (h3 : m.length ≤ 65536) :
    FnE prog gl 121 [.ptr 901 0, .d (.int .i32 a), .d (.int .i64 n)] (memO m) (fun v H1 => v = .tup [.d (.list 1 []), .d (.int .i64 4)] ∧ H1 = memO m) := by
  subst ha
  have c1 := mnone_fn gl m h0
  have hl := dBs_len m
  unfold memO at c1 ⊢
  generalize dBs m = ms at hl c1 ⊢
  (refine y_entere func121 ntmps121 results121 fun w M E b0 => ?_)
  (repeat' first | refine tr_at 10 ?_; refine y_callE (hc := c1) ?_; try refine s_bu ?_ ?_ <;> intro hb | refine yyp ?_; try refine s_bu ?_ ?_ <;> intro hb | refine yy ?_ | refine at_nil ?_; refine z_nil qn8_0 ?_ | refine tc_seq fun K hK => ?_ | apply_assumption -exfalso -symm)
  all_goals
    first
      | ((refine tc_ret (y_rete ⟨?_, rfl⟩))
         rfl)
      | (exfalso; omega)
theorem word_fn (gl : List (Nat × List D)) (m : List UInt8) (a : Nat) (ha : a < 4294967296) (h1 : index a < m.length) (h2 : m.length % 4 = 0) (h3 : m.length ≤ 65536) :
    FnE prog gl 127 [.ptr 901 0, .d (.int .i32 (s32 a))] (memO m) (fun v H1 => v = .tup [.win 903 0 (index a / 4 * 4) 4, .d (.int .i64 0)] ∧ H1 = memO m) := by
  have e1 := at_word a ha
  have c1 := span_fn gl m (index a / 4 * 4) 4 _ e1 (by omega) (by omega) h3
  unfold memO at c1 ⊢
  generalize dBs m = ms at c1 ⊢
  (refine y_entere func127 ntmps127 results127 fun w M E b0 => ?_)
  (repeat' first | refine tr_at 9 ?_; refine y_callE (hc := c1) ?_ | refine yyp ?_; try refine s_bu ?_ ?_ <;> intro hb | refine yy ?_ | refine at_nil ?_; refine z_nil [0, 1, 4, 5, 6, 7] ?_ | refine tc_seq fun K hK => ?_ | apply_assumption -exfalso -symm)
  all_goals
    first
      | ((refine tc_ret (y_rete ⟨?_, rfl⟩))
         rfl)
theorem word_no (gl : List (Nat × List D)) (m : List UInt8) (a : Nat) (ha : a < 4294967296) (h0 : 0 < m.length) (h1 : m.length ≤ index a) (h2 : m.length % 4 = 0) (h3 : m.length ≤ 65536) :
    FnE prog gl 127 [.ptr 901 0, .d (.int .i32 (s32 a))] (memO m) (fun v H1 => v = .tup [.d (.list 1 []), .d (.int .i64 4)] ∧ H1 = memO m) := by
  have e1 := at_word a ha
  have e2 : index a < 4294967296 := Nat.mod_lt _ (by omega)
  have c1 := span_no gl m (index a / 4 * 4) 4 _ e1 h0 (by omega) (by omega) h3
  unfold memO at c1 ⊢
  generalize dBs m = ms at c1 ⊢
  (refine y_entere func127 ntmps127 results127 fun w M E b0 => ?_)
  (repeat' first | refine tr_at 9 ?_; refine y_callE (hc := c1) ?_ | refine yyp ?_; try refine s_bu ?_ ?_ <;> intro hb | refine yy ?_ | refine at_nil ?_; refine z_nil [0, 1, 4, 5, 6, 7] ?_ | refine tc_seq fun K hK => ?_ | apply_assumption -exfalso -symm)
  all_goals
    first
      | ((refine tc_ret (y_rete ⟨?_, rfl⟩))
         rfl)
end
section
def qn9_0 : Plan := lin [0, 4, 16, 20, 40, 44, 64, 68, 9, 12, 25, 28, 32, 36, 49, 52, 56, 60, 73, 76, 80, 84, 88, 92, 96]
open Go.RowKit Nd
namespace Nd
theorem or32 (x y k : Nat) (hx : x < 2 ^ k) (hs : x + y * 2 ^ k < 4294967296) : IntKind.u32.wrap ((BitVec.ofInt IntKind.u32.bits ((x : Nat) : Int) ||| BitVec.ofInt IntKind.u32.bits ((y * 2 ^ k : Nat) : Int)).toNat) = ((x + y * 2 ^ k : Nat) : Int) := by
  have e1 : (BitVec.ofInt IntKind.u32.bits ((x : Nat) : Int) ||| BitVec.ofInt IntKind.u32.bits ((y * 2 ^ k : Nat) : Int)).toNat = x + y * 2 ^ k := by
    rw [show IntKind.u32.bits = 32 from rfl, BitVec.toNat_or]
    have h1 : (BitVec.ofInt 32 ((x : Nat) : Int)).toNat = x := by
      simp only [BitVec.toNat_ofInt]
      omega
    have h2 : (BitVec.ofInt 32 ((y * 2 ^ k : Nat) : Int)).toNat = y * 2 ^ k := by
      simp only [BitVec.toNat_ofInt]
      omega
    rw [h1, h2, Nat.or_comm]
    have := Nat.shiftLeft_add_eq_or_of_lt hx y
    rw [Nat.shiftLeft_eq] at this
    rw [← this, Nat.add_comm]
  rw [e1]
  exact wrap_in (by constructor <;> omega)
theorem shl32 (y k : Nat) (hk : k ≤ 32) (hs : y * 2 ^ k < 4294967296) : IntKind.u32.wrap (((y : Nat) : Int) * 2 ^ min ((k : Nat) : Int).toNat IntKind.u32.bits) = ((y * 2 ^ k : Nat) : Int) := by
  rw [show IntKind.u32.bits = 32 from rfl, Int.toNat_natCast, Nat.min_eq_left hk]
  have e : ((y : Nat) : Int) * 2 ^ k = ((y * 2 ^ k : Nat) : Int) := by
    rw [Int.natCast_mul, Int.natCast_pow]
    rfl
  rw [e]
  exact wrap_in (by constructor <;> omega)
def wordI (b0 b1 b2 b3 : Int) : Int := IntKind.i32.wrap (IntKind.u32.wrap ((BitVec.ofInt IntKind.u32.bits (IntKind.u32.wrap ((BitVec.ofInt IntKind.u32.bits (IntKind.u32.wrap ((BitVec.ofInt IntKind.u32.bits b0 ||| BitVec.ofInt IntKind.u32.bits (IntKind.u32.wrap (b1 * 2 ^ min (Int.toNat 8) IntKind.u32.bits))).toNat)) ||| BitVec.ofInt IntKind.u32.bits (IntKind.u32.wrap (b2 * 2 ^ min (Int.toNat 16) IntKind.u32.bits))).toNat)) ||| BitVec.ofInt IntKind.u32.bits (IntKind.u32.wrap (b3 * 2 ^ min (Int.toNat 24) IntKind.u32.bits))).toNat))
theorem wordI_eq (b0 b1 b2 b3 : Nat) (h0 : b0 < 256) (h1 : b1 < 256) (h2 : b2 < 256) (h3 : b3 < 256) : wordI b0 b1 b2 b3 = s32 (b0 + 256 * b1 + 65536 * b2 + 16777216 * b3) := by
  unfold wordI
  have e1 := shl32 b1 8 (by omega) (by omega)
  have e2 := shl32 b2 16 (by omega) (by omega)
  have e3 := shl32 b3 24 (by omega) (by omega)
  have f1 := or32 b0 b1 8 (by omega) (by omega)
  have f2 := or32 (b0 + b1 * 2 ^ 8) b2 16 (by omega) (by omega)
  have f3 := or32 (b0 + b1 * 2 ^ 8 + b2 * 2 ^ 16) b3 24 (by omega) (by omega)
  rw [show (Int.toNat 8) = ((8 : Nat) : Int).toNat from rfl, show (Int.toNat 16) = ((16 : Nat) : Int).toNat from rfl, show (Int.toNat 24) = ((24 : Nat) : Int).toNat from rfl, e1, e2, e3, f1, f2, f3, wrap_s32 _ (by omega)]
  congr 1
  omega
theorem num4_lt (l : List UInt8) : num4 l < 4294967296 := by
  unfold num4
  have := (l.getD 0 0).toNat_lt
  have := (l.getD 1 0).toNat_lt
  have := (l.getD 2 0).toNat_lt
  have := (l.getD 3 0).toNat_lt
  omega
def wordW (b0 b1 b2 b3 : Int) : Int := wordI (IntKind.u32.wrap b0) (IntKind.u32.wrap b1) (IntKind.u32.wrap b2) (IntKind.u32.wrap b3)
theorem byte_u32 (b : UInt8) : IntKind.u32.wrap (b.toNat : Nat) = (b.toNat : Nat) := by
  have := b.toNat_lt
  exact wrap_in (by constructor <;> omega)
theorem num4_at (m : List UInt8) (i : Nat) (h : i + 4 ≤ m.length) : wordW (m[i + 0].toNat : Nat) (m[i + 1].toNat : Nat) (m[i + 2].toNat : Nat) (m[i + 3].toNat : Nat) = s32 (num4 (m.drop i)) := by
  unfold wordW
  rw [byte_u32, byte_u32, byte_u32, byte_u32]
  simp only [Nat.add_zero]
  rw [wordI_eq _ _ _ _ (m[i].toNat_lt) (m[i + 1].toNat_lt) (m[i + 2].toNat_lt) (m[i + 3].toNat_lt)]
  unfold num4
  simp [List.getElem?_eq_getElem, show i < m.length by omega, show i + 1 < m.length by omega, show i + 2 < m.length by omega, show i + 3 < m.length by omega]
theorem wordAt_in (m : List UInt8) (a : Nat) (h : index a < m.length) : wordAt m a = num4 (m.drop (index a / 4 * 4)) := if_pos h
theorem wordAt_out (m : List UInt8) (a : Nat) (h : m.length ≤ index a) : wordAt m a = 0 := if_neg (by omega)
end Nd
attribute [local irreducible] TR TC
theorem number_fn (gl : List (Nat × List D)) (l : List UInt8) (h : 4 ≤ l.length) : FnD prog gl 102 [.d (.list 1 (l.map dB))] (fun v => v = .d (.int .i32 (s32 (num4 l)))) := by
  have e := num4_at l 0 (by omega)
  rw [List.drop_zero] at e
  rw [← e]
  unfold wordW wordI
  simp only [Nat.zero_add]
  (refine y_enter func102 ntmps102 results102 fun w M => ?_)
  (repeat' first | refine yyp ?_; try refine s_bu ?_ ?_ <;> intro hb | refine yy ?_ | refine at_nil ?_; refine z_nil [0, 2, 3, 4, 5, 6] ?_ | refine tc_seq fun K hK => ?_ | refine tc_at 1 ?_; refine z_draw [] (lin [0, 4, 16, 20, 40, 44, 64, 68, 9, 12, 25, 28, 32, 36, 49, 52, 56, 60, 73, 76, 80, 84, 88, 92]) ?_ | apply_assumption -exfalso -symm)
  all_goals
    first
      | ((refine tc_ret (y_ret ?_))
         rfl)
theorem mword_fn (gl : List (Nat × List D)) (m : List UInt8) (a : Nat) (ha : a < 4294967296) (h1 : index a < m.length) (h2 : m.length % 4 = 0) (h3 : m.length ≤ 65536) :
    FnE prog gl 103 [.ptr 901 0, .d (.int .i32 (s32 a))] (memO m) (fun v H1 => v = .tup [.d (.int .i32 (s32 (wordAt m a))), .d (.int .i64 0)] ∧ H1 = memO m) := by
  have c1 := word_fn gl m a ha h1 h2 h3
  have hi : index a / 4 * 4 + 4 ≤ m.length := by omega
  rw [wordAt_in m a h1, ← num4_at m _ hi]
  generalize index a / 4 * 4 = i at *
  unfold memO dBs wordW wordI at *
  (refine y_entere func103 ntmps103 results103 fun w M E b0 => ?_)
  (repeat' first | refine tr_at 11 ?_; refine y_callE (hc := c1) ?_ | refine yyp ?_; try refine s_bu ?_ ?_ <;> intro hb | refine yyq ?_; try refine s_bu ?_ ?_ <;> intro hb | refine yy ?_ | refine at_nil ?_; refine z_nil [0, 1, 4, 5, 6, 7, 15] ?_ | refine tc_seq fun K hK => ?_ | refine tc_at 4 ?_; refine z_draw [] qn9_0 ?_ | apply_assumption -exfalso -symm)
  all_goals
    first
      | ((refine tc_ret (y_rete ⟨?_, rfl⟩))
         rfl)
theorem mword_no (gl : List (Nat × List D)) (m : List UInt8) (a : Nat) (ha : a < 4294967296) (h0 : 0 < m.length) (h1 : m.length ≤ index a) (h2 : m.length % 4 = 0) (h3 : m.length ≤ 65536) :
    FnE prog gl 103 [.ptr 901 0, .d (.int .i32 (s32 a))] (memO m) (fun v H1 => v = .tup [.d (.int .i32 (s32 (wordAt m a))), .d (.int .i64 4)] ∧ H1 = memO m) := by
  have c1 := word_no gl m a ha h0 h1 h2 h3
  rw [wordAt_out m a h1]
  unfold memO at *
  generalize dBs m = ms at *
  (refine y_entere func103 ntmps103 results103 fun w M E b0 => ?_)
  (repeat' first | refine tr_at 11 ?_; refine y_callE (hc := c1) ?_ | refine yyp ?_; try refine s_bu ?_ ?_ <;> intro hb | refine yy ?_ | refine at_nil ?_; refine z_nil [0, 1, 4, 5, 6, 7, 15] ?_ | refine tc_seq fun K hK => ?_ | refine tc_at 4 ?_; refine z_draw [] qn9_0 ?_ | apply_assumption -exfalso -symm)
  all_goals
    first
      | ((refine tc_ret (y_rete ⟨?_, rfl⟩))
         rfl)
end
section
open Go.RowKit Nd
namespace Nd
end Nd
attribute [local irreducible] TR TC
namespace Nd
end Nd
end
end Go.Proofs.YtjhbglklcddekaaGreatDoor
