/- Parts: N19, N20, N21. -/
import Derived.Test.YtjhbglklcddekaaGreatDoorP26
set_option linter.all false
set_option maxRecDepth 100000
set_option maxHeartbeats 16000000
namespace Go.Proofs.YtjhbglklcddekaaGreatDoor
open Go.RowKit Go.Proofs.Tryz
section
def qn19_0 : List Nat := [0, 1, 2, 3, 4, 5, 6, 32, 54, 77]
open Go.RowKit Nd
theorem rlow_at (gl : List (Nat × List D)) (l : List Bool) (h : l.length ≤ 15) : FnD prog gl 68 [.d (.int .u16 (num l : Nat)), .d (.int .i64 (l.length : Nat))] (fun r => r = .d (.list 1 (l.map bI))) := by
  have h1 := num_le l 0 h
  have := rlow_fn gl (num l) l.length (by rw [List.drop_zero] at h1; omega) (by omega)
  rwa [bitsN_num] at this
attribute [local irreducible] TR TC
theorem rmay_fn (gl : List (Nat × List D)) (s : Se) (h : s.ok) : FnD prog gl 72 [.d (dSe s)] (fun v => v = .d (.bool true)) := by
  have c1 := rlow_at gl s.tx (by have := h.txl; omega)
  have c2 := rlow_at gl s.rx (by have := h.rxl; omega)
  have c3 := rnumber_fn gl s.tx (by have := h.txl; omega)
  have c4 := rnumber_fn gl s.rx (by have := h.rxl; omega)
  have h1 := h.txl
  have h2 := h.rxl
  have h3 := data_byte s.data
  have ht : (s.tx.map bI).length = s.tx.length := List.length_map _
  have hr : (s.rx.map bI).length = s.rx.length := List.length_map _
  have f1 : ∀ q : (((s.tx.length : Nat) : Int) - 1).toNat < s.tx.length, (if s.tx[(((s.tx.length : Nat) : Int) - 1).toNat] = true then (1 : Int) else 0) = 0 := fun q => by
    have hne : s.tx ≠ [] := fun e => by rw [e] at q; simp at q
    have e1 := h.last hne
    rw [List.getLast_eq_getElem] at e1
    have e2 : (((s.tx.length : Nat) : Int) - 1).toNat = s.tx.length - 1 := by omega
    simp only [e2, e1]
    rfl
  have f2 : ∀ q : 0 < s.tx.length, ((s.tx.length : Nat) : Int) = 10 → (if s.tx[0] = true then (1 : Int) else 0) = 1 := fun q hl => by
    have e1 := h.first (by omega)
    rw [List.head?_eq_getElem?, List.getElem?_eq_getElem q, Option.some.injEq] at e1
    rw [e1]
    rfl
  have f3 : ∀ q : 0 < s.rx.length, (if s.rx[0] = true then (1 : Int) else 0) = 1 := fun q => by
    rw [h.rx0 s.rx[0] (List.getElem?_eq_getElem q)]
    rfl
  have f4 : ∀ q : 1 < s.rx.length, (if s.rx[1] = true then (1 : Int) else 0) = 1 := fun q => by
    rw [h.rx1 s.rx[1] (List.getElem?_eq_getElem q)]
    rfl
  obtain ⟨tx, ack, data, rx⟩ := s
  unfold dSe
  dsimp only at *
  generalize data.isSome = ds at *
  generalize bD data = db at *
  (refine y_enter func72 ntmps72 results72 fun w M => ?_)
  (repeat' first | refine tr_at 1 ?_; (refine z_box 1 ?_) | refine tr_at 8 ?_; (first | refine yyp ?_; try refine s_bu ?_ ?_ <;> intro hb | refine yy2 ?_ ?_ <;> intro hcmp); all_goals try refine z_sh true 8 32 qn19_0 ?_ | refine tr_at 13 ?_; (first | refine yyp ?_; try refine s_bu ?_ ?_ <;> intro hb | refine yy2 ?_ ?_ <;> intro hcmp); all_goals try refine z_sh true 13 32 qn19_0 ?_ | refine tr_at 18 ?_; (first | refine yyp ?_; try refine s_bu ?_ ?_ <;> intro hb | refine yy2 ?_ ?_ <;> intro hcmp); all_goals try refine z_sh true 18 32 qn19_0 ?_ | refine tr_at 23 ?_; (first | refine yyp ?_; try refine s_bu ?_ ?_ <;> intro hb | refine yy2 ?_ ?_ <;> intro hcmp); all_goals try refine z_sh true 23 32 qn19_0 ?_ | refine tr_at 48 ?_; (first | refine yyp ?_; try refine s_bu ?_ ?_ <;> intro hb | refine yy2 ?_ ?_ <;> intro hcmp); all_goals try refine z_sh true 48 54 qn19_0 ?_ | refine tr_at 67 ?_; (first | refine yyp ?_; try refine s_bu ?_ ?_ <;> intro hb | refine yy2 ?_ ?_ <;> intro hcmp); all_goals try refine z_sh true 67 77 qn19_0 ?_ | refine tr_at 88 ?_; (first | refine yyp ?_; try refine s_bu ?_ ?_ <;> intro hb | refine yy2 ?_ ?_ <;> intro hcmp); all_goals try refine z_sh false 88 2 qn19_0 ?_ | refine yyp ?_; try refine s_bu ?_ ?_ <;> intro hb | refine yy ?_ | refine yy2 ?_ ?_ <;> intro hcmp | refine at_call 68 ?_; refine y_call (hc := (by first | exact c1 | exact c2)) ?_ | refine at_call 73 ?_; refine y_call (hc := (by first | exact c3 | exact c4)) ?_ | refine at_nil ?_; refine z_nil qn19_0 ?_ | refine tc_seq fun K hK => ?_ | refine tc_at 5 ?_; refine z_draw [] (lin [0, 8, 13, 6, 16, 20, 24, 32, 37, 30, 40, 44]) ?_ | apply_assumption -exfalso -symm)
  all_goals
    first
      | ((refine tc_ret (y_ret ?_))
         rfl)
      | (exfalso; exact hcmp (h3 (by assumption)))
      | (exfalso; exact hcmp (f1 _))
      | (exfalso; exact hcmp (f2 _ (by assumption)))
      | (exfalso; exact hcmp (f3 _))
      | (exfalso; exact hcmp (f4 _))
theorem rsend_fn (gl : List (Nat × List D)) (s : Se) (b : UInt8) (h : s.ok) : FnD prog gl 42 [.d (dSe s), .d (.int .u8 b.toNat)] (fun v => v = if s.data.isSome then .tup [.d (dSe se0), .d (.int .i64 8)] else .tup [.d (dSe { s with data := some b }), .d (.int .i64 0)]) := by
  have c1 := rmay_fn gl s h
  obtain ⟨tx, ack, data, rx⟩ := s
  unfold dSe at c1 ⊢
  dsimp only at c1 ⊢
  cases data
  all_goals
    (refine y_enter func42 ntmps42 results42 fun w M => ?_)
    (repeat' first | refine tr_at 2 ?_; (refine z_box 2 ?_) | refine tr_at 4 ?_; (refine z_alloc 4 ?_) | refine tr_at 12 ?_; refine z_p w_buildn ?_ | refine yyp ?_; try refine s_bu ?_ ?_ <;> intro hb | refine yy ?_ | refine at_call 72 ?_; refine y_call (hc := c1) ?_; try refine s_bu ?_ ?_ <;> intro hb | refine at_nil ?_; refine z_nil [0, 1, 2, 4, 5, 6, 7, 8, 11, 31] ?_ | refine tc_seq fun K hK => ?_ | apply_assumption -exfalso -symm)
    all_goals
      first
        | ((refine tc_ret (y_ret ?_))
           rfl)
theorem rack_fn (gl : List (Nat × List D)) (s : Se) (h : s.ok) : FnD prog gl 45 [.d (dSe s)] (fun v => v = if s.ack then .tup [.d (dSe se0), .d (.int .i64 8)] else .tup [.d (dSe { s with ack := true }), .d (.int .i64 0)]) := by
  have c1 := rmay_fn gl s h
  obtain ⟨tx, ack, data, rx⟩ := s
  unfold dSe at c1 ⊢
  dsimp only at c1 ⊢
  cases ack
  all_goals
    (refine y_enter func45 ntmps45 results45 fun w M => ?_)
    (repeat' first | refine tr_at 1 ?_; (refine z_box 1 ?_) | refine tr_at 2 ?_; (refine z_alloc 2 ?_) | refine tr_at 10 ?_; refine z_p w_buildn ?_ | refine yyp ?_; try refine s_bu ?_ ?_ <;> intro hb | refine yy ?_ | refine at_call 72 ?_; refine y_call (hc := c1) ?_; try refine s_bu ?_ ?_ <;> intro hb | refine at_nil ?_; refine z_nil [0, 1, 2, 3, 4, 5, 6, 9, 31] ?_ | refine tc_seq fun K hK => ?_ | apply_assumption -exfalso -symm)
    all_goals
      first
        | ((refine tc_ret (y_ret ?_))
           rfl)
theorem rbits_fn (gl : List (Nat × List D)) (b : UInt8) : FnD prog gl 33 [.d (.int .u8 b.toNat)] (fun v => v = .d (.list 1 ((true :: rest b).map bI))) := by
  have hb : b.toNat < 256 := b.toNat_lt
  have c1 := rlow_fn gl b.toNat 8 (by omega) (by omega)
  have hl := bitsN_len 8 b.toNat
  have e : (true :: rest b).map bI = (([.int .i64 1, .int .i64 1] : List D) ++ (bitsN 8 b.toNat).map bI) ++ [.int .i64 0] := by
    unfold rest
    simp [bI]
  rw [e]
  (refine y_enter func33 ntmps33 results33 fun w M => ?_)
  (repeat' first | refine tr_at 4 ?_; (refine z_lit 104 ?_) | refine tr_at 11 ?_; (refine z_lit 111 ?_) | refine yyp ?_; try refine s_bu ?_ ?_ <;> intro hb | refine yy ?_ | refine at_call 68 ?_; refine y_call (hc := c1) ?_ | (refine at_append ?_; first | (refine z_append (fun kv => ?_)) | (refine z_append_suf (fun sx sp kv hsx hsp hsl => ?_))) | refine at_nil ?_; refine z_nil [0, 2, 3, 4, 5, 6] ?_ | refine tc_seq fun K hK => ?_ | apply_assumption -exfalso -symm)
  all_goals
    first
      | ((refine tc_ret (y_ret ?_))
         rfl)
end
section
def qn20_0 : List Nat := [0, 1, 2, 3, 4, 5, 6, 7, 20, 29, 31, 37]
open Go.RowKit Nd
theorem rnumber_tail (gl : List (Nat × List D)) (x : D) (l : List Bool) (h : l.length ≤ 15) : FnD prog gl 73 [.d (.list 1 (((x :: l.map bI).drop 1).take ((x :: l.map bI).length - 1)))] (fun r => r = .d (.int .u16 (num l : Nat))) := by
  rw [show ((x :: l.map bI).drop 1).take ((x :: l.map bI).length - 1) = l.map bI by simp only [List.drop_succ_cons, List.drop_zero, List.length_cons, Nat.add_sub_cancel, List.take_length]]
  exact rnumber_fn gl l h
theorem len_less {α : Type} (l : List α) (n : Nat) (hl : l.length = n + 1) (h : n ≤ 100) : IntKind.i64.wrap (((l.length : Nat) : Int) - 1) = (n : Nat) := by
  rw [hl, show (((n + 1 : Nat) : Int) - 1) = (n : Nat) by omega]
  exact wrap_in (by constructor <;> omega)
attribute [local irreducible] TR TC
theorem rtx_fn (gl : List (Nat × List D)) (s : Se) (h : s.ok) : FnD prog gl 43 [.d (dSe s)] (fun v => v = .tup [.d (dSe s.next.1), .d (.int .i64 (if s.next.2 then 1 else 0))]) := by
  have c1 := rmay_fn gl s h
  have h1 := h.txl
  obtain ⟨tx, ack, data, rx⟩ := s
  unfold dSe at c1 ⊢
  dsimp only at c1 h1 ⊢
  clear h
  cases tx with
  | cons b t =>
    simp only [List.length_cons] at h1
    have c2 := rlow_at gl (b :: t) (by simp only [List.length_cons]; omega)
    have c3 := rnumber_tail gl (bI b) t (by omega)
    have hl : (List.map bI t).length = t.length := List.length_map _
    simp only [List.map_cons, List.length_cons] at c1 c2 ⊢
    (refine y_enter func43 ntmps43 results43 fun w M => ?_)
    (repeat' first | refine tr_at 1 ?_; (refine z_box 1 ?_) | refine tr_at 2 ?_; (refine z_alloc 2 ?_) | refine yyp ?_; try refine s_bu ?_ ?_ <;> intro hb | refine yy ?_ | refine yyc ?_ | refine at_call 72 ?_; refine y_call (hc := c1) ?_; try refine s_bu ?_ ?_ <;> intro hb | refine at_call 68 ?_; refine y_call (hc := c2) ?_ | refine at_call 73 ?_; refine y_call (hc := c3) ?_ | refine at_nil ?_; refine z_nil qn20_0 ?_ | (apply tc_mid (x := .region 15 _ _); focus ((refine tc_at 15 ?_; refine z_draw [4] (linT [4, 8, 1] (.mid 3 (lin [19, 20]) 4 (lin [13, 20]))) ?_); (repeat' (first | refine yyp ?_ | refine yy ?_ | refine at_nil ?_; refine z_nil qn20_0 ?_ | refine tr_mid ?_ ?_)); (all_goals first | exact Wk.refl _ _ | exact y_wk); done)) | refine tc_seq fun K hK => ?_ | refine tc_at 15 ?_; refine z_draw [4] (linT [4, 8, 1] (.mid 3 (lin [19, 20]) 4 (lin [13, 20]))) ?_ | apply_assumption -exfalso -symm)
    (refine tc_ret (y_ret ?_))
    rw [len_less _ t.length (by simp) (by omega)]
    rfl
  | nil =>
    have c2 := rlow_at gl [] (by simp)
    dsimp only [num, List.length_nil, List.map_nil] at c1 c2 ⊢
    cases ack with
    | true =>
      have c3 := rnumber_tail gl (.int .i64 1) [false] (by simp)
      (refine y_enter func43 ntmps43 results43 fun w M => ?_)
      (repeat' first | refine tr_at 1 ?_; (refine z_box 1 ?_) | refine tr_at 2 ?_; (refine z_alloc 2 ?_) | refine tr_at 21 ?_; (refine z_lit 21 ?_) | refine yyp ?_; try refine s_bu ?_ ?_ <;> intro hb | refine yy ?_ | refine yyc ?_ | refine at_call 72 ?_; refine y_call (hc := c1) ?_; try refine s_bu ?_ ?_ <;> intro hb | refine at_call 68 ?_; refine y_call (hc := c2) ?_ | refine tr_at 40 ?_; refine tr_weak (wk_slot 39 rfl (ToD.own rfl)) ?_; refine yyp ?_ | refine at_call 73 ?_; refine y_call (hc := c3) ?_ | refine at_nil ?_; refine z_nil qn20_0 ?_ | (apply tc_mid (x := .region 15 _ _); focus ((refine tc_at 15 ?_; refine z_draw [4] (linT [4, 8, 1] (.mid 3 (lin [19, 20]) 4 (lin [13, 20]))) ?_); (repeat' (first | refine yyp ?_ | refine yy ?_ | refine at_nil ?_; refine z_nil qn20_0 ?_ | refine tr_mid ?_ ?_)); (all_goals first | exact Wk.refl _ _ | exact y_wk); done)) | refine tc_seq fun K hK => ?_ | refine tc_at 15 ?_; refine z_draw [4] (linT [4, 8, 1] (.mid 3 (lin [19, 20]) 4 (lin [13, 20]))) ?_ | apply_assumption -exfalso -symm)
      (refine tc_ret (y_ret ?_))
      rfl
    | false =>
      cases data with
      | none =>
        have c3 := c2
        (refine y_enter func43 ntmps43 results43 fun w M => ?_)
        (repeat' first | refine tr_at 1 ?_; (refine z_box 1 ?_) | refine tr_at 2 ?_; (refine z_alloc 2 ?_) | refine yyp ?_; try refine s_bu ?_ ?_ <;> intro hb | refine yy ?_ | refine yyc ?_ | refine at_call 72 ?_; refine y_call (hc := c1) ?_; try refine s_bu ?_ ?_ <;> intro hb | refine at_call 68 ?_; refine y_call (hc := c2) ?_ | refine at_nil ?_; refine z_nil qn20_0 ?_ | (apply tc_mid (x := .region 15 _ _); focus ((refine tc_at 15 ?_; refine z_draw [4] (linT [4, 8, 1] (.mid 3 (lin [19, 20]) 4 (lin [13, 20]))) ?_); (repeat' (first | refine tr_at 1 ?_; (refine z_box 1 ?_))); (all_goals first | exact Wk.refl _ _ | exact y_wk); done)) | refine tc_seq fun K hK => ?_ | refine tc_at 15 ?_; refine z_draw [4] (linT [4, 8, 1] (.mid 3 (lin [19, 20]) 4 (lin [13, 20]))) ?_ | apply_assumption -exfalso -symm)
        (refine tc_ret (y_ret ?_))
        rfl
      | some b =>
        have hb : b.toNat < 256 := b.toNat_lt
        have hl := rest_len b
        have c3 := rnumber_tail gl (bI true) (rest b) (by omega)
        have c4 := rbits_fn gl b
        (refine y_enter func43 ntmps43 results43 fun w M => ?_)
        (repeat' first | refine tr_at 1 ?_; (refine z_box 1 ?_) | refine tr_at 2 ?_; (refine z_alloc 2 ?_) | refine yyp ?_; try refine s_bu ?_ ?_ <;> intro hb | refine yy ?_ | refine yyc ?_ | refine at_call 72 ?_; refine y_call (hc := c1) ?_; try refine s_bu ?_ ?_ <;> intro hb | refine at_call 68 ?_; refine y_call (hc := c2) ?_ | refine at_call 33 ?_; refine y_call (hc := c4) ?_ | refine at_call 73 ?_; refine y_call (hc := c3) ?_ | refine at_nil ?_; refine z_nil qn20_0 ?_ | (apply tc_mid (x := .region 15 _ _); focus ((refine tc_at 15 ?_; refine z_draw [4] (linT [4, 8, 1] (.mid 3 (lin [19, 20]) 4 (lin [13, 20]))) ?_); (repeat' (first | refine yyp ?_ | refine yy ?_ | refine at_nil ?_; refine z_nil qn20_0 ?_ | refine tr_mid ?_ ?_)); (all_goals first | exact Wk.refl _ _ | exact y_wk); done)) | refine tc_seq fun K hK => ?_ | refine tc_at 15 ?_; refine z_draw [4] (linT [4, 8, 1] (.mid 3 (lin [19, 20]) 4 (lin [13, 20]))) ?_ | apply_assumption -exfalso -symm)
        (refine tc_ret (y_ret ?_))
        rw [len_less _ (rest b).length (by simp) (by omega)]
        rfl
end
section
def qn21_0 : List Nat := [0, 1, 2, 4, 5, 6, 7, 10, 14, 24, 31, 32, 41, 55, 121]
open Go.RowKit Nd
theorem rlow_row (gl : List (Nat × List D)) (l : List Bool) (h : l.length ≤ 15) : FnE prog gl 68 [.d (.int .u16 (num l : Nat)), .d (.int .i64 (l.length : Nat))] [] (fun r H1 => r = .own 5 0 ∧ H1 = [(5, .row 3 1 true (l.map bI) 0)]) := by
  have h1 := num_le l 0 h
  have := rlow_own gl (num l) l.length (by rw [List.drop_zero] at h1; omega) (by omega)
  rw [bitsN_num] at this
  exact FnE.fix this
attribute [local irreducible] TR TC
theorem rrx_fn (gl : List (Nat × List D)) (s : Se) (bit : Bool) (h : s.ok) : FnD prog gl 44 [.d (dSe s), .d (.int .i64 (if bit then 1 else 0))] (fun v => v = .tup [.d (dSe (s.hear bit).1), .d (dHeard (s.hear bit).2)]) := by
  have c1 := rmay_fn gl s h
  have h4 := h.rxl
  have h5 := h.rx0
  have h6 := h.rx1
  have c2 := rlow_row gl s.rx (by omega)
  obtain ⟨tx, ack, data, rx⟩ := s
  unfold dSe at c1 ⊢
  dsimp only at c1 c2 h4 h5 h6 ⊢
  match rx, h4, h5, h6 with
  | [], _, _, _ =>
    have c3 := rnumber_fn gl [] (by simp)
    have c4 := rnumber_fn gl [true] (by simp)
    dsimp only [num, List.length_nil, List.map_nil, List.map_cons] at c1 c2 c3 c4 ⊢
    cases bit
    all_goals simp only [reduceIte, Bool.false_eq_true, bI] at c1 c2 c3 c4 ⊢
    all_goals
      (refine y_enter func44 ntmps44 results44 fun w M => ?_)
      (repeat' first | refine tr_at 2 ?_; (refine z_box 102 ?_) | refine tr_at 4 ?_; (refine z_alloc 104 ?_) | refine tr_at 5 ?_; (refine z_alloc 105 ?_) | refine tr_at 19 ?_; refine y_callG (hc := c2) ?_ | refine tr_at 21 ?_; (refine z_lit 121 ?_) | refine tr_at 23 ?_; refine z_p w_buildn ?_ | refine tr_at 7 ?_; (refine z_alloc 107 ?_) | refine yyp ?_; try refine s_bu ?_ ?_ <;> intro hb | refine yy ?_ | refine yyc ?_ | refine at_call 72 ?_; refine y_call (hc := c1) ?_; try refine s_bu ?_ ?_ <;> intro hb | (refine at_append ?_; first | (refine z_append (fun kv => ?_)) | (refine z_append_suf (fun sx sp kv hsx hsp hsl => ?_))) | refine at_call 73 ?_; refine y_call (hc := (by first | exact c3 | exact c4)) ?_ | refine at_nil ?_; refine z_nil qn21_0 ?_ | (apply tc_mid (x := .region 21 _ _); focus ((refine tc_at 21 ?_; refine z_draw [2, 3] (linT [1] (.mid 1 (lin [11, 15]) 2 (lin [5, 15]))) ?_); (repeat' (first | refine yyp ?_ | refine yy ?_ | refine at_nil ?_; refine z_nil qn21_0 ?_ | refine tr_mid ?_ ?_)); (all_goals first | exact Wk.refl _ _ | exact y_wk); done)) | refine tc_seq fun K hK => ?_ | refine tc_at 21 ?_; refine z_draw [2, 3] (linT [1] (.mid 1 (lin [11, 15]) 2 (lin [5, 15]))) ?_ | apply_assumption -exfalso -symm)
      all_goals
        (refine tc_ret (y_ret ?_))
        rfl
  | [x], _, h5, _ =>
    obtain rfl := h5 x rfl
    have c3 := rnumber_fn gl [] (by simp)
    have c4 := rnumber_fn gl [true, true] (by simp)
    dsimp only [num, List.length_nil, List.length_cons, List.map_nil, List.map_cons] at c1 c2 c3 c4 ⊢
    cases bit
    all_goals simp only [reduceIte, Bool.false_eq_true, bI] at c1 c2 c3 c4 ⊢
    all_goals
      (refine y_enter func44 ntmps44 results44 fun w M => ?_)
      (repeat' first | refine tr_at 2 ?_; (refine z_box 102 ?_) | refine tr_at 4 ?_; (refine z_alloc 104 ?_) | refine tr_at 5 ?_; (refine z_alloc 105 ?_) | refine tr_at 19 ?_; refine y_callG (hc := c2) ?_ | refine tr_at 21 ?_; (refine z_lit 121 ?_) | refine tr_at 23 ?_; refine z_p w_buildn ?_ | refine tr_at 7 ?_; (refine z_alloc 107 ?_) | refine yyp ?_; try refine s_bu ?_ ?_ <;> intro hb | refine yy ?_ | refine yyc ?_ | refine at_call 72 ?_; refine y_call (hc := c1) ?_; try refine s_bu ?_ ?_ <;> intro hb | (refine at_append ?_; first | (refine z_append (fun kv => ?_)) | (refine z_append_suf (fun sx sp kv hsx hsp hsl => ?_))) | refine at_call 73 ?_; refine y_call (hc := (by first | exact c3 | exact c4)) ?_ | refine at_nil ?_; refine z_nil qn21_0 ?_ | (apply tc_mid (x := .region 21 _ _); focus ((refine tc_at 21 ?_; refine z_draw [2, 3] (linT [1] (.mid 1 (lin [11, 15]) 2 (lin [5, 15]))) ?_); (repeat' (first | refine yyp ?_ | refine yy ?_ | refine at_nil ?_; refine z_nil qn21_0 ?_ | refine tr_mid ?_ ?_)); (all_goals first | exact Wk.refl _ _ | exact y_wk); done)) | refine tc_seq fun K hK => ?_ | refine tc_at 21 ?_; refine z_draw [2, 3] (linT [1] (.mid 1 (lin [11, 15]) 2 (lin [5, 15]))) ?_ | apply_assumption -exfalso -symm)
      all_goals
        (refine tc_ret (y_ret ?_))
        rfl
  | x :: y :: l, h4, h5, h6 =>
    obtain rfl := h5 x rfl
    obtain rfl := h6 y rfl
    simp only [List.length_cons] at h4
    have hlm : (List.map bI l).length = l.length := List.length_map _
    by_cases hl : l.length + 1 + 1 = 10
    · have hnb : num l < 256 := by have h := num_lt l; rw [show l.length = 8 by omega] at h; exact h
      have c3 := rnumber_fn gl [] (by simp)
      have c4 : FnD prog gl 73 [.d (.list 1 (((bI true :: bI true :: l.map bI ++ [D.int .i64 0]).drop 2).take (10 - 2)))] (fun r => r = .d (.int .u16 (num l : Nat))) := by
        rw [show ((bI true :: bI true :: l.map bI ++ [D.int .i64 0]).drop 2).take (10 - 2) = l.map bI by
          simp only [List.cons_append, List.drop_succ_cons, List.drop_zero]
          rw [List.take_append_of_le_length (by rw [hlm]; omega), List.take_of_length_le (by rw [hlm]; omega)]]
        exact rnumber_fn gl l (by omega)
      simp only [List.map_nil, List.map_cons] at c2 c3
      cases bit
      all_goals simp only [reduceIte, Bool.false_eq_true, List.length_cons] at c1 c2 ⊢
      all_goals
        (refine y_enter func44 ntmps44 results44 fun w M => ?_)
        (repeat' first | refine tr_at 2 ?_; (refine z_box 102 ?_) | refine tr_at 4 ?_; (refine z_alloc 104 ?_) | refine tr_at 5 ?_; (refine z_alloc 105 ?_) | refine tr_at 19 ?_; refine y_callG (hc := c2) ?_ | refine tr_at 21 ?_; (refine z_lit 121 ?_) | refine tr_at 23 ?_; refine z_p w_buildn ?_ | refine tr_at 7 ?_; (refine z_alloc 107 ?_) | refine yyp ?_; try refine s_bu ?_ ?_ <;> intro hb | refine yy ?_ | refine yyc ?_ | refine at_call 72 ?_; refine y_call (hc := c1) ?_; try refine s_bu ?_ ?_ <;> intro hb | (refine at_append ?_; first | (refine z_append (fun kv => ?_)) | (refine z_append_suf (fun sx sp kv hsx hsp hsl => ?_))) | refine tr_at 51 ?_; refine tr_weak (wk_slot 50 rfl (ToD.own rfl)) ?_; refine yyp ?_ | refine at_call 73 ?_; refine y_call (hc := (by first | exact c3 | exact c4)) ?_ | refine at_nil ?_; refine z_nil qn21_0 ?_ | (apply tc_mid (x := .region 21 _ _); focus ((refine tc_at 21 ?_; refine z_draw [2, 3] (linT [1] (.mid 1 (lin [11, 15]) 2 (lin [5, 15]))) ?_); (repeat' (first | refine yyp ?_ | refine yy ?_ | refine at_nil ?_; refine z_nil qn21_0 ?_ | refine tr_mid ?_ ?_)); (all_goals first | exact Wk.refl _ _ | exact y_wk); done)) | refine tc_seq fun K hK => ?_ | refine tc_at 21 ?_; refine z_draw [2, 3] (linT [1] (.mid 1 (lin [11, 15]) 2 (lin [5, 15]))) ?_ | apply_assumption -exfalso -symm)
        all_goals
          (refine tc_ret (y_ret ?_))
          rw [hear_end _ _ _ _ hl]
          simp only [reduceIte, Bool.false_eq_true, oneOf, dHeard]
          first
            | rfl
            | (rw [UInt8.toNat_ofNat', Nat.mod_eq_of_lt hnb]
               rfl)
    · have c3 : FnD prog gl 73 [.d (.list 1 (bI true :: bI true :: l.map bI ++ [.int .i64 (if bit then 1 else 0)]))] (fun r => r = .d (.int .u16 (num (true :: true :: l ++ [bit]) : Nat))) := by
        have := rnumber_fn gl (true :: true :: l ++ [bit]) (by simp; omega)
        simp only [List.map_append, List.map_cons, List.map_nil] at this
        exact this
      have c4 := c3
      simp only [List.map_nil, List.map_cons] at c2
      cases bit
      all_goals simp only [reduceIte, Bool.false_eq_true, List.length_cons] at c1 c2 c3 c4 ⊢
      all_goals
        (refine y_enter func44 ntmps44 results44 fun w M => ?_)
        (repeat' first | refine tr_at 2 ?_; (refine z_box 102 ?_) | refine tr_at 4 ?_; (refine z_alloc 104 ?_) | refine tr_at 5 ?_; (refine z_alloc 105 ?_) | refine tr_at 19 ?_; refine y_callG (hc := c2) ?_ | refine tr_at 21 ?_; (refine z_lit 121 ?_) | refine tr_at 23 ?_; refine z_p w_buildn ?_ | refine tr_at 7 ?_; (refine z_alloc 107 ?_) | refine yyp ?_; try refine s_bu ?_ ?_ <;> intro hb | refine yy ?_ | refine yyc ?_ | refine at_call 72 ?_; refine y_call (hc := c1) ?_; try refine s_bu ?_ ?_ <;> intro hb | (refine at_append ?_; first | (refine z_append (fun kv => ?_)) | (refine z_append_suf (fun sx sp kv hsx hsp hsl => ?_))) | refine at_call 73 ?_; refine y_call (hc := (by first | exact c3 | exact c4)) ?_ | refine at_nil ?_; refine z_nil qn21_0 ?_ | (apply tc_mid (x := .region 21 _ _); focus ((refine tc_at 21 ?_; refine z_draw [2, 3] (linT [1] (.mid 1 (lin [11, 15]) 2 (lin [5, 15]))) ?_); (repeat' (first | refine yyp ?_ | refine yy ?_ | refine at_nil ?_; refine z_nil qn21_0 ?_ | refine tr_mid ?_ ?_)); (all_goals first | exact Wk.refl _ _ | exact y_wk); done)) | refine tc_seq fun K hK => ?_ | refine tc_at 21 ?_; refine z_draw [2, 3] (linT [1] (.mid 1 (lin [11, 15]) 2 (lin [5, 15]))) ?_ | apply_assumption -exfalso -symm)
        all_goals
          (refine tc_ret (y_ret ?_))
          rw [hear_more _ _ _ _ hl]
          simp only [oneOf, dHeard, List.length_append, List.length_cons, List.length_nil, hlm] <;> rfl
end
end Go.Proofs.YtjhbglklcddekaaGreatDoor
