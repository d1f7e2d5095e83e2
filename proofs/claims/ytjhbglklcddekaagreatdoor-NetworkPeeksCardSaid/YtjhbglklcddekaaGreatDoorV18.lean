/- Parts: N10, N11, N12, N12A, N12B, N12C, N12D, N12E. -/
import Derived.Test.YtjhbglklcddekaaGreatDoorV17
set_option linter.all false
set_option maxRecDepth 100000
set_option maxHeartbeats 16000000
namespace Go.Proofs.YtjhbglklcddekaaGreatDoor
open Go.RowKit Go.Proofs.Tryz
section
def qn10_0 : List Nat := [0, 1, 2, 6, 7, 8, 9, 17, 18, 19]
def qn10_1 : List Nat := [0, 2, 3, 4, 5, 6]
open Go.RowKit Nd
namespace Nd
theorem set_four {α : Type} (l : List α) (i : Nat) (a b c d : α) (h : i + 4 ≤ l.length) : (((l.set (i + 0) a).set (i + 1) b).set (i + 2) c).set (i + 3) d = l.take i ++ [a, b, c, d] ++ l.drop (i + 4) := by
  apply List.ext_getElem?
  intro j
  simp only [List.getElem?_set, List.length_set, List.getElem?_append, List.length_append, List.length_take, List.length_cons, List.length_nil, List.getElem?_take, List.getElem?_drop, Nat.min_eq_left (by omega : i ≤ l.length)]
  by_cases h1 : j < i
  · simp [h1, show ¬ i = j by omega, show ¬ i + 1 = j by omega, show ¬ i + 2 = j by omega, show ¬ i + 3 = j by omega, show j < i + 4 by omega]
  · by_cases h2 : i + 4 ≤ j
    · simp [h1, show ¬ i = j by omega, show ¬ i + 1 = j by omega, show ¬ i + 2 = j by omega, show ¬ i + 3 = j by omega, show ¬ j < i + 4 by omega]
      congr 1
      omega
    · rcases (by omega : j = i ∨ j = i + 1 ∨ j = i + 2 ∨ j = i + 3) with rfl | rfl | rfl | rfl
      · simp [show j < l.length by omega]
      · simp [show i + 1 < l.length by omega]
        try omega
      · simp [show i + 2 < l.length by omega]
        try omega
      · simp [show i + 3 < l.length by omega]
        try omega
theorem u32_s32 (v : Nat) (hv : v < 4294967296) : IntKind.u32.wrap (s32 v) = ((v : Nat) : Int) := by
  unfold s32 IntKind.wrap
  simp [IntKind.signed, IntKind.bits]
  split <;> omega
def byteI (v : Int) (k : Int) : D := .int .u8 (IntKind.u8.wrap ((IntKind.u32.wrap v).fdiv (2 ^ min (8 * k).toNat IntKind.u32.bits)))
theorem byteI_eq (v k : Nat) (hv : v < 4294967296) (hk : k ≤ 4) : byteI (s32 v) (k : Nat) = dB (UInt8.ofNat (v / 2 ^ (8 * k))) := by
  unfold byteI dB
  rw [u32_s32 v hv, show IntKind.u32.bits = 32 from rfl, show (8 * ((k : Nat) : Int)).toNat = 8 * k by omega, Nat.min_eq_left (by omega), Int.fdiv_eq_ediv_of_nonneg _ (by exact Int.le_of_lt (Int.pow_pos (by omega)))]
  have e : ((v : Nat) : Int) / 2 ^ (8 * k) = ((v / 2 ^ (8 * k) : Nat) : Int) := by
    rw [Int.natCast_ediv, Int.natCast_pow]
    rfl
  rw [e, byte_lt]
  unfold IntKind.wrap
  simp [IntKind.signed, IntKind.bits]
theorem setWord_in (m : List UInt8) (a v : Nat) (h : index a < m.length) : setWord m a v = put m (index a / 4 * 4) (four v) := if_pos h
theorem setWord_out (m : List UInt8) (a v : Nat) (h : m.length ≤ index a) : setWord m a v = m := if_neg (by omega)
theorem dBs_put (m : List UInt8) (i : Nat) (x : List UInt8) : dBs (put m i x) = (dBs m).take i ++ dBs x ++ (dBs m).drop (i + x.length) := by
  simp [dBs, put]
theorem put_word (m : List UInt8) (i v : Nat) (h : i + 4 ≤ m.length) (hv : v < 4294967296) : dBs (put m i (four v)) = ((((dBs m).set (i + 0) (byteI (s32 v) 0)).set (i + 1) (byteI (s32 v) 1)).set (i + 2) (byteI (s32 v) 2)).set (i + 3) (byteI (s32 v) 3) := by
  rw [set_four _ _ _ _ _ _ (by rw [dBs_len]; exact h), dBs_put, four_len]
  have h0 := byteI_eq v 0 hv (by omega)
  have h1 := byteI_eq v 1 hv (by omega)
  have h2 := byteI_eq v 2 hv (by omega)
  have h3 := byteI_eq v 3 hv (by omega)
  rw [show byteI (s32 v) 0 = byteI (s32 v) ((0 : Nat) : Int) from rfl, show byteI (s32 v) 1 = byteI (s32 v) ((1 : Nat) : Int) from rfl, show byteI (s32 v) 2 = byteI (s32 v) ((2 : Nat) : Int) from rfl, show byteI (s32 v) 3 = byteI (s32 v) ((3 : Nat) : Int) from rfl, h0, h1, h2, h3]
  simp [dBs, four]
end Nd
attribute [local irreducible] TR TC
theorem setWord_fn (gl : List (Nat × List D)) (m : List UInt8) (a v : Nat) (ha : a < 4294967296) (hv : v < 4294967296) (h1 : index a < m.length) (h2 : m.length % 4 = 0) (h3 : m.length ≤ 65536) :
    FnE prog gl 93 [.ptr 901 0, .d (.int .i32 (s32 a)), .d (.int .i32 (s32 v))] (memO m) (fun r H1 => r = .d (.int .i64 0) ∧ H1 = memO (setWord m a v)) := by
  have c1 := word_fn gl m a ha h1 h2 h3
  have hi : index a / 4 * 4 + 4 ≤ m.length := by omega
  rw [setWord_in m a v h1]
  have e := put_word m _ v hi hv
  generalize index a / 4 * 4 = i at *
  unfold memO at *
  rw [e]
  have hl := dBs_len m
  generalize dBs m = ms at *
  clear e
  unfold byteI
  (refine y_entere func93 ntmps93 results93 fun w M E b0 => ?_)
  (repeat' first | refine tr_at 13 ?_; refine y_callE (hc := c1) ?_ | refine yyp ?_; try refine s_bu ?_ ?_ <;> intro hb | refine yyq ?_; try refine s_bu ?_ ?_ <;> intro hb | refine yy ?_ | refine at_nil ?_; refine z_nil qn10_0 ?_ | refine tc_seq fun K hK => ?_ | apply_assumption -exfalso -symm)
  refine tc_rounds 5 (rounds_next fun K5 h5 => ?_)
  (repeat' first | refine yyp ?_; try refine s_bu ?_ ?_ <;> intro hb | refine yyq ?_; try refine s_bu ?_ ?_ <;> intro hb | refine yy ?_ | refine yyr ?_; try refine s_bu ?_ ?_ <;> intro hb | refine at_nil ?_; refine z_nil qn10_0 ?_ | refine tc_seq fun K hK => ?_ | apply_assumption -exfalso -symm)
  all_goals
    first
      | ((refine tc_ret (y_rete ⟨?_, rfl⟩))
         rfl)
theorem setWord_no (gl : List (Nat × List D)) (m : List UInt8) (a v : Nat) (ha : a < 4294967296) (hv : v < 4294967296) (h0 : 0 < m.length) (h1 : m.length ≤ index a) (h2 : m.length % 4 = 0) (h3 : m.length ≤ 65536) :
    FnE prog gl 93 [.ptr 901 0, .d (.int .i32 (s32 a)), .d (.int .i32 (s32 v))] (memO m) (fun r H1 => r = .d (.int .i64 4) ∧ H1 = memO (setWord m a v)) := by
  have c1 := word_no gl m a ha h0 h1 h2 h3
  rw [setWord_out m a v h1]
  unfold memO at *
  generalize dBs m = ms at *
  (refine y_entere func93 ntmps93 results93 fun w M E b0 => ?_)
  (repeat' first | refine tr_at 13 ?_; refine y_callE (hc := c1) ?_ | refine yyp ?_; try refine s_bu ?_ ?_ <;> intro hb | refine yy ?_ | refine at_nil ?_; refine z_nil qn10_0 ?_ | refine tc_seq fun K hK => ?_ | apply_assumption -exfalso -symm)
  refine tc_rounds 1 (rounds_next fun K5 h5 => ?_)
  (repeat' first | refine yyp ?_; try refine s_bu ?_ ?_ <;> intro hb | refine yy ?_ | refine yyc ?_ | refine at_nil ?_; refine z_nil qn10_0 ?_ | refine tc_seq fun K hK => ?_ | apply_assumption -exfalso -symm)
  all_goals
    first
      | ((refine tc_ret (y_rete ⟨?_, rfl⟩))
         rfl)
      | (exfalso; simp at hcmp; done)
theorem zeros (n : Nat) : dBs (List.replicate n 0) = List.replicate n (.int .u8 0) := by
  simp [dBs, dB]
theorem mmay_fn (gl : List (Nat × List D)) : FnD prog gl 71 [.d (.int .i64 1024)] (fun v => v = .d (.bool true)) := by
  (refine y_enter func71 ntmps71 results71 fun w M => ?_)
  (repeat' first | refine yyp ?_; try refine s_bu ?_ ?_ <;> intro hb | refine yy ?_ | refine at_nil ?_; refine z_nil qn10_1 ?_ | refine tc_seq fun K hK => ?_ | apply_assumption -exfalso -symm)
  (refine tc_ret (y_ret ?_))
  rfl
theorem mmay_no (gl : List (Nat × List D)) : FnD prog gl 71 [.d (.int .i64 1022)] (fun v => v = .d (.bool false)) := by
  (refine y_enter func71 ntmps71 results71 fun w M => ?_)
  (repeat' first | refine yyp ?_; try refine s_bu ?_ ?_ <;> intro hb | refine yy ?_ | refine at_nil ?_; refine z_nil qn10_1 ?_ | refine tc_seq fun K hK => ?_ | apply_assumption -exfalso -symm)
  (refine tc_ret (y_ret ?_))
  rfl
theorem mnew_fn (gl : List (Nat × List D)) : FnE prog gl 36 [.d (.int .i64 1024)] [] (fun r H1 => r = .tup [.ptr 901 0, .d (.int .i64 0)] ∧ H1 = memO (List.replicate 1024 0)) := by
  have c0 := mmay_fn gl
  unfold memO
  rw [zeros]
  (refine y_entere func36 ntmps36 results36 fun w M E b0 => ?_)
  (repeat' first | refine tr_at 8 ?_; (refine z_make 903 ?_) | refine tr_at 10 ?_; (refine z_box 901 ?_) | refine yyp ?_; try refine s_bu ?_ ?_ <;> intro hb | refine yy ?_ | refine at_call 71 ?_; refine y_call (hc := c0) ?_; try refine s_bu ?_ ?_ <;> intro hb | refine at_nil ?_; refine z_nil qn10_1 ?_ | refine tc_seq fun K hK => ?_ | apply_assumption -exfalso -symm)
  (refine tc_ret (y_rete ⟨?_, rfl⟩))
  rfl
theorem mnew_no (gl : List (Nat × List D)) : FnE prog gl 36 [.d (.int .i64 1022)] [] (fun r H1 => r = .tup [.d (.raw (.pointer none)), .d (.int .i64 2)] ∧ H1 = []) := by
  have c0 := mmay_no gl
  (refine y_entere func36 ntmps36 results36 fun w M E b0 => ?_)
  (repeat' first | refine yyp ?_; try refine s_bu ?_ ?_ <;> intro hb | refine yy ?_ | refine at_call 71 ?_; refine y_call (hc := c0) ?_; try refine s_bu ?_ ?_ <;> intro hb | refine at_nil ?_; refine z_nil qn10_1 ?_ | refine tc_seq fun K hK => ?_ | apply_assumption -exfalso -symm)
  (refine tc_ret (y_rete ⟨?_, rfl⟩))
  rfl
end
section
open Go.RowKit Nd
namespace Nd
def coreD (r : Option (Int × Int)) : List D := [.int .i32 0, .int .i32 0, .int .i32 (match r with | some x => x.2 | none => 0), .int .i32 (match r with | some _ => -2147483576 | none => 0), .int .i32 (match r with | some x => x.1 | none => 0), .int .i64 (match r with | some _ => 1 | none => 0), .bool r.isSome, .bool false, .bool false, .bool false,
  .int .i32 (-2147483648), .int .i32 (-2147483648), .int .i32 (-2147483648), .int .i32 (-2147483648), .int .i32 (-2147483648), .int .i32 (-2147483648), .int .i32 0, .int .i32 0, .int .i32 0, .int .i32 0, .bool false, .int .i32 0, .int .i32 0, .int .i32 0, .int .i32 0, .int .i32 0, .bool false, .int .i32 0]
def seD (s : Se) : List D := [.int .u16 (num s.tx : Nat), .int .i64 (s.tx.length : Nat), .bool s.ack, .bool s.data.isSome, .int .u8 (bD s.data), .int .i64 (s.rx.length : Nat), .int .u16 (num s.rx : Nat)]
def lkD (l : Lk) : List D := [.int .i32 (-2147483648), .int .i32 0, .int .i32 0, .int .i32 0, .bool false, .bool l.busy, .int .u8 0, .int .i32 (-2147483648), .int .i32 0, .int .i32 0, .int .i32 0, .bool false, .bool l.inb.isSome, .int .u8 (bD l.inb)] ++ seD l.wire
def nodeC (n : NB) : List V := (coreD n.run).map V.d ++ [.ptr 901 0] ++ (n.ls.flatMap lkD).map V.d ++ [.d (.bool n.run.isNone), .d (.int .i64 n.link), .nils 0, .d (.list 1 (dBs n.out)), .nils 0]
def NH (n : NB) : List (Nat × Ob) := (900, .hbox 5 1 (dBs n.buf) 115 (nodeC n)) :: memO n.mem
theorem at4_set {k : Nat} (hk : k < 4) (l l' : Lk) : (at4 k l).set k l' = at4 k l' := by
  rcases four_k hk with rfl | rfl | rfl | rfl <;> rfl
theorem at4_at {k : Nat} (hk : k < 4) (l : Lk) : (at4 k l).getD k lk0 = l := by
  rcases four_k hk with rfl | rfl | rfl | rfl <;> rfl
theorem four_links0 (l : Lk) : (at4 0 l).flatMap lkD = lkD l ++ lkD lk0 ++ lkD lk0 ++ lkD lk0 := rfl
theorem four_links1 (l : Lk) : (at4 1 l).flatMap lkD = lkD lk0 ++ lkD l ++ lkD lk0 ++ lkD lk0 := rfl
theorem four_links2 (l : Lk) : (at4 2 l).flatMap lkD = lkD lk0 ++ lkD lk0 ++ lkD l ++ lkD lk0 := rfl
theorem four_links3 (l : Lk) : (at4 3 l).flatMap lkD = lkD lk0 ++ lkD lk0 ++ lkD lk0 ++ lkD l := rfl
end Nd
attribute [local irreducible] TR TC
theorem nnone_fn (gl : List (Nat × List D)) (k : Nat) (hk : k < 4) (link : Int) (buf out mem : List UInt8) (l : Lk) (r : Option (Int × Int)) :
    FnE prog gl 46 [.ptr 900 0] (NH ⟨link, buf, out, mem, at4 k l, r⟩) (fun v H1 => v = .d (.bool false) ∧ H1 = NH ⟨link, buf, out, mem, at4 k l, r⟩) := by
  rcases four_k hk with rfl | rfl | rfl | rfl
  all_goals
    (refine y_entere func46 ntmps46 results46 fun w M E b0 => ?_)
    (repeat' first | refine yyp ?_; try refine s_bu ?_ ?_ <;> intro hb | refine yyq ?_; try refine s_bu ?_ ?_ <;> intro hb | refine yy ?_ | refine yyr ?_; try refine s_bu ?_ ?_ <;> intro hb | refine at_nil ?_; refine z_nil [0, 2, 3, 4, 5, 6] ?_ | refine tc_seq fun K hK => ?_ | apply_assumption -exfalso -symm)
    (refine tc_ret (y_rete ⟨?_, rfl⟩))
    rfl
theorem noff_fn (gl : List (Nat × List D)) (k : Nat) (hk : k < 4) (link : Int) (buf out mem : List UInt8) (l : Lk) (r : Option (Int × Int)) :
    FnE prog gl 49 [.ptr 900 0, .d (.int .i64 k)] (NH ⟨link, buf, out, mem, at4 k l, r⟩) (fun v H1 => v = .d (.bool false) ∧ H1 = NH ⟨link, buf, out, mem, at4 k l, r⟩) := by
  have c0 := nnone_fn gl k hk link buf out mem l r
  rcases four_k hk with rfl | rfl | rfl | rfl
  all_goals
    (refine y_entere func49 ntmps49 results49 fun w M E b0 => ?_)
    (repeat' first | refine tr_at 6 ?_; refine y_callE (hc := c0) ?_; try refine s_bu ?_ ?_ <;> intro hb | refine yyp ?_; try refine s_bu ?_ ?_ <;> intro hb | refine yy ?_ | refine yyr ?_; try refine s_bu ?_ ?_ <;> intro hb | refine at_nil ?_; refine z_nil [0, 1, 4, 5, 6, 7] ?_ | refine tc_seq fun K hK => ?_ | apply_assumption -exfalso -symm)
    (refine tc_ret (y_rete ⟨?_, rfl⟩))
    rfl
end
section
open Go.RowKit Nd
namespace Nd
def actA (kind n w : Int) : D := .agg [.int .i32 0, .int .i64 0, .int .u8 kind, .int .i32 n, .int .i32 w]
def txA (k : Int) (s : Se) : D := match s.tx with
  | b :: _ => .list 5 [actA 7 k (if b then 1 else 0)]
  | [] => if s.ack then .list 5 [actA 7 k 1] else match s.data with
    | some b => .list 5 [actA 4 k b.toNat, actA 7 k 1]
    | none => .list 0 []
theorem bD_none : bD none = 0 := rfl
theorem dBs_nil : dBs [] = [] := rfl
theorem dBs_cons (b : UInt8) (l : List UInt8) : dBs (b :: l) = dB b :: dBs l := rfl
theorem bD_some (b : UInt8) : bD (some b) = ((b.toNat : Nat) : Int) := rfl
end Nd
end
section
def qn12a_0 : List Nat := [0, 1, 4, 5, 6, 7, 9, 39, 57]
def qn12a_1 : Plan := lin [0, 4, 28, 32, 9, 14, 16, 20, 24, 36, 40, 47, 48]
open Go.RowKit Nd
attribute [local irreducible] TR TC
theorem ntx_on (gl : List (Nat × List D)) (k : Nat) (hk : k < 4) (link : Int) (buf out mem : List UInt8) (r : Option (Int × Int)) (rx : List Bool) (ack : Bool) (data : Option UInt8) (busy : Bool) (inb : Option UInt8) (b : Bool) (t : List Bool) (hok : Se.ok ⟨b :: t, ack, data, rx⟩) :
    FnE prog gl 17 [.ptr 900 0, .d (.int .i64 k)] (NH ⟨link, buf, out, mem, at4 k ⟨⟨b :: t, ack, data, rx⟩, busy, inb⟩, r⟩) (fun v H1 => v = .tup [.d (.int .i64 (if (Se.next ⟨b :: t, ack, data, rx⟩).2 then 1 else 0)), .d (txA k ⟨b :: t, ack, data, rx⟩)] ∧ H1 = NH ⟨link, buf, out, mem, at4 k ⟨(Se.next ⟨b :: t, ack, data, rx⟩).1, busy, inb⟩, r⟩) := by
  have c0 := noff_fn gl k hk link buf out mem ⟨⟨b :: t, ack, data, rx⟩, busy, inb⟩ r
  have c1 := stx_fn gl ⟨b :: t, ack, data, rx⟩ hok
  clear hok
  generalize num rx = nrx at *
  cases b
  all_goals simp only [dSe, Se.next, num, bD_none, bD_some, rest_len, Option.isSome_none, Option.isSome_some, List.length_nil, List.length_cons, Bool.false_eq_true, if_true, if_false] at c1
  all_goals rcases four_k hk with rfl | rfl | rfl | rfl
  all_goals
    (refine y_entere func17 ntmps17 results17 fun w M E b0 => ?_)
    ((repeat' first | refine tr_at 9 ?_; refine y_callE (hc := c0) ?_; try refine s_bu ?_ ?_ <;> intro hb | refine tc_at 3 ?_; refine halt ?_ | refine yyp ?_; try refine s_bu ?_ ?_ <;> intro hb | refine yy ?_ | refine at_nil ?_; refine z_nil qn12a_0 ?_ | refine tc_seq fun K hK => ?_ | refine tc_at 4 ?_; refine z_draw [11] qn12a_1 ?_ | apply_assumption -exfalso -symm); all_goals try refine unhalt ?_)
    refine tc_wk (wk_hbox_out (n := 900) (q := 902) rfl rfl) ?_
    simp only [nodeC, coreD, four_links0, four_links1, four_links2, four_links3, lkD, seD, dSe, lk0, se0, num, bD_none, bD_some, Option.isSome_none, Option.isSome_some, List.length_nil, List.length_cons, List.map_append, List.map_cons, List.map_nil, List.cons_append, List.nil_append, List.append_assoc, List.set_cons_succ, List.set_cons_zero]
    ((repeat' first | refine tr_at 6 ?_; (refine z_alloc 1006 ?_) | refine tr_at 63 ?_; (refine tr_keep [0, 1, 4, 5, 6, 7, 9, 39, 57, 58, 60, 62] ?_); refine y_inline func51 ntmps51 results51 fun tm sy => ?_; simp only [slots, shift, zipPs, List.nil_append, List.cons_append, List.append_nil, List.map_cons, List.map_nil, List.zipIdx_cons, List.zipIdx_nil, Nat.reduceAdd]; refine halt ?_ | refine yyp ?_; try refine s_bu ?_ ?_ <;> intro hb | refine yy ?_ | refine at_call 50 ?_; refine y_call (hc := c1) ?_ | refine at_nil ?_; refine z_nil qn12a_0 ?_ | refine tc_seq fun K hK => ?_ | refine tc_at 4 ?_; refine z_draw [11] qn12a_1 ?_ | apply_assumption -exfalso -symm); all_goals try refine unhalt ?_)
    (repeat' first | refine tr_at 17 ?_; (refine z_lit 2017 ?_) | refine tr_at 18 ?_; refine z_append0 2018 ?_ | refine yyp ?_; try refine s_bu ?_ ?_ <;> intro hb | refine yy ?_ | refine at_nil ?_; refine z_nil [0, 1, 2, 3, 8, 9] ?_ | refine tc_seq fun K hK => ?_ | apply_assumption -exfalso -symm)
    (refine y_endi ?_)
    ((repeat' first | refine tr_at 66 ?_; (refine tr_keep [0, 1, 4, 5, 6, 7, 9, 39, 57, 64, 65, 66] ?_); refine y_inline func52 ntmps52 results52 fun tm sy => ?_; simp only [slots, shift, zipPs, List.nil_append, List.cons_append, List.append_nil, List.map_cons, List.map_nil, List.zipIdx_cons, List.zipIdx_nil, Nat.reduceAdd]; refine halt ?_ | refine yyp ?_; try refine s_bu ?_ ?_ <;> intro hb | refine yy ?_ | refine at_nil ?_; refine z_nil qn12a_0 ?_ | refine tc_seq fun K hK => ?_ | refine tc_at 4 ?_; refine z_draw [11] qn12a_1 ?_ | apply_assumption -exfalso -symm); all_goals try refine unhalt ?_)
    (repeat' first | refine yyp ?_; try refine s_bu ?_ ?_ <;> intro hb | refine yy ?_ | refine at_nil ?_; refine z_nil [0, 2, 3, 4, 5, 6] ?_ | refine tc_seq fun K hK => ?_ | apply_assumption -exfalso -symm)
    (refine tc_ret (y_reti ?_))
    (repeat' first | refine yyp ?_; try refine s_bu ?_ ?_ <;> intro hb | refine at_nil ?_; refine z_nil qn12a_0 ?_ | refine tc_seq fun K hK => ?_ | refine tc_at 4 ?_; refine z_draw [11] qn12a_1 ?_ | apply_assumption -exfalso -symm)
    refine tc_wk (wk_hbox_in (n := 900) (q := 902) (i := 115) rfl rfl rfl rfl (by (repeat (first | exact Drop.nil | apply Drop.drop rfl | apply Drop.take rfl)); fail_if_success intros) rfl) ?_
    (refine tc_ret (y_rete ⟨?_, rfl⟩))
    rfl
end
section
def qn12b_0 : List Nat := [0, 1, 4, 5, 6, 7, 9, 39, 57]
def qn12b_1 : Plan := lin [0, 4, 28, 32, 9, 14, 16, 20, 24, 36, 40, 47, 48]
open Go.RowKit Nd
attribute [local irreducible] TR TC
theorem ntx_ack (gl : List (Nat × List D)) (k : Nat) (hk : k < 4) (link : Int) (buf out mem : List UInt8) (r : Option (Int × Int)) (rx : List Bool) (data : Option UInt8) (busy : Bool) (inb : Option UInt8)  (hok : Se.ok ⟨[], true, data, rx⟩) :
    FnE prog gl 17 [.ptr 900 0, .d (.int .i64 k)] (NH ⟨link, buf, out, mem, at4 k ⟨⟨[], true, data, rx⟩, busy, inb⟩, r⟩) (fun v H1 => v = .tup [.d (.int .i64 (if (Se.next ⟨[], true, data, rx⟩).2 then 1 else 0)), .d (txA k ⟨[], true, data, rx⟩)] ∧ H1 = NH ⟨link, buf, out, mem, at4 k ⟨(Se.next ⟨[], true, data, rx⟩).1, busy, inb⟩, r⟩) := by
  have c0 := noff_fn gl k hk link buf out mem ⟨⟨[], true, data, rx⟩, busy, inb⟩ r
  have c1 := stx_fn gl ⟨[], true, data, rx⟩ hok
  clear hok
  generalize num rx = nrx at *
  simp only [dSe, Se.next, num, bD_none, bD_some, rest_len, Option.isSome_none, Option.isSome_some, List.length_nil, List.length_cons, Bool.false_eq_true, if_true, if_false] at c1
  rcases four_k hk with rfl | rfl | rfl | rfl
  all_goals
    (refine y_entere func17 ntmps17 results17 fun w M E b0 => ?_)
    ((repeat' first | refine tr_at 9 ?_; refine y_callE (hc := c0) ?_; try refine s_bu ?_ ?_ <;> intro hb | refine tc_at 3 ?_; refine halt ?_ | refine yyp ?_; try refine s_bu ?_ ?_ <;> intro hb | refine yy ?_ | refine at_nil ?_; refine z_nil qn12b_0 ?_ | refine tc_seq fun K hK => ?_ | refine tc_at 4 ?_; refine z_draw [11] qn12b_1 ?_ | apply_assumption -exfalso -symm); all_goals try refine unhalt ?_)
    refine tc_wk (wk_hbox_out (n := 900) (q := 902) rfl rfl) ?_
    simp only [nodeC, coreD, four_links0, four_links1, four_links2, four_links3, lkD, seD, dSe, lk0, se0, num, bD_none, bD_some, Option.isSome_none, Option.isSome_some, List.length_nil, List.length_cons, List.map_append, List.map_cons, List.map_nil, List.cons_append, List.nil_append, List.append_assoc, List.set_cons_succ, List.set_cons_zero]
    ((repeat' first | refine tr_at 6 ?_; (refine z_alloc 1006 ?_) | refine tr_at 63 ?_; (refine tr_keep [0, 1, 4, 5, 6, 7, 9, 39, 57, 58, 60, 62] ?_); refine y_inline func51 ntmps51 results51 fun tm sy => ?_; simp only [slots, shift, zipPs, List.nil_append, List.cons_append, List.append_nil, List.map_cons, List.map_nil, List.zipIdx_cons, List.zipIdx_nil, Nat.reduceAdd]; refine halt ?_ | refine yyp ?_; try refine s_bu ?_ ?_ <;> intro hb | refine yy ?_ | refine at_call 50 ?_; refine y_call (hc := c1) ?_ | refine at_nil ?_; refine z_nil qn12b_0 ?_ | refine tc_seq fun K hK => ?_ | refine tc_at 4 ?_; refine z_draw [11] qn12b_1 ?_ | apply_assumption -exfalso -symm); all_goals try refine unhalt ?_)
    (repeat' first | refine tr_at 17 ?_; (refine z_lit 2017 ?_) | refine tr_at 18 ?_; refine z_append0 2018 ?_ | refine yyp ?_; try refine s_bu ?_ ?_ <;> intro hb | refine yy ?_ | refine at_nil ?_; refine z_nil [0, 1, 2, 3, 8, 9] ?_ | refine tc_seq fun K hK => ?_ | apply_assumption -exfalso -symm)
    (refine y_endi ?_)
    ((repeat' first | refine tr_at 66 ?_; (refine tr_keep [0, 1, 4, 5, 6, 7, 9, 39, 57, 64, 65, 66] ?_); refine y_inline func52 ntmps52 results52 fun tm sy => ?_; simp only [slots, shift, zipPs, List.nil_append, List.cons_append, List.append_nil, List.map_cons, List.map_nil, List.zipIdx_cons, List.zipIdx_nil, Nat.reduceAdd]; refine halt ?_ | refine yyp ?_; try refine s_bu ?_ ?_ <;> intro hb | refine yy ?_ | refine at_nil ?_; refine z_nil qn12b_0 ?_ | refine tc_seq fun K hK => ?_ | refine tc_at 4 ?_; refine z_draw [11] qn12b_1 ?_ | apply_assumption -exfalso -symm); all_goals try refine unhalt ?_)
    (repeat' first | refine yyp ?_; try refine s_bu ?_ ?_ <;> intro hb | refine yy ?_ | refine at_nil ?_; refine z_nil [0, 2, 3, 4, 5, 6] ?_ | refine tc_seq fun K hK => ?_ | apply_assumption -exfalso -symm)
    (refine tc_ret (y_reti ?_))
    (repeat' first | refine yyp ?_; try refine s_bu ?_ ?_ <;> intro hb | refine at_nil ?_; refine z_nil qn12b_0 ?_ | refine tc_seq fun K hK => ?_ | refine tc_at 4 ?_; refine z_draw [11] qn12b_1 ?_ | apply_assumption -exfalso -symm)
    refine tc_wk (wk_hbox_in (n := 900) (q := 902) (i := 115) rfl rfl rfl rfl (by (repeat (first | exact Drop.nil | apply Drop.drop rfl | apply Drop.take rfl)); fail_if_success intros) rfl) ?_
    (refine tc_ret (y_rete ⟨?_, rfl⟩))
    rfl
end
section
def qn12c_0 : List Nat := [0, 1, 4, 5, 6, 7, 9, 39, 57]
def qn12c_1 : Plan := lin [0, 4, 28, 32, 9, 14, 16, 20, 24, 36, 40, 47, 48]
open Go.RowKit Nd
attribute [local irreducible] TR TC
theorem ntx_none (gl : List (Nat × List D)) (k : Nat) (hk : k < 4) (link : Int) (buf out mem : List UInt8) (r : Option (Int × Int)) (rx : List Bool) (busy : Bool) (inb : Option UInt8)  (hok : Se.ok ⟨[], false, none, rx⟩) :
    FnE prog gl 17 [.ptr 900 0, .d (.int .i64 k)] (NH ⟨link, buf, out, mem, at4 k ⟨⟨[], false, none, rx⟩, busy, inb⟩, r⟩) (fun v H1 => v = .tup [.d (.int .i64 (if (Se.next ⟨[], false, none, rx⟩).2 then 1 else 0)), .d (txA k ⟨[], false, none, rx⟩)] ∧ H1 = NH ⟨link, buf, out, mem, at4 k ⟨(Se.next ⟨[], false, none, rx⟩).1, busy, inb⟩, r⟩) := by
  have c0 := noff_fn gl k hk link buf out mem ⟨⟨[], false, none, rx⟩, busy, inb⟩ r
  have c1 := stx_fn gl ⟨[], false, none, rx⟩ hok
  clear hok
  generalize num rx = nrx at *
  simp only [dSe, Se.next, num, bD_none, bD_some, rest_len, Option.isSome_none, Option.isSome_some, List.length_nil, List.length_cons, Bool.false_eq_true, if_true, if_false] at c1
  rcases four_k hk with rfl | rfl | rfl | rfl
  all_goals
    (refine y_entere func17 ntmps17 results17 fun w M E b0 => ?_)
    ((repeat' first | refine tr_at 9 ?_; refine y_callE (hc := c0) ?_; try refine s_bu ?_ ?_ <;> intro hb | refine tc_at 3 ?_; refine halt ?_ | refine yyp ?_; try refine s_bu ?_ ?_ <;> intro hb | refine yy ?_ | refine at_nil ?_; refine z_nil qn12c_0 ?_ | refine tc_seq fun K hK => ?_ | refine tc_at 4 ?_; refine z_draw [11] qn12c_1 ?_ | apply_assumption -exfalso -symm); all_goals try refine unhalt ?_)
    refine tc_wk (wk_hbox_out (n := 900) (q := 902) rfl rfl) ?_
    simp only [nodeC, coreD, four_links0, four_links1, four_links2, four_links3, lkD, seD, dSe, lk0, se0, num, bD_none, bD_some, Option.isSome_none, Option.isSome_some, List.length_nil, List.length_cons, List.map_append, List.map_cons, List.map_nil, List.cons_append, List.nil_append, List.append_assoc, List.set_cons_succ, List.set_cons_zero]
    ((repeat' first | refine tr_at 6 ?_; (refine z_alloc 1006 ?_) | refine tr_at 66 ?_; (refine tr_keep [0, 1, 4, 5, 6, 7, 9, 39, 57, 64, 65, 66] ?_); refine y_inline func52 ntmps52 results52 fun tm sy => ?_; simp only [slots, shift, zipPs, List.nil_append, List.cons_append, List.append_nil, List.map_cons, List.map_nil, List.zipIdx_cons, List.zipIdx_nil, Nat.reduceAdd]; refine halt ?_ | refine yyp ?_; try refine s_bu ?_ ?_ <;> intro hb | refine yy ?_ | refine at_call 50 ?_; refine y_call (hc := c1) ?_ | refine at_nil ?_; refine z_nil qn12c_0 ?_ | refine tc_seq fun K hK => ?_ | refine tc_at 4 ?_; refine z_draw [11] qn12c_1 ?_ | apply_assumption -exfalso -symm); all_goals try refine unhalt ?_)
    (repeat' first | refine yyp ?_; try refine s_bu ?_ ?_ <;> intro hb | refine yy ?_ | refine at_nil ?_; refine z_nil [0, 2, 3, 4, 5, 6] ?_ | refine tc_seq fun K hK => ?_ | apply_assumption -exfalso -symm)
    (refine tc_ret (y_reti ?_))
    (repeat' first | refine yyp ?_; try refine s_bu ?_ ?_ <;> intro hb | refine at_nil ?_; refine z_nil qn12c_0 ?_ | refine tc_seq fun K hK => ?_ | refine tc_at 4 ?_; refine z_draw [11] qn12c_1 ?_ | apply_assumption -exfalso -symm)
    refine tc_wk (wk_hbox_in (n := 900) (q := 902) (i := 115) rfl rfl rfl rfl (by (repeat (first | exact Drop.nil | apply Drop.drop rfl | apply Drop.take rfl)); fail_if_success intros) rfl) ?_
    (refine tc_ret (y_rete ⟨?_, rfl⟩))
    rfl
end
section
def qn12d_0 : List Nat := [0, 1, 4, 5, 6, 7, 9, 39, 57]
def qn12d_1 : Plan := lin [0, 4, 28, 32, 9, 14, 16, 20, 24, 36, 40, 47, 48]
open Go.RowKit Nd
attribute [local irreducible] TR TC
theorem ntx_data (gl : List (Nat × List D)) (k : Nat) (hk : k < 4) (link : Int) (buf out mem : List UInt8) (r : Option (Int × Int)) (rx : List Bool) (busy : Bool) (inb : Option UInt8) (b : UInt8) (hok : Se.ok ⟨[], false, some b, rx⟩) :
    FnE prog gl 17 [.ptr 900 0, .d (.int .i64 k)] (NH ⟨link, buf, out, mem, at4 k ⟨⟨[], false, some b, rx⟩, busy, inb⟩, r⟩) (fun v H1 => v = .tup [.d (.int .i64 (if (Se.next ⟨[], false, some b, rx⟩).2 then 1 else 0)), .d (txA k ⟨[], false, some b, rx⟩)] ∧ H1 = NH ⟨link, buf, out, mem, at4 k ⟨(Se.next ⟨[], false, some b, rx⟩).1, busy, inb⟩, r⟩) := by
  have c0 := noff_fn gl k hk link buf out mem ⟨⟨[], false, some b, rx⟩, busy, inb⟩ r
  have c1 := stx_fn gl ⟨[], false, some b, rx⟩ hok
  clear hok
  generalize num rx = nrx at *
  have hb : b.toNat < 256 := b.toNat_lt
  simp only [dSe, Se.next, num, bD_none, bD_some, rest_len, Option.isSome_none, Option.isSome_some, List.length_nil, List.length_cons, Bool.false_eq_true, if_true, if_false] at c1
  rcases four_k hk with rfl | rfl | rfl | rfl
  all_goals
    (refine y_entere func17 ntmps17 results17 fun w M E b0 => ?_)
    ((repeat' first | refine tr_at 9 ?_; refine y_callE (hc := c0) ?_; try refine s_bu ?_ ?_ <;> intro hb | refine tc_at 3 ?_; refine halt ?_ | refine yyp ?_; try refine s_bu ?_ ?_ <;> intro hb | refine yy ?_ | refine at_nil ?_; refine z_nil qn12d_0 ?_ | refine tc_seq fun K hK => ?_ | refine tc_at 4 ?_; refine z_draw [11] qn12d_1 ?_ | apply_assumption -exfalso -symm); all_goals try refine unhalt ?_)
    refine tc_wk (wk_hbox_out (n := 900) (q := 902) rfl rfl) ?_
    simp only [nodeC, coreD, four_links0, four_links1, four_links2, four_links3, lkD, seD, dSe, lk0, se0, num, bD_none, bD_some, Option.isSome_none, Option.isSome_some, List.length_nil, List.length_cons, List.map_append, List.map_cons, List.map_nil, List.cons_append, List.nil_append, List.append_assoc, List.set_cons_succ, List.set_cons_zero]
    ((repeat' first | refine tr_at 6 ?_; (refine z_alloc 1006 ?_) | refine tr_at 46 ?_; (refine tr_keep [0, 1, 4, 5, 6, 7, 9, 39, 40, 42, 45, 57] ?_); refine y_inline func51 ntmps51 results51 fun tm sy => ?_; simp only [slots, shift, zipPs, List.nil_append, List.cons_append, List.append_nil, List.map_cons, List.map_nil, List.zipIdx_cons, List.zipIdx_nil, Nat.reduceAdd]; refine halt ?_ | refine yyp ?_; try refine s_bu ?_ ?_ <;> intro hb | refine yy ?_ | refine at_call 50 ?_; refine y_call (hc := c1) ?_ | refine at_nil ?_; refine z_nil qn12d_0 ?_ | refine tc_seq fun K hK => ?_ | refine tc_at 4 ?_; refine z_draw [11] qn12d_1 ?_ | apply_assumption -exfalso -symm); all_goals try refine unhalt ?_)
    (repeat' first | refine tr_at 17 ?_; (refine z_lit 2017 ?_) | refine tr_at 18 ?_; refine z_append0 2018 ?_ | refine yyp ?_; try refine s_bu ?_ ?_ <;> intro hb | refine yy ?_ | refine at_nil ?_; refine z_nil [0, 1, 2, 3, 8, 9] ?_ | refine tc_seq fun K hK => ?_ | apply_assumption -exfalso -symm)
    (refine y_endi ?_)
    ((repeat' first | refine tr_at 63 ?_; (refine tr_keep [0, 1, 4, 5, 6, 7, 9, 39, 57, 58, 60, 62] ?_); refine y_inline func51 ntmps51 results51 fun tm sy => ?_; simp only [slots, shift, zipPs, List.nil_append, List.cons_append, List.append_nil, List.map_cons, List.map_nil, List.zipIdx_cons, List.zipIdx_nil, Nat.reduceAdd]; refine halt ?_ | refine yyp ?_; try refine s_bu ?_ ?_ <;> intro hb | refine yy ?_ | refine at_nil ?_; refine z_nil qn12d_0 ?_ | refine tc_seq fun K hK => ?_ | refine tc_at 4 ?_; refine z_draw [11] qn12d_1 ?_ | apply_assumption -exfalso -symm); all_goals try refine unhalt ?_)
    (repeat' first | refine tr_at 17 ?_; (refine z_lit 3017 ?_) | refine yyp ?_; try refine s_bu ?_ ?_ <;> intro hb | refine yy ?_ | (refine at_append ?_; first | (refine z_append (fun kv => ?_)) | (refine z_append_suf (fun sx sp kv hsx hsp hsl => ?_))) | refine at_nil ?_; refine z_nil [0, 1, 2, 3, 8, 9] ?_ | refine tc_seq fun K hK => ?_ | apply_assumption -exfalso -symm)
    (refine y_endi ?_)
    ((repeat' first | refine tr_at 66 ?_; (refine tr_keep [0, 1, 4, 5, 6, 7, 9, 39, 57, 64, 65, 66] ?_); refine y_inline func52 ntmps52 results52 fun tm sy => ?_; simp only [slots, shift, zipPs, List.nil_append, List.cons_append, List.append_nil, List.map_cons, List.map_nil, List.zipIdx_cons, List.zipIdx_nil, Nat.reduceAdd]; refine halt ?_ | refine yyp ?_; try refine s_bu ?_ ?_ <;> intro hb | refine yy ?_ | refine at_nil ?_; refine z_nil qn12d_0 ?_ | refine tc_seq fun K hK => ?_ | refine tc_at 4 ?_; refine z_draw [11] qn12d_1 ?_ | apply_assumption -exfalso -symm); all_goals try refine unhalt ?_)
    (repeat' first | refine yyp ?_; try refine s_bu ?_ ?_ <;> intro hb | refine yy ?_ | refine at_nil ?_; refine z_nil [0, 2, 3, 4, 5, 6] ?_ | refine tc_seq fun K hK => ?_ | apply_assumption -exfalso -symm)
    (refine tc_ret (y_reti ?_))
    (repeat' first | refine yyp ?_; try refine s_bu ?_ ?_ <;> intro hb | refine at_nil ?_; refine z_nil qn12d_0 ?_ | refine tc_seq fun K hK => ?_ | refine tc_at 4 ?_; refine z_draw [11] qn12d_1 ?_ | apply_assumption -exfalso -symm)
    refine tc_wk (wk_hbox_in (n := 900) (q := 902) (i := 115) rfl rfl rfl rfl (by (repeat (first | exact Drop.nil | apply Drop.drop rfl | apply Drop.take rfl)); fail_if_success intros) rfl) ?_
    (refine tc_ret (y_rete ⟨?_, rfl⟩))
    rfl
end
section
open Go.RowKit Nd
theorem ntx_fn (gl : List (Nat × List D)) (k : Nat) (hk : k < 4) (link : Int) (buf out mem : List UInt8) (l : Lk) (r : Option (Int × Int)) (hok : l.wire.ok) :
    FnE prog gl 17 [.ptr 900 0, .d (.int .i64 k)] (NH ⟨link, buf, out, mem, at4 k l, r⟩) (fun v H1 => v = .tup [.d (.int .i64 (if l.wire.next.2 then 1 else 0)), .d (txA k l.wire)] ∧ H1 = NH ⟨link, buf, out, mem, at4 k { l with wire := l.wire.next.1 }, r⟩) := by
  obtain ⟨⟨tx, ack, data, rx⟩, busy, inb⟩ := l
  cases tx with
  | cons b t => exact ntx_on gl k hk link buf out mem r rx ack data busy inb b t hok
  | nil =>
    cases ack with
    | true => exact ntx_ack gl k hk link buf out mem r rx data busy inb hok
    | false =>
      cases data with
      | none => exact ntx_none gl k hk link buf out mem r rx busy inb hok
      | some b => exact ntx_data gl k hk link buf out mem r rx busy inb b hok
end
end Go.Proofs.YtjhbglklcddekaaGreatDoor
