/- Parts: M1, M2, M3. -/
import Derived.Test.YtcblefmjacofgaaGreatDoorA8
import Derived.Test.YtcblefmjacofgaaGreatDoorA5
set_option linter.all false
set_option linter.unusedVariables false
set_option linter.unusedSimpArgs false
namespace Go.Proofs.YtcblefmjacofgaaGreatDoor
open Go.RowKit
def wordD (u : Int) : List D := [.int .u8 (u % 256), .int .u8 (u / 256 % 256), .int .u8 (u / 65536 % 256), .int .u8 (u / 16777216)]
theorem word_bytes (v : Int) : wordD (v % 4294967296) = (I.word v).map dByte := by
  unfold wordD I.word
  simp only [List.map_cons, List.map_nil, dByte, UInt8.toNat_ofNat', List.cons.injEq, D.int.injEq, true_and, and_true]
  refine ⟨?_, ?_, ?_, ?_⟩ <;> omega
attribute [local irreducible] TR TC
set_option maxRecDepth 100000 in
set_option maxHeartbeats 4000000 in
theorem ref_word_fn (gl : List (Nat × List D)) (v : Int) : FnD Tryz.prog gl 88 [.d (.int .i32 v)] (fun r => r = .d (.list 1 ((I.word v).map dByte))) := by
  rw [← word_bytes]
  have hw : IntKind.u32.wrap v = v % 4294967296 := IntKind.wrap_u32 v
  have h0 : 0 ≤ v % 4294967296 ∧ v % 4294967296 < 4294967296 := by omega
  generalize v % 4294967296 = u at hw h0 ⊢
  (refine y_enter Tryz.func88 Tryz.ntmps88 Tryz.results88 fun w M => ?_; simp only [slots, List.map_cons, List.map_nil, List.zipIdx_cons, List.zipIdx_nil, Nat.reduceAdd])
  ((repeat' (first | (refine tr_at 20 ?_; (refine z_lit 20 ?_)) | (refine tc_at 2 ?_; refine halt ?_) | (refine yyp ?_; (try refine s_bu ?_ ?_ <;> (intro hb; try simp only [decide_eq_true_eq, decide_eq_false_iff_not] at hb))) | (refine yy ?_) | (refine yy2 ?_ ?_ <;> (intro hcmp; try simp only [cmp] at hcmp)) | (refine at_nil ?_; refine z_nil [0, 2, 3, 4, 5, 6] ?_) | (refine tc_seq fun K hK => ?_) | (apply_assumption -exfalso -symm))); all_goals (try refine unhalt ?_))
  rw [hw]
  ((repeat' (first | (refine tr_at 20 ?_; (refine z_lit 20 ?_)) | (refine yyp ?_; (try refine s_bu ?_ ?_ <;> (intro hb; try simp only [decide_eq_true_eq, decide_eq_false_iff_not] at hb))) | (refine yy ?_) | (refine yy2 ?_ ?_ <;> (intro hcmp; try simp only [cmp] at hcmp)) | (refine at_nil ?_; refine z_nil [0, 2, 3, 4, 5, 6] ?_) | (refine tc_seq fun K hK => ?_) | (apply_assumption -exfalso -symm))); all_goals (try refine unhalt ?_))
  (refine tc_ret (y_ret ?_))
  rfl
set_option maxRecDepth 100000 in
set_option maxHeartbeats 4000000 in
theorem ref_word_o (gl : List (Nat × List D)) (v : Int) : FnE Tryz.prog gl 88 [.d (.int .i32 v)] [] (fun r H1 => r = .own 20 0 ∧ H1 = [(20, .row 5 1 true ((I.word v).map dByte) 0)]) := by
  rw [← word_bytes]
  have hw : IntKind.u32.wrap v = v % 4294967296 := IntKind.wrap_u32 v
  have h0 : 0 ≤ v % 4294967296 ∧ v % 4294967296 < 4294967296 := by omega
  generalize v % 4294967296 = u at hw h0 ⊢
  (refine y_entere Tryz.func88 Tryz.ntmps88 Tryz.results88 fun w M E b0 => ?_; simp only [slots, List.map_cons, List.map_nil, List.zipIdx_cons, List.zipIdx_nil, Nat.reduceAdd])
  ((repeat' (first | (refine tr_at 20 ?_; (refine z_lit 20 ?_)) | (refine tc_at 2 ?_; refine halt ?_) | (refine yyp ?_; (try refine s_bu ?_ ?_ <;> (intro hb; try simp only [decide_eq_true_eq, decide_eq_false_iff_not] at hb))) | (refine yy ?_) | (refine yy2 ?_ ?_ <;> (intro hcmp; try simp only [cmp] at hcmp)) | (refine at_nil ?_; refine z_nil [0, 2, 3, 4, 5, 6] ?_) | (refine tc_seq fun K hK => ?_) | (apply_assumption -exfalso -symm))); all_goals (try refine unhalt ?_))
  rw [hw]
  ((repeat' (first | (refine tr_at 20 ?_; (refine z_lit 20 ?_)) | (refine yyp ?_; (try refine s_bu ?_ ?_ <;> (intro hb; try simp only [decide_eq_true_eq, decide_eq_false_iff_not] at hb))) | (refine yy ?_) | (refine yy2 ?_ ?_ <;> (intro hcmp; try simp only [cmp] at hcmp)) | (refine at_nil ?_; refine z_nil [0, 2, 3, 4, 5, 6] ?_) | (refine tc_seq fun K hK => ?_) | (apply_assumption -exfalso -symm))); all_goals (try refine unhalt ?_))
  (refine tc_ret (y_orete ⟨?_, rfl⟩))
  rfl
set_option maxRecDepth 100000 in
set_option maxHeartbeats 4000000 in
theorem ref_boot_o (gl : List (Nat × List D)) : FnE Tryz.prog gl 40 [] [] (fun r H1 => r = .own 1 0 ∧ H1 = [(1, .row 5 1 true (I.bootB.map dByte) 0)]) := by
  (refine y_entere Tryz.func40 Tryz.ntmps40 Tryz.results40 fun w M E b0 => ?_; simp only [slots, List.map_cons, List.map_nil, List.zipIdx_cons, List.zipIdx_nil, Nat.reduceAdd])
  ((repeat' (first | (refine tr_at 1 ?_; (refine z_lit 1 ?_)) | (refine yyp ?_; (try refine s_bu ?_ ?_ <;> (intro hb; try simp only [decide_eq_true_eq, decide_eq_false_iff_not] at hb))) | (refine yy ?_) | (refine yy2 ?_ ?_ <;> (intro hcmp; try simp only [cmp] at hcmp)) | (refine at_nil ?_; refine z_nil [0, 1] ?_) | (refine tc_seq fun K hK => ?_) | (apply_assumption -exfalso -symm))); all_goals (try refine unhalt ?_))
  (refine tc_ret (y_orete ⟨?_, rfl⟩))
  rfl
set_option maxRecDepth 100000 in
set_option maxHeartbeats 4000000 in
theorem ref_one_fn (gl : List (Nat × List D)) (c : I.Cmd) (hw : c.Wf) (hm : I.mayC c = true) : FnD Tryz.prog gl 71 [.d (dCmd c)] (fun r => r = .d (dBytes (I.oneC c))) := by
  have w1 := ref_word_o gl (c.k : Int)
  have w2 := ref_word_fn gl c.ad
  have w3 := ref_word_fn gl c.to
  have w4 := ref_word_fn gl (c.b.length : Nat)
  have l1 : ∀ v, ((I.word v).map dByte).length = 4 := fun v => rfl
  have hk := hw.k
  have l11 := l1 (c.k : Int)
  have l12 := l1 c.ad
  have l13 := l1 c.to
  have l14 := l1 (c.b.length : Nat)
  have hb : c.b.length ≤ 65536 ∧ (c.k = 0 → c.b = []) := by
    unfold I.mayC at hm
    split at hm
    · simp only [Bool.and_eq_true, decide_eq_true_eq] at hm
      exact ⟨by omega, fun _ => List.eq_nil_of_length_eq_zero hm.2⟩
    · split at hm
      · simp only [Bool.and_eq_true, decide_eq_true_eq] at hm
        exact ⟨by omega, fun h => by omega⟩
      · split at hm
        · simp only [Bool.and_eq_true, decide_eq_true_eq] at hm
          exact ⟨by omega, fun h => by omega⟩
        · cases hm
  have key : (I.oneC c).map dByte = (I.word c.k).map dByte ++ (I.word c.ad).map dByte ++ (I.word (if c.k = 0 then c.to else (c.b.length : Nat))).map dByte ++ c.b.map dByte := by simp only [I.oneC, List.map_append]
  have k0 : c.k = 0 → (I.oneC c).map dByte = (I.word c.k).map dByte ++ (I.word c.ad).map dByte ++ (I.word c.to).map dByte := fun h => by rw [key, if_pos h, hb.2 h]; simp
  have k1 : ¬ c.k = 0 → (I.oneC c).map dByte = (I.word c.k).map dByte ++ (I.word c.ad).map dByte ++ (I.word (c.b.length : Nat)).map dByte ++ c.b.map dByte := fun h => by rw [key, if_neg h]
  clear key
  obtain ⟨hb1, _⟩ := hb
  unfold dCmd dBytes
  generalize (I.oneC c).map dByte = out at *
  generalize (I.word (c.k : Int)).map dByte = q1 at *
  generalize (I.word c.ad).map dByte = q2 at *
  generalize (I.word c.to).map dByte = q3 at *
  generalize (I.word ((c.b.length : Nat) : Int)).map dByte = q4 at *
  clear hm hw l1
  (refine y_enter Tryz.func71 Tryz.ntmps71 Tryz.results71 fun w M => ?_; simp only [slots, List.map_cons, List.map_nil, List.zipIdx_cons, List.zipIdx_nil, Nat.reduceAdd])
  ((repeat' (first | (refine tr_at 1 ?_; (refine z_box 1 ?_)) | (refine tr_at 7 ?_; refine y_callG (hc := w1) ?_) | (refine tr_at 10 ?_; refine z_call (hc := w2) ?_; rintro _ rfl) | (refine tr_at 11 ?_; refine z_append0 11 ?_) | (refine tr_at 18 ?_; refine z_call (hc := w3) ?_; rintro _ rfl) | (refine tr_at 19 ?_; refine z_append0 19 ?_) | (refine tr_at 25 ?_; refine z_call (hc := w4) ?_; rintro _ rfl) | (refine tr_at 26 ?_; refine z_append0 26 ?_) | (refine tr_at 30 ?_; refine z_append0 30 ?_) | (refine yyp ?_; (try refine s_bu ?_ ?_ <;> (intro hb; try simp only [decide_eq_true_eq, decide_eq_false_iff_not] at hb))) | (refine yy ?_) | (refine yy2 ?_ ?_ <;> (intro hcmp; try simp only [cmp] at hcmp)) | (refine at_append ?_; first | (refine z_append (fun kv => ?_)) | (refine z_append_suf (fun sx sp kv hsx hsp hsl => ?_))) | (refine at_nil ?_; refine z_nil [0, 1, 2, 3, 4, 5, 6, 14] ?_) | (refine tc_seq fun K hK => ?_) | (refine tc_at 1 ?_; refine z_draw [7] (lin [0, 16, 5, 8, 21, 14, 26, 31, 32]) ?_) | (apply_assumption -exfalso -symm))); all_goals (try refine unhalt ?_))
  · (refine tc_ret (y_ret ?_))
    rw [k0 (by omega)]
    rfl
  · (refine tc_ret (y_ret ?_))
    rw [k1 (by omega)]
    rfl
set_option maxRecDepth 100000 in
set_option maxHeartbeats 8000000 in
theorem ref_put38_fn (gl : List (Nat × List D)) (l : List I.Cmd) (hw : ∀ c ∈ l, c.Wf) : FnD Tryz.prog gl 39 [.d (.list 4 (l.map dCmd))] (fun r => r = .tup [.d (dBytes (I.putC l).1), .d (.int .i64 (I.putC l).2)]) := by
  have hst : ∀ k (h : k < l.length), I.sizeC (l.take (k + 1)) = I.sizeC (l.take k) + 12 + l[k].b.length := fun k h => by
    rw [← get_take _ h, I.sizeC_append]
    simp [I.sizeC]
    omega
  have hsl : ∀ k, I.sizeC (l.take k) ≤ I.sizeC l := fun k => by
    conv => rhs; rw [← List.take_append_drop k l]
    rw [I.sizeC_append]
    omega
  (refine y_enter Tryz.func39 Tryz.ntmps39 Tryz.results39 fun w M => ?_; simp only [slots, List.map_cons, List.map_nil, List.zipIdx_cons, List.zipIdx_nil, Nat.reduceAdd])
  refine tc_small 0 rfl fun hn => ?_
  rw [List.length_map] at hn
  ((repeat' (first | (refine tr_at 50 ?_; refine z_append0 50 ?_) | (refine yyp ?_; (try refine s_bu ?_ ?_ <;> (intro hb; try simp only [decide_eq_true_eq, decide_eq_false_iff_not] at hb))) | (refine yy ?_) | (refine yy2 ?_ ?_ <;> (intro hcmp; try simp only [cmp] at hcmp)) | (refine at_append ?_; first | (refine z_append (fun kv => ?_)) | (refine z_append_suf (fun sx sp kv hsx hsp hsl => ?_))) | (refine at_nil ?_; refine z_nil [0, 2, 3, 4, 5, 6, 7, 8, 12, 20, 24, 37, 41] ?_) | (refine tc_seq fun K hK => ?_) | (apply_assumption -exfalso -symm))); all_goals (try refine unhalt ?_))
  refine y_famx [2, 3, 4, 9, 10, 11, 12, 13, 14, 15, 16, 17, 18, 19, 20] [] (fun k : Nat => [(4, .d (.int .i64 k))]) (fun _ => []) (fun k => k ≤ l.length ∧ (l.take k).all I.mayC = true) (fun k => l.length - k) 0 ⟨Nat.zero_le _, rfl⟩  fun k ⟨hk, hall⟩ => ?_
  dsimp only [List.cons_append, List.nil_append] at hk hall ⊢
  rcases Nat.lt_or_ge k l.length with hkl | hkl
  · have hm := ref_may38_fn gl l[k] (hw _ (List.getElem_mem hkl))
    have hget : (l.map dCmd)[k]? = some (dCmd l[k]) := by rw [List.getElem?_map, List.getElem?_eq_getElem hkl]; rfl
    cases hmk : I.mayC l[k] with
    | true =>
      rw [hmk] at hm
      ((repeat' (first | (refine tr_at 50 ?_; refine z_append0 50 ?_) | (refine yyp ?_; (try refine s_bu ?_ ?_ <;> (intro hb; try simp only [decide_eq_true_eq, decide_eq_false_iff_not] at hb))) | (refine yy ?_) | (refine yy2 ?_ ?_ <;> (intro hcmp; try simp only [cmp] at hcmp)) | (refine at_call 70 ?_; refine y_call (hc := (hm)) ?_; (try refine s_bu ?_ ?_ <;> (intro hb; try simp only [decide_eq_true_eq, decide_eq_false_iff_not] at hb))) | (refine at_append ?_; first | (refine z_append (fun kv => ?_)) | (refine z_append_suf (fun sx sp kv hsx hsp hsl => ?_))) | (refine at_nil ?_; refine z_nil [0, 2, 3, 4, 5, 6, 7, 8, 12, 20, 24, 37, 41] ?_) | (refine tc_seq fun K hK => ?_) | (apply_assumption -exfalso -symm))); all_goals (try refine unhalt ?_))
      refine ⟨k + 1, ⟨by omega, ?_⟩, by omega, y_wk⟩
      rw [← get_take _ hkl, List.all_append, hall]
      simp [hmk]
    | false =>
      rw [hmk] at hm
      ((repeat' (first | (refine tr_at 50 ?_; refine z_append0 50 ?_) | (refine yyp ?_; (try refine s_bu ?_ ?_ <;> (intro hb; try simp only [decide_eq_true_eq, decide_eq_false_iff_not] at hb))) | (refine yy ?_) | (refine yy2 ?_ ?_ <;> (intro hcmp; try simp only [cmp] at hcmp)) | (refine at_call 70 ?_; refine y_call (hc := (hm)) ?_; (try refine s_bu ?_ ?_ <;> (intro hb; try simp only [decide_eq_true_eq, decide_eq_false_iff_not] at hb))) | (refine at_append ?_; first | (refine z_append (fun kv => ?_)) | (refine z_append_suf (fun sx sp kv hsx hsp hsl => ?_))) | (refine at_nil ?_; refine z_nil [0, 2, 3, 4, 5, 6, 7, 8, 12, 20, 24, 37, 41] ?_) | (refine tc_seq fun K hK => ?_) | (apply_assumption -exfalso -symm))); all_goals (try refine unhalt ?_))
      (refine tc_ret (y_ret ?_))
      unfold I.putC
      rw [if_neg (fun h => by have := List.all_eq_true.1 h _ (List.getElem_mem hkl); rw [hmk] at this; cases this)]
      rfl
  have hke : k = l.length := by omega
  subst hke
  rw [List.take_length] at hall
  ((repeat' (first | (refine tr_at 50 ?_; refine z_append0 50 ?_) | (refine yyp ?_; (try refine s_bu ?_ ?_ <;> (intro hb; try simp only [decide_eq_true_eq, decide_eq_false_iff_not] at hb))) | (refine yy ?_) | (refine yy2 ?_ ?_ <;> (intro hcmp; try simp only [cmp] at hcmp)) | (refine at_append ?_; first | (refine z_append (fun kv => ?_)) | (refine z_append_suf (fun sx sp kv hsx hsp hsl => ?_))) | (refine at_nil ?_; refine z_nil [0, 2, 3, 4, 5, 6, 7, 8, 12, 20, 24, 37, 41] ?_) | (refine tc_seq fun K hK => ?_) | (apply_assumption -exfalso -symm))); all_goals (try refine unhalt ?_))
  refine y_famx [2, 3, 5, 6, 21, 22, 23, 24, 25, 26, 27, 28, 29, 30, 31, 32, 33, 34, 35, 36, 37] [] (fun k : Nat => [(6, .d (.int .i64 k)), (5, .d (.int .i64 (I.sizeC (l.take k) : Nat)))]) (fun _ => []) (fun k => k ≤ l.length ∧ I.sizeC (l.take k) ≤ 1048576) (fun k => l.length - k) 0 ⟨Nat.zero_le _, by simp [I.sizeC]⟩  fun k ⟨hk, hsk⟩ => ?_
  dsimp only [List.cons_append, List.nil_append] at hk hsk ⊢
  rcases Nat.lt_or_ge k l.length with hkl | hkl
  · have hget : (l.map dCmd)[k]? = some (.agg [.int .u8 l[k].k, .int .i32 l[k].ad, .int .i32 l[k].to, .list 1 (l[k].b.map dByte)]) := by rw [List.getElem?_map, List.getElem?_eq_getElem hkl]; rfl
    have hs := hst k hkl
    have hs2 := hsl (k + 1)
    have hbl : l[k].b.length ≤ 65536 := by
      have hm := List.all_eq_true.1 hall _ (List.getElem_mem hkl)
      unfold I.mayC at hm
      split at hm
      · simp only [Bool.and_eq_true, decide_eq_true_eq] at hm; omega
      · split at hm
        · simp only [Bool.and_eq_true, decide_eq_true_eq] at hm; omega
        · split at hm
          · simp only [Bool.and_eq_true, decide_eq_true_eq] at hm; omega
          · cases hm
    ((repeat' (first | (refine tr_at 50 ?_; refine z_append0 50 ?_) | (refine yyp ?_; (try refine s_bu ?_ ?_ <;> (intro hb; try simp only [decide_eq_true_eq, decide_eq_false_iff_not] at hb))) | (refine yy ?_) | (refine yy2 ?_ ?_ <;> (intro hcmp; try simp only [cmp] at hcmp)) | (refine at_append ?_; first | (refine z_append (fun kv => ?_)) | (refine z_append_suf (fun sx sp kv hsx hsp hsl => ?_))) | (refine at_nil ?_; refine z_nil [0, 2, 3, 4, 5, 6, 7, 8, 12, 20, 24, 37, 41] ?_) | (refine tc_seq fun K hK => ?_) | (apply_assumption -exfalso -symm))); all_goals (try refine unhalt ?_))
    · (refine tc_ret (y_ret ?_))
      unfold I.putC
      rw [if_pos hall, if_neg (by omega)]
      rfl
    · refine ⟨k + 1, ⟨by omega, by omega⟩, by omega, ?_⟩
      rw [hs]
      exact y_wk
  have hke : k = l.length := by omega
  subst hke
  rw [List.take_length] at hsk
  ((repeat' (first | (refine tr_at 50 ?_; refine z_append0 50 ?_) | (refine yyp ?_; (try refine s_bu ?_ ?_ <;> (intro hb; try simp only [decide_eq_true_eq, decide_eq_false_iff_not] at hb))) | (refine yy ?_) | (refine yy2 ?_ ?_ <;> (intro hcmp; try simp only [cmp] at hcmp)) | (refine at_append ?_; first | (refine z_append (fun kv => ?_)) | (refine z_append_suf (fun sx sp kv hsx hsp hsl => ?_))) | (refine at_nil ?_; refine z_nil [0, 2, 3, 4, 5, 6, 7, 8, 12, 20, 24, 37, 41] ?_) | (refine tc_seq fun K hK => ?_) | (apply_assumption -exfalso -symm))); all_goals (try refine unhalt ?_))
  refine tc_row (t := 7) (e := 5) (sz := 1) rfl rfl ?_
  refine y_famx (ι := Nat × Nat) [7, 8, 38, 39, 40, 41, 42, 43, 44, 45, 46, 47, 48, 49, 50] [7] (fun x => [(8, .d (.int .i64 x.1)), (7, .own 7 x.2)]) (fun x => [(7, .row 5 1 true (((l.take x.1).flatMap I.oneC).map dByte) x.2)]) (fun x => x.1 ≤ l.length) (fun x => l.length - x.1) (0, 0) (Nat.zero_le _)  fun ⟨k, ver⟩ hk => ?_
  dsimp only [List.cons_append, List.nil_append] at hk ⊢
  rcases Nat.lt_or_ge k l.length with hkl | hkl
  · have hget : (l.map dCmd)[k]? = some (dCmd l[k]) := by rw [List.getElem?_map, List.getElem?_eq_getElem hkl]; rfl
    have h1 := ref_one_fn gl l[k] (hw _ (List.getElem_mem hkl)) (List.all_eq_true.1 hall _ (List.getElem_mem hkl))
    have e1 : ((l.take k).flatMap I.oneC).length ≤ 1048576 := by rw [I.ones_length]; have := hsl k; omega
    have e2 : (I.oneC l[k]).length ≤ 1048576 := by
      rw [I.oneC_length]
      have := hst k hkl
      have := hsl (k + 1)
      omega
    have e3 : (l.take (k + 1)).flatMap I.oneC = (l.take k).flatMap I.oneC ++ I.oneC l[k] := by rw [← get_take _ hkl, List.flatMap_append]; simp
    unfold dBytes at h1
    generalize I.oneC l[k] = bs at *
    ((repeat' (first | (refine tr_at 50 ?_; refine z_append0 50 ?_) | (refine yyp ?_; (try refine s_bu ?_ ?_ <;> (intro hb; try simp only [decide_eq_true_eq, decide_eq_false_iff_not] at hb))) | (refine yy ?_) | (refine yy2 ?_ ?_ <;> (intro hcmp; try simp only [cmp] at hcmp)) | (refine at_call 71 ?_; refine y_call (hc := (h1)) ?_) | (refine at_append ?_; first | (refine z_append (fun kv => ?_)) | (refine z_append_suf (fun sx sp kv hsx hsp hsl => ?_))) | (refine at_nil ?_; refine z_nil [0, 2, 3, 4, 5, 6, 7, 8, 12, 20, 24, 37, 41] ?_) | (refine tc_seq fun K hK => ?_) | (apply_assumption -exfalso -symm))); all_goals (try refine unhalt ?_))
    refine ⟨(k + 1, kv), by dsimp only; omega, by dsimp only; omega, ?_⟩
    dsimp only
    rw [e3, List.map_append]
    exact y_wk
  · have hke : k = l.length := by omega
    subst hke
    rw [List.take_length]
    ((repeat' (first | (refine tr_at 50 ?_; refine z_append0 50 ?_) | (refine yyp ?_; (try refine s_bu ?_ ?_ <;> (intro hb; try simp only [decide_eq_true_eq, decide_eq_false_iff_not] at hb))) | (refine yy ?_) | (refine yy2 ?_ ?_ <;> (intro hcmp; try simp only [cmp] at hcmp)) | (refine at_append ?_; first | (refine z_append (fun kv => ?_)) | (refine z_append_suf (fun sx sp kv hsx hsp hsl => ?_))) | (refine at_nil ?_; refine z_nil [0, 2, 3, 4, 5, 6, 7, 8, 12, 20, 24, 37, 41] ?_) | (refine tc_seq fun K hK => ?_) | (apply_assumption -exfalso -symm))); all_goals (try refine unhalt ?_))
    (refine tc_ret (y_ret ?_))
    unfold I.putC
    rw [if_pos hall, if_pos hsk]
    rfl
end Go.Proofs.YtcblefmjacofgaaGreatDoor
namespace Go.Proofs.YtcblefmjacofgaaGreatDoor
open Go.RowKit
attribute [local irreducible] TR TC
set_option maxRecDepth 100000 in
set_option maxHeartbeats 8000000 in
theorem ref_check_fn (gl : List (Nat × List D)) (t : To.Topo) (node size : Int) (l : List Im.Obj) :
    FnD Tryz.prog gl 18 [.d (dTopo t), .d (.int .i64 node), .d (.int .i64 size), .d (.list 4 (l.map dObj))] (fun v => v = .d (.int .i64 (Im.check t node size l))) := by
  have h1 := ref_may_fn gl t
  have h2 := ref_may03_fn gl size
  unfold dTopo at h1 ⊢
  by_cases hA : To.May t ∧ Im.okMem size ∧ (l.length : Int) = t.nodes
  · obtain ⟨a1, a2, a3⟩ := hA
    rw [decide_eq_true a1] at h1
    rw [decide_eq_true a2] at h2
    have hn8 := a1.sound.n
    (refine y_enter Tryz.func18 Tryz.ntmps18 Tryz.results18 fun w M => ?_; simp only [slots, List.map_cons, List.map_nil, List.zipIdx_cons, List.zipIdx_nil, Nat.reduceAdd])
    ((repeat' (first | (refine tr_at 4 ?_; (refine z_box 4 ?_)) | (refine yyp ?_; (try refine s_bu ?_ ?_ <;> (intro hb; try simp only [decide_eq_true_eq, decide_eq_false_iff_not] at hb))) | (refine yy ?_) | (refine yy2 ?_ ?_ <;> (intro hcmp; try simp only [cmp] at hcmp)) | (refine at_call 34 ?_; refine y_call (hc := (h1)) ?_; (try refine s_bu ?_ ?_ <;> (intro hb; try simp only [decide_eq_true_eq, decide_eq_false_iff_not] at hb))) | (refine at_call 35 ?_; refine y_call (hc := (h2)) ?_; (try refine s_bu ?_ ?_ <;> (intro hb; try simp only [decide_eq_true_eq, decide_eq_false_iff_not] at hb))) | (refine at_nil ?_; refine z_nil [0, 1, 2, 3, 4, 8, 9, 10, 25, 29, 37, 45, 49, 58] ?_) | (refine tc_seq fun K hK => ?_) | (apply_assumption -exfalso -symm))); all_goals (try refine unhalt ?_))
    refine y_famx [8, 9, 26, 27, 28, 29, 30, 31, 32, 33, 34, 35, 36, 37] [] (fun k : Nat => [(9, .d (.int .i64 k))]) (fun _ => []) (fun k => k ≤ l.length ∧ ∀ o ∈ l.take k, Im.okObj o) (fun k => l.length - k) 0 ⟨Nat.zero_le _, by simp⟩  fun k ⟨hk, hok⟩ => ?_
    dsimp only [List.cons_append, List.nil_append] at hk hok ⊢
    rcases Nat.lt_or_ge k l.length with hkl | hkl
    · have hm := ref_may27_fn gl l[k]
      have hget : (l.map dObj)[k]? = some (dObj l[k]) := by rw [List.getElem?_map, List.getElem?_eq_getElem hkl]; rfl
      by_cases ho : Im.okObj l[k]
      · rw [decide_eq_true ho] at hm
        ((repeat' (first | (refine tr_at 4 ?_; (refine z_box 4 ?_)) | (refine yyp ?_; (try refine s_bu ?_ ?_ <;> (intro hb; try simp only [decide_eq_true_eq, decide_eq_false_iff_not] at hb))) | (refine yy ?_) | (refine yy2 ?_ ?_ <;> (intro hcmp; try simp only [cmp] at hcmp)) | (refine at_call 36 ?_; refine y_call (hc := (hm)) ?_; (try refine s_bu ?_ ?_ <;> (intro hb; try simp only [decide_eq_true_eq, decide_eq_false_iff_not] at hb))) | (refine at_nil ?_; refine z_nil [0, 1, 2, 3, 4, 8, 9, 10, 25, 29, 37, 45, 49, 58] ?_) | (refine tc_seq fun K hK => ?_) | (apply_assumption -exfalso -symm))); all_goals (try refine unhalt ?_))
        refine ⟨k + 1, ⟨by omega, fun o hmem => ?_⟩, by omega, y_wk⟩
        rw [← get_take _ hkl, List.mem_append, List.mem_singleton] at hmem
        rcases hmem with h | rfl
        · exact hok o h
        · exact ho
      · rw [decide_eq_false ho] at hm
        ((repeat' (first | (refine tr_at 4 ?_; (refine z_box 4 ?_)) | (refine yyp ?_; (try refine s_bu ?_ ?_ <;> (intro hb; try simp only [decide_eq_true_eq, decide_eq_false_iff_not] at hb))) | (refine yy ?_) | (refine yy2 ?_ ?_ <;> (intro hcmp; try simp only [cmp] at hcmp)) | (refine at_call 36 ?_; refine y_call (hc := (hm)) ?_; (try refine s_bu ?_ ?_ <;> (intro hb; try simp only [decide_eq_true_eq, decide_eq_false_iff_not] at hb))) | (refine at_nil ?_; refine z_nil [0, 1, 2, 3, 4, 8, 9, 10, 25, 29, 37, 45, 49, 58] ?_) | (refine tc_seq fun K hK => ?_) | (apply_assumption -exfalso -symm))); all_goals (try refine unhalt ?_))
        (refine tc_ret (y_ret ?_))
        unfold Im.check
        rw [if_pos (fun h => ho (h.2.2.2 _ (List.getElem_mem hkl)))]
        rfl
    have hke : k = l.length := by omega
    subst hke
    rw [List.take_length] at hok
    have hc1 : Im.check t node size l = if node < 0 ∨ t.nodes ≤ node then 4 else if ¬ ∀ o ∈ l, Im.fits size o then 9 else 0 := by
      unfold Im.check
      rw [if_neg (fun h => h ⟨a1, a2, a3, hok⟩)]
    by_cases hr : node < 0 ∨ t.nodes ≤ node
    · rw [if_pos hr] at hc1
      ((repeat' (first | (refine tr_at 4 ?_; (refine z_box 4 ?_)) | (refine yyp ?_; (try refine s_bu ?_ ?_ <;> (intro hb; try simp only [decide_eq_true_eq, decide_eq_false_iff_not] at hb))) | (refine yy ?_) | (refine yy2 ?_ ?_ <;> (intro hcmp; try simp only [cmp] at hcmp)) | (refine at_nil ?_; refine z_nil [0, 1, 2, 3, 4, 8, 9, 10, 25, 29, 37, 45, 49, 58] ?_) | (refine tc_seq fun K hK => ?_) | (apply_assumption -exfalso -symm))); all_goals (try refine unhalt ?_))
      all_goals first | (exfalso; omega) | ((refine tc_ret (y_ret ?_)); rw [hc1]; rfl)
    · rw [if_neg hr] at hc1
      ((repeat' (first | (refine tr_at 4 ?_; (refine z_box 4 ?_)) | (refine yyp ?_; (try refine s_bu ?_ ?_ <;> (intro hb; try simp only [decide_eq_true_eq, decide_eq_false_iff_not] at hb))) | (refine yy ?_) | (refine yy2 ?_ ?_ <;> (intro hcmp; try simp only [cmp] at hcmp)) | (refine at_nil ?_; refine z_nil [0, 1, 2, 3, 4, 8, 9, 10, 25, 29, 37, 45, 49, 58] ?_) | (refine tc_seq fun K hK => ?_) | (apply_assumption -exfalso -symm))); all_goals (try refine unhalt ?_))
      refine y_famx [8, 10, 46, 47, 48, 49, 50, 51, 52, 53, 54, 55, 56, 57, 58] [] (fun k : Nat => [(10, .d (.int .i64 k))]) (fun _ => []) (fun k => k ≤ l.length ∧ ∀ o ∈ l.take k, Im.fits size o) (fun k => l.length - k) 0 ⟨Nat.zero_le _, by simp⟩  fun k ⟨hk, hfk⟩ => ?_
      dsimp only [List.cons_append, List.nil_append] at hk hfk ⊢
      rcases Nat.lt_or_ge k l.length with hkl | hkl
      · have hm := ref_fits_fn gl size l[k] a2 (hok _ (List.getElem_mem hkl))
        have hget : (l.map dObj)[k]? = some (dObj l[k]) := by rw [List.getElem?_map, List.getElem?_eq_getElem hkl]; rfl
        by_cases ho : Im.fits size l[k]
        · rw [decide_eq_true ho] at hm
          ((repeat' (first | (refine tr_at 4 ?_; (refine z_box 4 ?_)) | (refine yyp ?_; (try refine s_bu ?_ ?_ <;> (intro hb; try simp only [decide_eq_true_eq, decide_eq_false_iff_not] at hb))) | (refine yy ?_) | (refine yy2 ?_ ?_ <;> (intro hcmp; try simp only [cmp] at hcmp)) | (refine at_call 37 ?_; refine y_call (hc := (hm)) ?_; (try refine s_bu ?_ ?_ <;> (intro hb; try simp only [decide_eq_true_eq, decide_eq_false_iff_not] at hb))) | (refine at_nil ?_; refine z_nil [0, 1, 2, 3, 4, 8, 9, 10, 25, 29, 37, 45, 49, 58] ?_) | (refine tc_seq fun K hK => ?_) | (apply_assumption -exfalso -symm))); all_goals (try refine unhalt ?_))
          refine ⟨k + 1, ⟨by omega, fun o hmem => ?_⟩, by omega, y_wk⟩
          rw [← get_take _ hkl, List.mem_append, List.mem_singleton] at hmem
          rcases hmem with h | rfl
          · exact hfk o h
          · exact ho
        · rw [decide_eq_false ho] at hm
          rw [if_pos (fun h => ho (h _ (List.getElem_mem hkl)))] at hc1
          ((repeat' (first | (refine tr_at 4 ?_; (refine z_box 4 ?_)) | (refine yyp ?_; (try refine s_bu ?_ ?_ <;> (intro hb; try simp only [decide_eq_true_eq, decide_eq_false_iff_not] at hb))) | (refine yy ?_) | (refine yy2 ?_ ?_ <;> (intro hcmp; try simp only [cmp] at hcmp)) | (refine at_call 37 ?_; refine y_call (hc := (hm)) ?_; (try refine s_bu ?_ ?_ <;> (intro hb; try simp only [decide_eq_true_eq, decide_eq_false_iff_not] at hb))) | (refine at_nil ?_; refine z_nil [0, 1, 2, 3, 4, 8, 9, 10, 25, 29, 37, 45, 49, 58] ?_) | (refine tc_seq fun K hK => ?_) | (apply_assumption -exfalso -symm))); all_goals (try refine unhalt ?_))
          (refine tc_ret (y_ret ?_))
          rw [hc1]
          rfl
      have hke : k = l.length := by omega
      subst hke
      rw [List.take_length] at hfk
      rw [if_neg (fun h => h hfk)] at hc1
      ((repeat' (first | (refine tr_at 4 ?_; (refine z_box 4 ?_)) | (refine yyp ?_; (try refine s_bu ?_ ?_ <;> (intro hb; try simp only [decide_eq_true_eq, decide_eq_false_iff_not] at hb))) | (refine yy ?_) | (refine yy2 ?_ ?_ <;> (intro hcmp; try simp only [cmp] at hcmp)) | (refine at_nil ?_; refine z_nil [0, 1, 2, 3, 4, 8, 9, 10, 25, 29, 37, 45, 49, 58] ?_) | (refine tc_seq fun K hK => ?_) | (apply_assumption -exfalso -symm))); all_goals (try refine unhalt ?_))
      (refine tc_ret (y_ret ?_))
      rw [hc1]
      rfl
  · have hc1 : Im.check t node size l = 2 := by
      unfold Im.check
      rw [if_pos (fun h => hA ⟨h.1, h.2.1, h.2.2.1⟩)]
    (refine y_enter Tryz.func18 Tryz.ntmps18 Tryz.results18 fun w M => ?_; simp only [slots, List.map_cons, List.map_nil, List.zipIdx_cons, List.zipIdx_nil, Nat.reduceAdd])
    ((repeat' (first | (refine tr_at 4 ?_; (refine z_box 4 ?_)) | (refine tc_at 3 ?_; refine halt ?_) | (refine yyp ?_; (try refine s_bu ?_ ?_ <;> (intro hb; try simp only [decide_eq_true_eq, decide_eq_false_iff_not] at hb))) | (refine yy ?_) | (refine yy2 ?_ ?_ <;> (intro hcmp; try simp only [cmp] at hcmp)) | (refine at_call 34 ?_; refine y_call (hc := (h1)) ?_; (try refine s_bu ?_ ?_ <;> (intro hb; try simp only [decide_eq_true_eq, decide_eq_false_iff_not] at hb))) | (refine at_call 35 ?_; refine y_call (hc := (h2)) ?_; (try refine s_bu ?_ ?_ <;> (intro hb; try simp only [decide_eq_true_eq, decide_eq_false_iff_not] at hb))) | (refine at_nil ?_; refine z_nil [0, 1, 2, 3, 4, 8, 9, 10, 25, 29, 37, 45, 49, 58] ?_) | (refine tc_seq fun K hK => ?_) | (apply_assumption -exfalso -symm))); all_goals (try refine unhalt ?_))
    all_goals first | (exfalso; exact hA ⟨by assumption, by assumption, by omega⟩) | ((refine tc_ret (y_ret ?_)); rw [hc1]; rfl)
set_option maxRecDepth 100000 in
set_option maxHeartbeats 8000000 in
theorem ref_forward_fn (gl : List (Nat × List D)) (b : List UInt8) (k : Nat) (hk : k < 4) (hb : b.length ≤ 1000000000) :
    FnD Tryz.prog gl 69 [.d (dBytes b), .d (.int .i64 (k : Nat))] (fun v => v = .d (.list 4 ((Im.fwd k b).map dCmd))) := by
  unfold dBytes
  (refine y_enter Tryz.func69 Tryz.ntmps69 Tryz.results69 fun w M => ?_; simp only [slots, List.map_cons, List.map_nil, List.zipIdx_cons, List.zipIdx_nil, Nat.reduceAdd])
  ((repeat' (first | (refine tr_at 25 ?_; (refine z_lit 25 ?_)) | (refine tr_at 26 ?_; refine z_append0 26 ?_) | (refine yyp ?_; (try refine s_bu ?_ ?_ <;> (intro hb; try simp only [decide_eq_true_eq, decide_eq_false_iff_not] at hb))) | (refine yy ?_) | (refine yy2 ?_ ?_ <;> (intro hcmp; try simp only [cmp] at hcmp)) | (refine at_append ?_; first | (refine z_append (fun kv => ?_)) | (refine z_append_suf (fun sx sp kv hsx hsp hsl => ?_))) | (refine at_nil ?_; refine z_nil [0, 1, 4, 5, 6, 7, 9, 13] ?_) | (refine tc_seq fun K hK => ?_) | (apply_assumption -exfalso -symm))); all_goals (try refine unhalt ?_))
  refine tc_row (t := 5) (e := 48) (sz := 4) rfl rfl ?_
  refine y_famx (ι := List UInt8 × List I.Cmd × Nat) [0, 5, 6, 7, 8, 9, 10, 11, 12, 13, 14, 15, 16, 17, 18, 19, 20, 21, 22, 23, 24, 25, 26, 27, 28, 29] [5] (fun x => [(0, .d (.list 1 (x.1.map dByte))), (5, .own 5 x.2.2)]) (fun x => [(5, .row 48 4 true (x.2.1.map dCmd) x.2.2)])
    (fun x => x.2.1 ++ Im.fwd k x.1 = Im.fwd k b ∧ x.1.length + x.2.1.length ≤ b.length) (fun x => x.1.length) (b, [], 0) ⟨rfl, by simp⟩  fun ⟨r, cl, ver⟩ ⟨hrc, hlen⟩ => ?_
  dsimp only [List.cons_append, List.nil_append] at hrc hlen ⊢
  rcases Nat.eq_zero_or_pos r.length with hr0 | hr0
  · ((repeat' (first | (refine tr_at 25 ?_; (refine z_lit 25 ?_)) | (refine tr_at 26 ?_; refine z_append0 26 ?_) | (refine yyp ?_; (try refine s_bu ?_ ?_ <;> (intro hb; try simp only [decide_eq_true_eq, decide_eq_false_iff_not] at hb))) | (refine yy ?_) | (refine yy2 ?_ ?_ <;> (intro hcmp; try simp only [cmp] at hcmp)) | (refine at_append ?_; first | (refine z_append (fun kv => ?_)) | (refine z_append_suf (fun sx sp kv hsx hsp hsl => ?_))) | (refine at_nil ?_; refine z_nil [0, 1, 4, 5, 6, 7, 9, 13] ?_) | (refine tc_seq fun K hK => ?_) | (apply_assumption -exfalso -symm))); all_goals (try refine unhalt ?_))
    (refine tc_ret (y_ret ?_))
    have hr : r = [] := List.eq_nil_of_length_eq_zero hr0
    subst hr
    rw [show Im.fwd k [] = [] from rfl, List.append_nil] at hrc
    rw [hrc]
    rfl
  · rw [Im.fwd_step hr0] at hrc
    rcases Nat.lt_or_ge r.length 64 with h6 | h6
    · ((repeat' (first | (refine tr_at 25 ?_; (refine z_lit 25 ?_)) | (refine tr_at 26 ?_; refine z_append0 26 ?_) | (refine yyp ?_; (try refine s_bu ?_ ?_ <;> (intro hb; try simp only [decide_eq_true_eq, decide_eq_false_iff_not] at hb))) | (refine yy ?_) | (refine yy2 ?_ ?_ <;> (intro hcmp; try simp only [cmp] at hcmp)) | (refine at_append ?_; first | (refine z_append (fun kv => ?_)) | (refine z_append_suf (fun sx sp kv hsx hsp hsl => ?_))) | (refine at_nil ?_; refine z_nil [0, 1, 4, 5, 6, 7, 9, 13] ?_) | (refine tc_seq fun K hK => ?_) | (apply_assumption -exfalso -symm))); all_goals (try refine unhalt ?_))
      refine ⟨(r.drop 64, cl ++ [⟨2, -2147483648 + 4 * (k : Int), 0, r.take 64⟩], kv), ⟨?_, ?_⟩, ?_, ?_⟩
      · dsimp only
        rw [List.append_assoc]
        exact hrc
      · simp only [List.length_drop, List.length_append, List.length_cons, List.length_nil]; omega
      · dsimp only
        rw [List.length_drop]; omega
      · dsimp only
        have e1 : r.take 64 = r.take r.length := by rw [List.take_of_length_le (by omega), List.take_length]
        have e2 : r.drop 64 = r.drop r.length := by rw [List.drop_of_length_le (by omega), List.drop_length]
        rw [e1, e2]
        simp only [slice_all, slice_lo, List.map_append, List.map_cons, List.map_nil, dCmd, dBytes]
        exact y_wk
    · ((repeat' (first | (refine tr_at 25 ?_; (refine z_lit 25 ?_)) | (refine tr_at 26 ?_; refine z_append0 26 ?_) | (refine yyp ?_; (try refine s_bu ?_ ?_ <;> (intro hb; try simp only [decide_eq_true_eq, decide_eq_false_iff_not] at hb))) | (refine yy ?_) | (refine yy2 ?_ ?_ <;> (intro hcmp; try simp only [cmp] at hcmp)) | (refine at_append ?_; first | (refine z_append (fun kv => ?_)) | (refine z_append_suf (fun sx sp kv hsx hsp hsl => ?_))) | (refine at_nil ?_; refine z_nil [0, 1, 4, 5, 6, 7, 9, 13] ?_) | (refine tc_seq fun K hK => ?_) | (apply_assumption -exfalso -symm))); all_goals (try refine unhalt ?_))
      refine ⟨(r.drop 64, cl ++ [⟨2, -2147483648 + 4 * (k : Int), 0, r.take 64⟩], kv), ⟨?_, ?_⟩, ?_, ?_⟩
      · dsimp only
        rw [List.append_assoc]
        exact hrc
      · simp only [List.length_drop, List.length_append, List.length_cons, List.length_nil]; omega
      · dsimp only
        rw [List.length_drop]; omega
      · dsimp only
        simp only [slice_all, slice_lo, List.map_append, List.map_cons, List.map_nil, dCmd, dBytes]
        exact y_wk
end Go.Proofs.YtcblefmjacofgaaGreatDoor
namespace Go.Proofs.YtcblefmjacofgaaGreatDoor
open Go.RowKit
attribute [local irreducible] TR TC
set_option maxRecDepth 100000 in
set_option maxHeartbeats 8000000 in
theorem rload_fn (gl : List (Nat × List D)) (t : To.Topo) (size : Int) (l : List Im.Obj) (hf : Im.Fine t size l) : ∀ (f i : Nat) (hi : i < (To.order t).length), (To.order t).length ≤ i + f →
    FnD Tryz.prog gl 19 [.d (dTopo t), .d (.int .i64 (To.order t)[i].node), .d (.int .i64 size), .d (.list 4 (l.map dObj))] (fun v => v = .d (dBytes (Im.tr t I.bootB (Im.loadC l) f (To.order t)[i].node))) := by
  intro f
  induction f with
  | zero => intro i hi h; omega
  | succ f ih =>
    intro i hi hfu
    have hmay := hf.may
    have hr := (To.order_good hmay.sound).range _ (List.getElem_mem hi)
    unfold To.inR at hr
    obtain ⟨hn0, hn1⟩ := hr
    have hch := fun k hk => Im.child_at (k := k) hmay hi hk
    generalize (To.order t)[i].node = n at hn0 hn1 hch ⊢
    have hC : FnD Tryz.prog gl 67 [.d (dTopo t), .d (.int .i64 n)] (fun v => v = .tup [.d (.list 1 ((To.kids t n).map dInt)), .d (.int .i64 0)]) := by
      have := ref_children_fn gl t n
      unfold To.children at this
      rw [if_pos hmay, if_neg (by omega)] at this
      exact this
    have hP : ∀ k ∈ To.kids t n, FnD Tryz.prog gl 68 [.d (dTopo t), .d (.int .i64 n), .d (.int .i64 (k : Nat))] (fun v => v = .d (.int .i64 (Im.child t n k))) := fun k hk => by
      have := ref_child_fn gl t n (k : Nat)
      rw [if_pos hmay] at this
      exact this
    have hk4 := fun k (hk : k ∈ To.kids t n) => Im.kids_lt hk
    have hkl := Im.kids_len t n
    have htl := fun k => Im.tr_len t I.bootB (Im.loadC l) (by decide) f (Im.child t n k)
    have hlen := hf.len
    have hnl : n.toNat < l.length := by omega
    have hob : Im.obj l n = l[n.toNat] := by
      unfold Im.obj
      rw [List.getD_eq_getElem?_getD, List.getElem?_eq_getElem hnl]
      rfl
    have hgeto : (l.map dObj)[n.toNat]? = some (.agg [.list 1 (l[n.toNat].code.map dByte), .int .i64 l[n.toNat].entry, .int .i64 l[n.toNat].below, .int .i64 l[n.toNat].above]) := by rw [List.getElem?_map, List.getElem?_eq_getElem hnl]; rfl
    have hcl32 := (hf.code n).1
    rw [hob] at hcl32
    have hput : ∀ cl : List I.Cmd, cl = (To.kids t n).flatMap (fun k => Im.fwd k (Im.tr t I.bootB (Im.loadC l) f (Im.child t n k))) → FnD Tryz.prog gl 39 [.d (.list 4 (cl.map dCmd ++ [dCmd ((Im.loadC l) n)]))] (fun v => v = .tup [.d (dBytes (I.putC (cl ++ [(Im.loadC l) n])).1), .d (.int .i64 (I.putC (cl ++ [(Im.loadC l) n])).2)]) := fun cl hcl => by
      have := ref_put38_fn gl (cl ++ [(Im.loadC l) n]) (fun c hc => by
        rcases List.mem_append.1 hc with hc | hc
        · rw [hcl] at hc
          obtain ⟨k, hk, hc⟩ := List.mem_flatMap.1 hc
          exact Im.fwd_wf (hk4 k hk) _ c hc
        · rw [List.mem_singleton] at hc
          subst hc
          exact (hf.load n).2)
      rwa [List.map_append] at this
    have htr : Im.tr t I.bootB (Im.loadC l) (f + 1) n = I.bootB ++ (I.putC ((To.kids t n).flatMap (fun k => Im.fwd k (Im.tr t I.bootB (Im.loadC l) f (Im.child t n k))) ++ [(Im.loadC l) n])).1 := rfl
    have hpl := Im.putC_len ((To.kids t n).flatMap (fun k => Im.fwd k (Im.tr t I.bootB (Im.loadC l) f (Im.child t n k))) ++ [(Im.loadC l) n])
    rw [htr]
    generalize hres : (I.putC ((To.kids t n).flatMap (fun k => Im.fwd k (Im.tr t I.bootB (Im.loadC l) f (Im.child t n k))) ++ [(Im.loadC l) n])).1 = res at hpl ⊢
    have ih' : ∀ k ∈ To.kids t n, FnD Tryz.prog gl 19 [.d (dTopo t), .d (.int .i64 (Im.child t n k)), .d (.int .i64 size), .d (.list 4 (l.map dObj))] (fun v => v = .d (dBytes (Im.tr t I.bootB (Im.loadC l) f (Im.child t n k)))) := fun k hk => by
      obtain ⟨j, hij, hj, e⟩ := hch k hk
      have := ih j hj (by omega)
      rw [e] at this
      exact this
    clear ih htr hch
    rw [show Im.loadC l n = ⟨1, -2147483136, 0, l[n.toNat].code⟩ by unfold Im.loadC; rw [hob]] at *
    generalize To.kids t n = ks at *
    unfold dTopo at hC hP ih' ⊢
    (refine y_enter Tryz.func19 Tryz.ntmps19 Tryz.results19 fun w M => ?_; simp only [slots, List.map_cons, List.map_nil, List.zipIdx_cons, List.zipIdx_nil, Nat.reduceAdd])
    ((repeat' (first | (refine tr_at 4 ?_; (refine z_box 4 ?_)) | (refine tr_at 16 ?_; (refine tr_keep [0, 1, 2, 3, 4, 8, 9, 10, 12, 13, 14, 15, 16] ?_); refine y_inline Tryz.func38 Tryz.ntmps38 Tryz.results38 fun tm sy => ?_; simp only [slots, shift, zipPs, List.nil_append, List.cons_append, List.append_nil, List.map_cons, List.map_nil, List.zipIdx_cons, List.zipIdx_nil, Nat.reduceAdd]; refine halt ?_) | (refine tr_at 24 ?_; (refine z_lit 24 ?_)) | (refine tr_at 25 ?_; refine z_append0 25 ?_) | (refine tr_at 33 ?_; refine z_append0 33 ?_) | (refine yyp ?_; (try refine s_bu ?_ ?_ <;> (intro hb; try simp only [decide_eq_true_eq, decide_eq_false_iff_not] at hb))) | (refine yy ?_) | (refine yy2 ?_ ?_ <;> (intro hcmp; try simp only [cmp] at hcmp)) | (refine at_append ?_; first | (refine z_append (fun kv => ?_)) | (refine z_append_suf (fun sx sp kv hsx hsp hsl => ?_))) | (refine at_nil ?_; refine z_nil [0, 1, 2, 3, 4, 8, 9, 10] ?_) | (refine tc_seq fun K hK => ?_) | (apply_assumption -exfalso -symm))); all_goals (try refine unhalt ?_))
    ((repeat' (first | (refine tr_at 5 ?_; (refine z_box 1005 ?_)) | (refine tr_at 47 ?_; refine z_append0 1047 ?_) | (refine tr_at 59 ?_; refine z_append0 1059 ?_) | (refine yyp ?_; (try refine s_bu ?_ ?_ <;> (intro hb; try simp only [decide_eq_true_eq, decide_eq_false_iff_not] at hb))) | (refine yy ?_) | (refine yy2 ?_ ?_ <;> (intro hcmp; try simp only [cmp] at hcmp)) | (refine at_call 67 ?_; refine y_call (hc := (hC)) ?_) | (refine at_append ?_; first | (refine z_append (fun kv => ?_)) | (refine z_append_suf (fun sx sp kv hsx hsp hsl => ?_))) | (refine at_nil ?_; refine z_nil [0, 1, 2, 3, 4, 5, 10, 11, 12, 14, 15, 25, 35] ?_) | (refine tc_seq fun K hK => ?_) | (refine tc_at 6 ?_; refine z_draw [] (lin [4, 8, 12, 16, 1, 21, 26, 28]) ?_) | (refine tc_at 8 ?_; refine z_draw [11] (lin [0, 8, 12, 16, 24, 28, 32, 5, 37, 22, 42, 47, 48]) ?_) | (refine tc_at 9 ?_; refine z_draw [11] (lin [0, 8, 12, 16, 24, 28, 32, 5, 37, 22, 42, 47, 48]) ?_) | (apply_assumption -exfalso -symm))); all_goals (try refine unhalt ?_))
    refine tc_row (t := 11) (e := 48) (sz := 4) rfl rfl ?_
    refine y_famx (ι := Nat × List I.Cmd × Nat) [11, 14, 15, 22, 23, 24, 25, 26, 27, 28, 29, 30, 31, 32, 33, 34, 35, 36, 37, 38, 39, 40, 41, 42, 43, 44, 45, 46, 47, 48, 49, 50, 51, 52, 53, 54, 55, 56, 57, 58, 59] [11] (fun x => [(14, .d (.int .i64 x.1)), (11, .own 11 x.2.2)]) (fun x => [(11, .row 48 4 true (x.2.1.map dCmd) x.2.2)])
      (fun x => x.1 ≤ ks.length ∧ x.2.1 = (ks.take x.1).flatMap (fun k => Im.fwd k (Im.tr t I.bootB (Im.loadC l) f (Im.child t n k))) ∧ x.2.1.length ≤ x.1 * 2000000) (fun x => ks.length - x.1) (0, [], 0) ⟨by simp, rfl, by simp⟩  fun ⟨j, cl, ver⟩ ⟨hj, hcl, hcll⟩ => ?_
    dsimp only [List.cons_append, List.nil_append] at hj hcl hcll ⊢
    rcases Nat.lt_or_ge j ks.length with hjl | hjl
    · have hkm := List.getElem_mem hjl
      have hq4 := hk4 _ hkm
      have hPk := hP _ hkm
      have hofk := ih' _ hkm
      have htlk := htl ks[j]
      have hgetk : (ks.map dInt)[j]? = some (.int .i64 (ks[j] : Nat)) := by rw [List.getElem?_map, List.getElem?_eq_getElem hjl]; rfl
      have hfl := Im.fwd_len ks[j] (Im.tr t I.bootB (Im.loadC l) f (Im.child t n ks[j]))
      have hfw := ref_forward_fn gl (Im.tr t I.bootB (Im.loadC l) f (Im.child t n ks[j])) ks[j] hq4 (by omega)
      have hstep : (ks.take (j + 1)).flatMap (fun k => Im.fwd k (Im.tr t I.bootB (Im.loadC l) f (Im.child t n k))) = cl ++ Im.fwd ks[j] (Im.tr t I.bootB (Im.loadC l) f (Im.child t n ks[j])) := by rw [← get_take _ hjl, List.flatMap_append, hcl]; simp
      generalize hB : Im.tr t I.bootB (Im.loadC l) f (Im.child t n ks[j]) = B at htlk hofk hfw hfl hstep
      generalize hq : ks[j] = q at hq4 hPk hofk hgetk hfw hfl hstep
      generalize hF : Im.fwd q B = Fw at hfw hfl hstep
      ((repeat' (first | (refine tr_at 5 ?_; (refine z_box 1005 ?_)) | (refine tr_at 47 ?_; refine z_append0 1047 ?_) | (refine tr_at 59 ?_; refine z_append0 1059 ?_) | (refine yyp ?_; (try refine s_bu ?_ ?_ <;> (intro hb; try simp only [decide_eq_true_eq, decide_eq_false_iff_not] at hb))) | (refine yy ?_) | (refine yy2 ?_ ?_ <;> (intro hcmp; try simp only [cmp] at hcmp)) | (refine at_call 68 ?_; refine y_call (hc := (hPk)) ?_) | (refine at_call 69 ?_; refine y_call (hc := (hfw)) ?_) | (refine at_append ?_; first | (refine z_append (fun kv => ?_)) | (refine z_append_suf (fun sx sp kv hsx hsp hsl => ?_))) | (refine at_call 19 ?_; refine y_call (hc := (hofk)) ?_) | (refine at_nil ?_; refine z_nil [0, 1, 2, 3, 4, 5, 10, 11, 12, 14, 15, 25, 35] ?_) | (refine tc_seq fun K hK => ?_) | (refine tc_at 6 ?_; refine z_draw [] (lin [4, 8, 12, 16, 1, 21, 26, 28]) ?_) | (refine tc_at 8 ?_; refine z_draw [11] (lin [0, 8, 12, 16, 24, 28, 32, 5, 37, 22, 42, 47, 48]) ?_) | (refine tc_at 9 ?_; refine z_draw [11] (lin [0, 8, 12, 16, 24, 28, 32, 5, 37, 22, 42, 47, 48]) ?_) | (apply_assumption -exfalso -symm))); all_goals (try refine unhalt ?_))
      refine ⟨(j + 1, cl ++ Fw, kv), ⟨by dsimp only; omega, ?_, ?_⟩, by dsimp only; omega, ?_⟩
      · dsimp only
        rw [hstep]
      · dsimp only
        rw [List.length_append]
        omega
      · dsimp only
        rw [List.map_append]
        exact y_wk
    · have hje : j = ks.length := by omega
      subst hje
      rw [List.take_length] at hcl
      have hputk := hput cl hcl
      rw [← hcl] at hres
      rw [hres] at hputk
      unfold dBytes at hputk
      ((repeat' (first | (refine tr_at 5 ?_; (refine z_box 1005 ?_)) | (refine tr_at 47 ?_; refine z_append0 1047 ?_) | (refine tr_at 59 ?_; refine z_append0 1059 ?_) | (refine yyp ?_; (try refine s_bu ?_ ?_ <;> (intro hb; try simp only [decide_eq_true_eq, decide_eq_false_iff_not] at hb))) | (refine yy ?_) | (refine yy2 ?_ ?_ <;> (intro hcmp; try simp only [cmp] at hcmp)) | (refine at_append ?_; first | (refine z_append (fun kv => ?_)) | (refine z_append_suf (fun sx sp kv hsx hsp hsl => ?_))) | (refine at_nil ?_; refine z_nil [0, 1, 2, 3, 4, 5, 10, 11, 12, 14, 15, 25, 35] ?_) | (refine tc_seq fun K hK => ?_) | (refine tc_at 6 ?_; refine z_draw [] (lin [4, 8, 12, 16, 1, 21, 26, 28]) ?_) | (refine tc_at 8 ?_; refine z_draw [11] (lin [0, 8, 12, 16, 24, 28, 32, 5, 37, 22, 42, 47, 48]) ?_) | (refine tc_at 9 ?_; refine z_draw [11] (lin [0, 8, 12, 16, 24, 28, 32, 5, 37, 22, 42, 47, 48]) ?_) | (apply_assumption -exfalso -symm))); all_goals (try refine unhalt ?_))
      (refine tc_ret (y_reti (h := by (repeat (first | exact ResE.nil | apply ResE.tmp rfl (by exact ArgE.same _) | apply ResE.cells rfl rfl (by (repeat (first | exact Cut.done _ | apply Cut.take | apply Cut.skip)); fail_if_success intros) (by (repeat (first | exact ToDs.nil | apply ToDs.cons (ToD.d _) | apply ToDs.cons (ToD.nils _) | apply ToDs.cons (ToD.own rfl))); fail_if_success intros) (by rfl) | apply ResE.cell rfl rfl rfl (by exact ArgE.same _))); fail_if_success intros) ?_))
      simp only [oneOf]
      ((repeat' (first | (refine tr_at 4 ?_; (refine z_box 4 ?_)) | (refine tr_at 24 ?_; (refine z_lit 24 ?_)) | (refine tr_at 25 ?_; refine z_append0 25 ?_) | (refine tr_at 33 ?_; refine z_append0 33 ?_) | (refine yyp ?_; (try refine s_bu ?_ ?_ <;> (intro hb; try simp only [decide_eq_true_eq, decide_eq_false_iff_not] at hb))) | (refine yy ?_) | (refine yy2 ?_ ?_ <;> (intro hcmp; try simp only [cmp] at hcmp)) | (refine at_append ?_; first | (refine z_append (fun kv => ?_)) | (refine z_append_suf (fun sx sp kv hsx hsp hsl => ?_))) | (refine at_nil ?_; refine z_nil [0, 1, 2, 3, 4, 8, 9, 10] ?_))); all_goals (try refine unhalt ?_))
      have hbo : I.bootB.length = 41 := by decide
      generalize (I.putC (cl ++ [(⟨1, -2147483136, 0, l[n.toNat].code⟩ : I.Cmd)])).2 = pe at *
      ((repeat' (first | (refine tr_at 4 ?_; (refine z_box 4 ?_)) | (refine tr_at 24 ?_; (refine z_lit 24 ?_)) | (refine tr_at 25 ?_; refine z_append0 25 ?_) | (refine tr_at 31 ?_; refine y_callG (hc := ref_boot_o gl) ?_) | (refine tr_at 33 ?_; refine z_append0 33 ?_) | (refine yyp ?_; (try refine s_bu ?_ ?_ <;> (intro hb; try simp only [decide_eq_true_eq, decide_eq_false_iff_not] at hb))) | (refine yy ?_) | (refine yy2 ?_ ?_ <;> (intro hcmp; try simp only [cmp] at hcmp)) | (refine at_append ?_; first | (refine z_append (fun kv => ?_)) | (refine z_append_suf (fun sx sp kv hsx hsp hsl => ?_))) | (refine at_call 39 ?_; refine y_call (hc := (hputk)) ?_) | (refine at_nil ?_; refine z_nil [0, 1, 2, 3, 4, 8, 9, 10] ?_) | (refine tc_seq fun K hK => ?_) | (apply_assumption -exfalso -symm))); all_goals (try refine unhalt ?_))
      (refine tc_ret (y_ret ?_))
      simp [oneOf, dBytes]
set_option maxRecDepth 100000 in
set_option maxHeartbeats 8000000 in
theorem rstart_fn (gl : List (Nat × List D)) (t : To.Topo) (size : Int) (l : List Im.Obj) (hf : Im.Fine t size l) : ∀ (f i : Nat) (hi : i < (To.order t).length), (To.order t).length ≤ i + f →
    FnD Tryz.prog gl 21 [.d (dTopo t), .d (.int .i64 (To.order t)[i].node), .d (.int .i64 size), .d (.list 4 (l.map dObj))] (fun v => v = .d (dBytes (Im.tr t ([] : List UInt8) (Im.runC size l) f (To.order t)[i].node))) := by
  intro f
  induction f with
  | zero => intro i hi h; omega
  | succ f ih =>
    intro i hi hfu
    have hmay := hf.may
    have hr := (To.order_good hmay.sound).range _ (List.getElem_mem hi)
    unfold To.inR at hr
    obtain ⟨hn0, hn1⟩ := hr
    have hch := fun k hk => Im.child_at (k := k) hmay hi hk
    generalize (To.order t)[i].node = n at hn0 hn1 hch ⊢
    have hC : FnD Tryz.prog gl 67 [.d (dTopo t), .d (.int .i64 n)] (fun v => v = .tup [.d (.list 1 ((To.kids t n).map dInt)), .d (.int .i64 0)]) := by
      have := ref_children_fn gl t n
      unfold To.children at this
      rw [if_pos hmay, if_neg (by omega)] at this
      exact this
    have hP : ∀ k ∈ To.kids t n, FnD Tryz.prog gl 68 [.d (dTopo t), .d (.int .i64 n), .d (.int .i64 (k : Nat))] (fun v => v = .d (.int .i64 (Im.child t n k))) := fun k hk => by
      have := ref_child_fn gl t n (k : Nat)
      rw [if_pos hmay] at this
      exact this
    have hk4 := fun k (hk : k ∈ To.kids t n) => Im.kids_lt hk
    have hkl := Im.kids_len t n
    have htl := fun k => Im.tr_len t ([] : List UInt8) (Im.runC size l) (by decide) f (Im.child t n k)
    have hlen := hf.len
    have hnl : n.toNat < l.length := by omega
    have hob : Im.obj l n = l[n.toNat] := by
      unfold Im.obj
      rw [List.getD_eq_getElem?_getD, List.getElem?_eq_getElem hnl]
      rfl
    have hgeto : (l.map dObj)[n.toNat]? = some (.agg [.list 1 (l[n.toNat].code.map dByte), .int .i64 l[n.toNat].entry, .int .i64 l[n.toNat].below, .int .i64 l[n.toNat].above]) := by rw [List.getElem?_map, List.getElem?_eq_getElem hnl]; rfl
    have hokn := hf.objs _ (List.getElem_mem hnl)
    have hfitn := hf.fit _ (List.getElem_mem hnl)
    have hmem := hf.mem
    have hws : (Im.workspace size l[n.toNat]).1 = -2147483648 + (size - l[n.toNat].below * 4) := by unfold Im.workspace; rw [if_pos ⟨hmem, hokn⟩, if_pos hfitn]
    have hwk := ref_workspace_fn gl size l[n.toNat] hmem hokn hfitn
    have hent : 0 ≤ l[n.toNat].entry ∧ l[n.toNat].entry ≤ 32768 := by unfold Im.okObj at hokn; omega
    have hput : ∀ cl : List I.Cmd, cl = (To.kids t n).flatMap (fun k => Im.fwd k (Im.tr t ([] : List UInt8) (Im.runC size l) f (Im.child t n k))) → FnD Tryz.prog gl 39 [.d (.list 4 (cl.map dCmd ++ [dCmd ((Im.runC size l) n)]))] (fun v => v = .tup [.d (dBytes (I.putC (cl ++ [(Im.runC size l) n])).1), .d (.int .i64 (I.putC (cl ++ [(Im.runC size l) n])).2)]) := fun cl hcl => by
      have := ref_put38_fn gl (cl ++ [(Im.runC size l) n]) (fun c hc => by
        rcases List.mem_append.1 hc with hc | hc
        · rw [hcl] at hc
          obtain ⟨k, hk, hc⟩ := List.mem_flatMap.1 hc
          exact Im.fwd_wf (hk4 k hk) _ c hc
        · rw [List.mem_singleton] at hc
          subst hc
          exact (hf.run n).2)
      rwa [List.map_append] at this
    have htr : Im.tr t ([] : List UInt8) (Im.runC size l) (f + 1) n = ([] : List UInt8) ++ (I.putC ((To.kids t n).flatMap (fun k => Im.fwd k (Im.tr t ([] : List UInt8) (Im.runC size l) f (Im.child t n k))) ++ [(Im.runC size l) n])).1 := rfl
    have hpl := Im.putC_len ((To.kids t n).flatMap (fun k => Im.fwd k (Im.tr t ([] : List UInt8) (Im.runC size l) f (Im.child t n k))) ++ [(Im.runC size l) n])
    rw [htr]
    generalize hres : (I.putC ((To.kids t n).flatMap (fun k => Im.fwd k (Im.tr t ([] : List UInt8) (Im.runC size l) f (Im.child t n k))) ++ [(Im.runC size l) n])).1 = res at hpl ⊢
    have ih' : ∀ k ∈ To.kids t n, FnD Tryz.prog gl 21 [.d (dTopo t), .d (.int .i64 (Im.child t n k)), .d (.int .i64 size), .d (.list 4 (l.map dObj))] (fun v => v = .d (dBytes (Im.tr t ([] : List UInt8) (Im.runC size l) f (Im.child t n k)))) := fun k hk => by
      obtain ⟨j, hij, hj, e⟩ := hch k hk
      have := ih j hj (by omega)
      rw [e] at this
      exact this
    clear ih htr hch
    rw [show Im.runC size l n = ⟨0, -2147483648 + (size - l[n.toNat].below * 4), -2147483136 + l[n.toNat].entry, []⟩ by unfold Im.runC; rw [hob, hws]] at *
    generalize To.kids t n = ks at *
    unfold dTopo at hC hP ih' ⊢
    (refine y_enter Tryz.func21 Tryz.ntmps21 Tryz.results21 fun w M => ?_; simp only [slots, List.map_cons, List.map_nil, List.zipIdx_cons, List.zipIdx_nil, Nat.reduceAdd])
    ((repeat' (first | (refine tr_at 4 ?_; (refine z_box 4 ?_)) | (refine tr_at 16 ?_; (refine tr_keep [0, 1, 2, 3, 4, 8, 9, 10, 12, 13, 14, 15, 16] ?_); refine y_inline Tryz.func38 Tryz.ntmps38 Tryz.results38 fun tm sy => ?_; simp only [slots, shift, zipPs, List.nil_append, List.cons_append, List.append_nil, List.map_cons, List.map_nil, List.zipIdx_cons, List.zipIdx_nil, Nat.reduceAdd]; refine halt ?_) | (refine tr_at 32 ?_; (refine z_lit 32 ?_)) | (refine tr_at 33 ?_; refine z_append0 33 ?_) | (refine yyp ?_; (try refine s_bu ?_ ?_ <;> (intro hb; try simp only [decide_eq_true_eq, decide_eq_false_iff_not] at hb))) | (refine yy ?_) | (refine yy2 ?_ ?_ <;> (intro hcmp; try simp only [cmp] at hcmp)) | (refine at_append ?_; first | (refine z_append (fun kv => ?_)) | (refine z_append_suf (fun sx sp kv hsx hsp hsl => ?_))) | (refine at_nil ?_; refine z_nil [0, 1, 2, 3, 4, 8, 9, 10] ?_) | (refine tc_seq fun K hK => ?_) | (refine tc_at 2 ?_; refine z_draw [16] (lin [0, 4, 8, 12, 16, 28, 32, 36, 40, 21, 45, 48, 52, 26, 56, 62, 67, 68]) ?_) | (apply_assumption -exfalso -symm))); all_goals (try refine unhalt ?_))
    ((repeat' (first | (refine tr_at 5 ?_; (refine z_box 1005 ?_)) | (refine tr_at 47 ?_; refine z_append0 1047 ?_) | (refine tr_at 59 ?_; refine z_append0 1059 ?_) | (refine yyp ?_; (try refine s_bu ?_ ?_ <;> (intro hb; try simp only [decide_eq_true_eq, decide_eq_false_iff_not] at hb))) | (refine yy ?_) | (refine yy2 ?_ ?_ <;> (intro hcmp; try simp only [cmp] at hcmp)) | (refine at_call 67 ?_; refine y_call (hc := (hC)) ?_) | (refine at_append ?_; first | (refine z_append (fun kv => ?_)) | (refine z_append_suf (fun sx sp kv hsx hsp hsl => ?_))) | (refine at_nil ?_; refine z_nil [0, 1, 2, 3, 4, 5, 10, 11, 12, 14, 15, 25, 35] ?_) | (refine tc_seq fun K hK => ?_) | (refine tc_at 6 ?_; refine z_draw [] (lin [4, 8, 12, 16, 1, 21, 26, 28]) ?_) | (refine tc_at 8 ?_; refine z_draw [11] (lin [0, 8, 12, 16, 24, 28, 32, 5, 37, 22, 42, 47, 48]) ?_) | (refine tc_at 9 ?_; refine z_draw [11] (lin [0, 8, 12, 16, 24, 28, 32, 5, 37, 22, 42, 47, 48]) ?_) | (apply_assumption -exfalso -symm))); all_goals (try refine unhalt ?_))
    refine tc_row (t := 11) (e := 48) (sz := 4) rfl rfl ?_
    refine y_famx (ι := Nat × List I.Cmd × Nat) [11, 14, 15, 22, 23, 24, 25, 26, 27, 28, 29, 30, 31, 32, 33, 34, 35, 36, 37, 38, 39, 40, 41, 42, 43, 44, 45, 46, 47, 48, 49, 50, 51, 52, 53, 54, 55, 56, 57, 58, 59] [11] (fun x => [(14, .d (.int .i64 x.1)), (11, .own 11 x.2.2)]) (fun x => [(11, .row 48 4 true (x.2.1.map dCmd) x.2.2)])
      (fun x => x.1 ≤ ks.length ∧ x.2.1 = (ks.take x.1).flatMap (fun k => Im.fwd k (Im.tr t ([] : List UInt8) (Im.runC size l) f (Im.child t n k))) ∧ x.2.1.length ≤ x.1 * 2000000) (fun x => ks.length - x.1) (0, [], 0) ⟨by simp, rfl, by simp⟩  fun ⟨j, cl, ver⟩ ⟨hj, hcl, hcll⟩ => ?_
    dsimp only [List.cons_append, List.nil_append] at hj hcl hcll ⊢
    rcases Nat.lt_or_ge j ks.length with hjl | hjl
    · have hkm := List.getElem_mem hjl
      have hq4 := hk4 _ hkm
      have hPk := hP _ hkm
      have hofk := ih' _ hkm
      have htlk := htl ks[j]
      have hgetk : (ks.map dInt)[j]? = some (.int .i64 (ks[j] : Nat)) := by rw [List.getElem?_map, List.getElem?_eq_getElem hjl]; rfl
      have hfl := Im.fwd_len ks[j] (Im.tr t ([] : List UInt8) (Im.runC size l) f (Im.child t n ks[j]))
      have hfw := ref_forward_fn gl (Im.tr t ([] : List UInt8) (Im.runC size l) f (Im.child t n ks[j])) ks[j] hq4 (by omega)
      have hstep : (ks.take (j + 1)).flatMap (fun k => Im.fwd k (Im.tr t ([] : List UInt8) (Im.runC size l) f (Im.child t n k))) = cl ++ Im.fwd ks[j] (Im.tr t ([] : List UInt8) (Im.runC size l) f (Im.child t n ks[j])) := by rw [← get_take _ hjl, List.flatMap_append, hcl]; simp
      generalize hB : Im.tr t ([] : List UInt8) (Im.runC size l) f (Im.child t n ks[j]) = B at htlk hofk hfw hfl hstep
      generalize hq : ks[j] = q at hq4 hPk hofk hgetk hfw hfl hstep
      generalize hF : Im.fwd q B = Fw at hfw hfl hstep
      ((repeat' (first | (refine tr_at 5 ?_; (refine z_box 1005 ?_)) | (refine tr_at 47 ?_; refine z_append0 1047 ?_) | (refine tr_at 59 ?_; refine z_append0 1059 ?_) | (refine yyp ?_; (try refine s_bu ?_ ?_ <;> (intro hb; try simp only [decide_eq_true_eq, decide_eq_false_iff_not] at hb))) | (refine yy ?_) | (refine yy2 ?_ ?_ <;> (intro hcmp; try simp only [cmp] at hcmp)) | (refine at_call 68 ?_; refine y_call (hc := (hPk)) ?_) | (refine at_call 21 ?_; refine y_call (hc := (hofk)) ?_) | (refine at_call 69 ?_; refine y_call (hc := (hfw)) ?_) | (refine at_append ?_; first | (refine z_append (fun kv => ?_)) | (refine z_append_suf (fun sx sp kv hsx hsp hsl => ?_))) | (refine at_nil ?_; refine z_nil [0, 1, 2, 3, 4, 5, 10, 11, 12, 14, 15, 25, 35] ?_) | (refine tc_seq fun K hK => ?_) | (refine tc_at 6 ?_; refine z_draw [] (lin [4, 8, 12, 16, 1, 21, 26, 28]) ?_) | (refine tc_at 8 ?_; refine z_draw [11] (lin [0, 8, 12, 16, 24, 28, 32, 5, 37, 22, 42, 47, 48]) ?_) | (refine tc_at 9 ?_; refine z_draw [11] (lin [0, 8, 12, 16, 24, 28, 32, 5, 37, 22, 42, 47, 48]) ?_) | (apply_assumption -exfalso -symm))); all_goals (try refine unhalt ?_))
      refine ⟨(j + 1, cl ++ Fw, kv), ⟨by dsimp only; omega, ?_, ?_⟩, by dsimp only; omega, ?_⟩
      · dsimp only
        rw [hstep]
      · dsimp only
        rw [List.length_append]
        omega
      · dsimp only
        rw [List.map_append]
        exact y_wk
    · have hje : j = ks.length := by omega
      subst hje
      rw [List.take_length] at hcl
      have hputk := hput cl hcl
      rw [← hcl] at hres
      rw [hres] at hputk
      unfold dBytes at hputk
      ((repeat' (first | (refine tr_at 5 ?_; (refine z_box 1005 ?_)) | (refine tr_at 47 ?_; refine z_append0 1047 ?_) | (refine tr_at 59 ?_; refine z_append0 1059 ?_) | (refine yyp ?_; (try refine s_bu ?_ ?_ <;> (intro hb; try simp only [decide_eq_true_eq, decide_eq_false_iff_not] at hb))) | (refine yy ?_) | (refine yy2 ?_ ?_ <;> (intro hcmp; try simp only [cmp] at hcmp)) | (refine at_append ?_; first | (refine z_append (fun kv => ?_)) | (refine z_append_suf (fun sx sp kv hsx hsp hsl => ?_))) | (refine at_nil ?_; refine z_nil [0, 1, 2, 3, 4, 5, 10, 11, 12, 14, 15, 25, 35] ?_) | (refine tc_seq fun K hK => ?_) | (refine tc_at 6 ?_; refine z_draw [] (lin [4, 8, 12, 16, 1, 21, 26, 28]) ?_) | (refine tc_at 8 ?_; refine z_draw [11] (lin [0, 8, 12, 16, 24, 28, 32, 5, 37, 22, 42, 47, 48]) ?_) | (refine tc_at 9 ?_; refine z_draw [11] (lin [0, 8, 12, 16, 24, 28, 32, 5, 37, 22, 42, 47, 48]) ?_) | (apply_assumption -exfalso -symm))); all_goals (try refine unhalt ?_))
      (refine tc_ret (y_reti (h := by (repeat (first | exact ResE.nil | apply ResE.tmp rfl (by exact ArgE.same _) | apply ResE.cells rfl rfl (by (repeat (first | exact Cut.done _ | apply Cut.take | apply Cut.skip)); fail_if_success intros) (by (repeat (first | exact ToDs.nil | apply ToDs.cons (ToD.d _) | apply ToDs.cons (ToD.nils _) | apply ToDs.cons (ToD.own rfl))); fail_if_success intros) (by rfl) | apply ResE.cell rfl rfl rfl (by exact ArgE.same _))); fail_if_success intros) ?_))
      simp only [oneOf]
      ((repeat' (first | (refine tr_at 4 ?_; (refine z_box 4 ?_)) | (refine tr_at 32 ?_; (refine z_lit 32 ?_)) | (refine tr_at 33 ?_; refine z_append0 33 ?_) | (refine yyp ?_; (try refine s_bu ?_ ?_ <;> (intro hb; try simp only [decide_eq_true_eq, decide_eq_false_iff_not] at hb))) | (refine yy ?_) | (refine yy2 ?_ ?_ <;> (intro hcmp; try simp only [cmp] at hcmp)) | (refine at_append ?_; first | (refine z_append (fun kv => ?_)) | (refine z_append_suf (fun sx sp kv hsx hsp hsl => ?_))) | (refine at_nil ?_; refine z_nil [0, 1, 2, 3, 4, 8, 9, 10] ?_))); all_goals (try refine unhalt ?_))
      generalize hx : (-2147483648 + (size - l[n.toNat].below * 4) : Int) = ws at *
      generalize (I.putC (cl ++ [(⟨0, ws, -2147483136 + l[n.toNat].entry, []⟩ : I.Cmd)])).2 = pe at *
      ((repeat' (first | (refine tr_at 4 ?_; (refine z_box 4 ?_)) | (refine tr_at 32 ?_; (refine z_lit 32 ?_)) | (refine tr_at 33 ?_; refine z_append0 33 ?_) | (refine yyp ?_; (try refine s_bu ?_ ?_ <;> (intro hb; try simp only [decide_eq_true_eq, decide_eq_false_iff_not] at hb))) | (refine yy ?_) | (refine yy2 ?_ ?_ <;> (intro hcmp; try simp only [cmp] at hcmp)) | (refine at_call 42 ?_; refine y_call (hc := (hwk)) ?_) | (refine at_append ?_; first | (refine z_append (fun kv => ?_)) | (refine z_append_suf (fun sx sp kv hsx hsp hsl => ?_))) | (refine at_call 39 ?_; refine y_call (hc := (hputk)) ?_) | (refine at_nil ?_; refine z_nil [0, 1, 2, 3, 4, 8, 9, 10] ?_) | (refine tc_seq fun K hK => ?_) | (refine tc_at 2 ?_; refine z_draw [16] (lin [0, 4, 8, 12, 16, 28, 32, 36, 40, 21, 45, 48, 52, 26, 56, 62, 67, 68]) ?_) | (apply_assumption -exfalso -symm))); all_goals (try refine unhalt ?_))
      (refine tc_ret (y_ret ?_))
      rfl
set_option maxRecDepth 100000 in
set_option maxHeartbeats 8000000 in
theorem rload_o (gl : List (Nat × List D)) (t : To.Topo) (size : Int) (l : List Im.Obj) (hf : Im.Fine t size l) {n0 : Int} (h00 : 0 ≤ n0) (h01 : n0 < t.nodes) :
    FnE Tryz.prog gl 19 [.d (dTopo t), .d (.int .i64 n0), .d (.int .i64 size), .d (.list 4 (l.map dObj))] [] (fun v H1 => ∃ kv, v = .own 1 kv ∧ H1 = [(1, .row 5 1 true ((Im.load t l n0).map dByte) kv)]) := by
    obtain ⟨i, hi, e0⟩ := Im.place hf.may h00 h01
    have hle := Im.order_le hf.may
    subst e0
    have ih := rload_fn gl t size l hf 8
    unfold Im.load
    have hmay := hf.may
    have hr := (To.order_good hmay.sound).range _ (List.getElem_mem hi)
    unfold To.inR at hr
    obtain ⟨hn0, hn1⟩ := hr
    have hch := fun k hk => Im.child_at (k := k) hmay hi hk
    generalize (To.order t)[i].node = n at hn0 hn1 hch ⊢
    have hC : FnD Tryz.prog gl 67 [.d (dTopo t), .d (.int .i64 n)] (fun v => v = .tup [.d (.list 1 ((To.kids t n).map dInt)), .d (.int .i64 0)]) := by
      have := ref_children_fn gl t n
      unfold To.children at this
      rw [if_pos hmay, if_neg (by omega)] at this
      exact this
    have hP : ∀ k ∈ To.kids t n, FnD Tryz.prog gl 68 [.d (dTopo t), .d (.int .i64 n), .d (.int .i64 (k : Nat))] (fun v => v = .d (.int .i64 (Im.child t n k))) := fun k hk => by
      have := ref_child_fn gl t n (k : Nat)
      rw [if_pos hmay] at this
      exact this
    have hk4 := fun k (hk : k ∈ To.kids t n) => Im.kids_lt hk
    have hkl := Im.kids_len t n
    have htl := fun k => Im.tr_len t I.bootB (Im.loadC l) (by decide) 8 (Im.child t n k)
    have hlen := hf.len
    have hnl : n.toNat < l.length := by omega
    have hob : Im.obj l n = l[n.toNat] := by
      unfold Im.obj
      rw [List.getD_eq_getElem?_getD, List.getElem?_eq_getElem hnl]
      rfl
    have hgeto : (l.map dObj)[n.toNat]? = some (.agg [.list 1 (l[n.toNat].code.map dByte), .int .i64 l[n.toNat].entry, .int .i64 l[n.toNat].below, .int .i64 l[n.toNat].above]) := by rw [List.getElem?_map, List.getElem?_eq_getElem hnl]; rfl
    have hcl32 := (hf.code n).1
    rw [hob] at hcl32
    have hput : ∀ cl : List I.Cmd, cl = (To.kids t n).flatMap (fun k => Im.fwd k (Im.tr t I.bootB (Im.loadC l) 8 (Im.child t n k))) → FnD Tryz.prog gl 39 [.d (.list 4 (cl.map dCmd ++ [dCmd ((Im.loadC l) n)]))] (fun v => v = .tup [.d (dBytes (I.putC (cl ++ [(Im.loadC l) n])).1), .d (.int .i64 (I.putC (cl ++ [(Im.loadC l) n])).2)]) := fun cl hcl => by
      have := ref_put38_fn gl (cl ++ [(Im.loadC l) n]) (fun c hc => by
        rcases List.mem_append.1 hc with hc | hc
        · rw [hcl] at hc
          obtain ⟨k, hk, hc⟩ := List.mem_flatMap.1 hc
          exact Im.fwd_wf (hk4 k hk) _ c hc
        · rw [List.mem_singleton] at hc
          subst hc
          exact (hf.load n).2)
      rwa [List.map_append] at this
    have htr : Im.tr t I.bootB (Im.loadC l) 9 n = I.bootB ++ (I.putC ((To.kids t n).flatMap (fun k => Im.fwd k (Im.tr t I.bootB (Im.loadC l) 8 (Im.child t n k))) ++ [(Im.loadC l) n])).1 := rfl
    have hpl := Im.putC_len ((To.kids t n).flatMap (fun k => Im.fwd k (Im.tr t I.bootB (Im.loadC l) 8 (Im.child t n k))) ++ [(Im.loadC l) n])
    rw [htr]
    generalize hres : (I.putC ((To.kids t n).flatMap (fun k => Im.fwd k (Im.tr t I.bootB (Im.loadC l) 8 (Im.child t n k))) ++ [(Im.loadC l) n])).1 = res at hpl ⊢
    have ih' : ∀ k ∈ To.kids t n, FnD Tryz.prog gl 19 [.d (dTopo t), .d (.int .i64 (Im.child t n k)), .d (.int .i64 size), .d (.list 4 (l.map dObj))] (fun v => v = .d (dBytes (Im.tr t I.bootB (Im.loadC l) 8 (Im.child t n k)))) := fun k hk => by
      obtain ⟨j, hij, hj, e⟩ := hch k hk
      have := ih j hj (by omega)
      rw [e] at this
      exact this
    clear htr hch
    rw [show Im.loadC l n = ⟨1, -2147483136, 0, l[n.toNat].code⟩ by unfold Im.loadC; rw [hob]] at *
    generalize To.kids t n = ks at *
    unfold dTopo at hC hP ih' ⊢
    (refine y_entere Tryz.func19 Tryz.ntmps19 Tryz.results19 fun w M E b0 => ?_; simp only [slots, List.map_cons, List.map_nil, List.zipIdx_cons, List.zipIdx_nil, Nat.reduceAdd])
    ((repeat' (first | (refine tr_at 4 ?_; (refine z_box 4 ?_)) | (refine tr_at 16 ?_; (refine tr_keep [0, 1, 2, 3, 4, 8, 9, 10, 12, 13, 14, 15, 16] ?_); refine y_inline Tryz.func38 Tryz.ntmps38 Tryz.results38 fun tm sy => ?_; simp only [slots, shift, zipPs, List.nil_append, List.cons_append, List.append_nil, List.map_cons, List.map_nil, List.zipIdx_cons, List.zipIdx_nil, Nat.reduceAdd]; refine halt ?_) | (refine tr_at 24 ?_; (refine z_lit 24 ?_)) | (refine tr_at 25 ?_; refine z_append0 25 ?_) | (refine tr_at 33 ?_; refine z_append0 33 ?_) | (refine yyp ?_; (try refine s_bu ?_ ?_ <;> (intro hb; try simp only [decide_eq_true_eq, decide_eq_false_iff_not] at hb))) | (refine yy ?_) | (refine yy2 ?_ ?_ <;> (intro hcmp; try simp only [cmp] at hcmp)) | (refine at_append ?_; first | (refine z_append (fun kv => ?_)) | (refine z_append_suf (fun sx sp kv hsx hsp hsl => ?_))) | (refine at_nil ?_; refine z_nil [0, 1, 2, 3, 4, 8, 9, 10] ?_) | (refine tc_seq fun K hK => ?_) | (apply_assumption -exfalso -symm))); all_goals (try refine unhalt ?_))
    ((repeat' (first | (refine tr_at 5 ?_; (refine z_box 1005 ?_)) | (refine tr_at 47 ?_; refine z_append0 1047 ?_) | (refine tr_at 59 ?_; refine z_append0 1059 ?_) | (refine yyp ?_; (try refine s_bu ?_ ?_ <;> (intro hb; try simp only [decide_eq_true_eq, decide_eq_false_iff_not] at hb))) | (refine yy ?_) | (refine yy2 ?_ ?_ <;> (intro hcmp; try simp only [cmp] at hcmp)) | (refine at_call 67 ?_; refine y_call (hc := (hC)) ?_) | (refine at_append ?_; first | (refine z_append (fun kv => ?_)) | (refine z_append_suf (fun sx sp kv hsx hsp hsl => ?_))) | (refine at_nil ?_; refine z_nil [0, 1, 2, 3, 4, 5, 10, 11, 12, 14, 15, 25, 35] ?_) | (refine tc_seq fun K hK => ?_) | (refine tc_at 6 ?_; refine z_draw [] (lin [4, 8, 12, 16, 1, 21, 26, 28]) ?_) | (refine tc_at 8 ?_; refine z_draw [11] (lin [0, 8, 12, 16, 24, 28, 32, 5, 37, 22, 42, 47, 48]) ?_) | (refine tc_at 9 ?_; refine z_draw [11] (lin [0, 8, 12, 16, 24, 28, 32, 5, 37, 22, 42, 47, 48]) ?_) | (apply_assumption -exfalso -symm))); all_goals (try refine unhalt ?_))
    refine tc_row (t := 11) (e := 48) (sz := 4) rfl rfl ?_
    refine y_famx (ι := Nat × List I.Cmd × Nat) [11, 14, 15, 22, 23, 24, 25, 26, 27, 28, 29, 30, 31, 32, 33, 34, 35, 36, 37, 38, 39, 40, 41, 42, 43, 44, 45, 46, 47, 48, 49, 50, 51, 52, 53, 54, 55, 56, 57, 58, 59] [11] (fun x => [(14, .d (.int .i64 x.1)), (11, .own 11 x.2.2)]) (fun x => [(11, .row 48 4 true (x.2.1.map dCmd) x.2.2)])
      (fun x => x.1 ≤ ks.length ∧ x.2.1 = (ks.take x.1).flatMap (fun k => Im.fwd k (Im.tr t I.bootB (Im.loadC l) 8 (Im.child t n k))) ∧ x.2.1.length ≤ x.1 * 2000000) (fun x => ks.length - x.1) (0, [], 0) ⟨by simp, rfl, by simp⟩  fun ⟨j, cl, ver⟩ ⟨hj, hcl, hcll⟩ => ?_
    dsimp only [List.cons_append, List.nil_append] at hj hcl hcll ⊢
    rcases Nat.lt_or_ge j ks.length with hjl | hjl
    · have hkm := List.getElem_mem hjl
      have hq4 := hk4 _ hkm
      have hPk := hP _ hkm
      have hofk := ih' _ hkm
      have htlk := htl ks[j]
      have hgetk : (ks.map dInt)[j]? = some (.int .i64 (ks[j] : Nat)) := by rw [List.getElem?_map, List.getElem?_eq_getElem hjl]; rfl
      have hfl := Im.fwd_len ks[j] (Im.tr t I.bootB (Im.loadC l) 8 (Im.child t n ks[j]))
      have hfw := ref_forward_fn gl (Im.tr t I.bootB (Im.loadC l) 8 (Im.child t n ks[j])) ks[j] hq4 (by omega)
      have hstep : (ks.take (j + 1)).flatMap (fun k => Im.fwd k (Im.tr t I.bootB (Im.loadC l) 8 (Im.child t n k))) = cl ++ Im.fwd ks[j] (Im.tr t I.bootB (Im.loadC l) 8 (Im.child t n ks[j])) := by rw [← get_take _ hjl, List.flatMap_append, hcl]; simp
      generalize hB : Im.tr t I.bootB (Im.loadC l) 8 (Im.child t n ks[j]) = B at htlk hofk hfw hfl hstep
      generalize hq : ks[j] = q at hq4 hPk hofk hgetk hfw hfl hstep
      generalize hF : Im.fwd q B = Fw at hfw hfl hstep
      ((repeat' (first | (refine tr_at 5 ?_; (refine z_box 1005 ?_)) | (refine tr_at 47 ?_; refine z_append0 1047 ?_) | (refine tr_at 59 ?_; refine z_append0 1059 ?_) | (refine yyp ?_; (try refine s_bu ?_ ?_ <;> (intro hb; try simp only [decide_eq_true_eq, decide_eq_false_iff_not] at hb))) | (refine yy ?_) | (refine yy2 ?_ ?_ <;> (intro hcmp; try simp only [cmp] at hcmp)) | (refine at_call 68 ?_; refine y_call (hc := (hPk)) ?_) | (refine at_call 69 ?_; refine y_call (hc := (hfw)) ?_) | (refine at_append ?_; first | (refine z_append (fun kv => ?_)) | (refine z_append_suf (fun sx sp kv hsx hsp hsl => ?_))) | (refine at_call 19 ?_; refine y_call (hc := (hofk)) ?_) | (refine at_nil ?_; refine z_nil [0, 1, 2, 3, 4, 5, 10, 11, 12, 14, 15, 25, 35] ?_) | (refine tc_seq fun K hK => ?_) | (refine tc_at 6 ?_; refine z_draw [] (lin [4, 8, 12, 16, 1, 21, 26, 28]) ?_) | (refine tc_at 8 ?_; refine z_draw [11] (lin [0, 8, 12, 16, 24, 28, 32, 5, 37, 22, 42, 47, 48]) ?_) | (refine tc_at 9 ?_; refine z_draw [11] (lin [0, 8, 12, 16, 24, 28, 32, 5, 37, 22, 42, 47, 48]) ?_) | (apply_assumption -exfalso -symm))); all_goals (try refine unhalt ?_))
      refine ⟨(j + 1, cl ++ Fw, kv), ⟨by dsimp only; omega, ?_, ?_⟩, by dsimp only; omega, ?_⟩
      · dsimp only
        rw [hstep]
      · dsimp only
        rw [List.length_append]
        omega
      · dsimp only
        rw [List.map_append]
        exact y_wk
    · have hje : j = ks.length := by omega
      subst hje
      rw [List.take_length] at hcl
      have hputk := hput cl hcl
      rw [← hcl] at hres
      rw [hres] at hputk
      unfold dBytes at hputk
      ((repeat' (first | (refine tr_at 5 ?_; (refine z_box 1005 ?_)) | (refine tr_at 47 ?_; refine z_append0 1047 ?_) | (refine tr_at 59 ?_; refine z_append0 1059 ?_) | (refine yyp ?_; (try refine s_bu ?_ ?_ <;> (intro hb; try simp only [decide_eq_true_eq, decide_eq_false_iff_not] at hb))) | (refine yy ?_) | (refine yy2 ?_ ?_ <;> (intro hcmp; try simp only [cmp] at hcmp)) | (refine at_append ?_; first | (refine z_append (fun kv => ?_)) | (refine z_append_suf (fun sx sp kv hsx hsp hsl => ?_))) | (refine at_nil ?_; refine z_nil [0, 1, 2, 3, 4, 5, 10, 11, 12, 14, 15, 25, 35] ?_) | (refine tc_seq fun K hK => ?_) | (refine tc_at 6 ?_; refine z_draw [] (lin [4, 8, 12, 16, 1, 21, 26, 28]) ?_) | (refine tc_at 8 ?_; refine z_draw [11] (lin [0, 8, 12, 16, 24, 28, 32, 5, 37, 22, 42, 47, 48]) ?_) | (refine tc_at 9 ?_; refine z_draw [11] (lin [0, 8, 12, 16, 24, 28, 32, 5, 37, 22, 42, 47, 48]) ?_) | (apply_assumption -exfalso -symm))); all_goals (try refine unhalt ?_))
      (refine tc_ret (y_reti (h := by (repeat (first | exact ResE.nil | apply ResE.tmp rfl (by exact ArgE.same _) | apply ResE.cells rfl rfl (by (repeat (first | exact Cut.done _ | apply Cut.take | apply Cut.skip)); fail_if_success intros) (by (repeat (first | exact ToDs.nil | apply ToDs.cons (ToD.d _) | apply ToDs.cons (ToD.nils _) | apply ToDs.cons (ToD.own rfl))); fail_if_success intros) (by rfl) | apply ResE.cell rfl rfl rfl (by exact ArgE.same _))); fail_if_success intros) ?_))
      simp only [oneOf]
      ((repeat' (first | (refine tr_at 4 ?_; (refine z_box 4 ?_)) | (refine tr_at 24 ?_; (refine z_lit 24 ?_)) | (refine tr_at 25 ?_; refine z_append0 25 ?_) | (refine tr_at 33 ?_; refine z_append0 33 ?_) | (refine yyp ?_; (try refine s_bu ?_ ?_ <;> (intro hb; try simp only [decide_eq_true_eq, decide_eq_false_iff_not] at hb))) | (refine yy ?_) | (refine yy2 ?_ ?_ <;> (intro hcmp; try simp only [cmp] at hcmp)) | (refine at_append ?_; first | (refine z_append (fun kv => ?_)) | (refine z_append_suf (fun sx sp kv hsx hsp hsl => ?_))) | (refine at_nil ?_; refine z_nil [0, 1, 2, 3, 4, 8, 9, 10] ?_))); all_goals (try refine unhalt ?_))
      have hbo : I.bootB.length = 41 := by decide
      generalize (I.putC (cl ++ [(⟨1, -2147483136, 0, l[n.toNat].code⟩ : I.Cmd)])).2 = pe at *
      ((repeat' (first | (refine tr_at 4 ?_; (refine z_box 4 ?_)) | (refine tr_at 24 ?_; (refine z_lit 24 ?_)) | (refine tr_at 25 ?_; refine z_append0 25 ?_) | (refine tr_at 31 ?_; refine y_callG (hc := ref_boot_o gl) ?_) | (refine tr_at 33 ?_; refine z_append0 33 ?_) | (refine yyp ?_; (try refine s_bu ?_ ?_ <;> (intro hb; try simp only [decide_eq_true_eq, decide_eq_false_iff_not] at hb))) | (refine yy ?_) | (refine yy2 ?_ ?_ <;> (intro hcmp; try simp only [cmp] at hcmp)) | (refine at_append ?_; first | (refine z_append (fun kv => ?_)) | (refine z_append_suf (fun sx sp kv hsx hsp hsl => ?_))) | (refine at_call 39 ?_; refine y_call (hc := (hputk)) ?_) | (refine at_nil ?_; refine z_nil [0, 1, 2, 3, 4, 8, 9, 10] ?_) | (refine tc_seq fun K hK => ?_) | (apply_assumption -exfalso -symm))); all_goals (try refine unhalt ?_))
      refine tc_ret (y_orete (H1 := [(1, .row 5 1 true (I.bootB.map dByte ++ res.map dByte) kv)]) ⟨kv, rfl, ?_⟩)
      rw [List.map_append]
end Go.Proofs.YtcblefmjacofgaaGreatDoor
