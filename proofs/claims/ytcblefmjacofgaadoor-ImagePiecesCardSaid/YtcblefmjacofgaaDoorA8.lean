/- Parts: E6, E7, E8, E9, E10. -/
import Derived.Test.YtcblefmjacofgaaDoorA5
import Derived.Test.YtcblefmjacofgaaDoorTA
import Derived.Test.YtcblefmjacofgaaDoorA3
import Derived.Test.YtcblefmjacofgaaDoorA6
set_option linter.all false
set_option linter.unusedVariables false
set_option linter.unusedSimpArgs false
namespace Go.Proofs.YtcblefmjacofgaaDoor
open Go.RowKit
def dCmd (c : I.Cmd) : D := .agg [.int .u8 c.k, .int .i32 c.ad, .int .i32 c.to, dBytes c.b]
attribute [local irreducible] TR TC
set_option maxRecDepth 100000 in
theorem ref_boot_fn (gl : List (Nat × List D)) : FnD Tryd.prog gl 54 [] (fun v => v = .d (dBytes I.bootB)) := by
  (refine y_enter Tryd.func54 Tryd.ntmps54 Tryd.results54 fun w M => ?_; simp only [slots, List.map_cons, List.map_nil, List.zipIdx_cons, List.zipIdx_nil, Nat.reduceAdd])
  ((repeat' (first | (refine z_lit (d := 1) 1 ?_) | (refine yyp ?_; (try refine s_bu ?_ ?_ <;> (intro hb; try simp only [decide_eq_true_eq, decide_eq_false_iff_not] at hb))) | (refine yy ?_) | (refine yy2 ?_ ?_ <;> (intro hcmp; try simp only [cmp] at hcmp)) | (refine z_nil [0, 1] ?_) | (refine tc_seq fun K hK => ?_) | (apply_assumption -exfalso -symm))); all_goals (try refine unhalt ?_))
  (refine tc_ret (y_ret ?_))
  rfl
set_option maxRecDepth 100000 in
set_option maxHeartbeats 2000000 in
theorem ref_number_fn (gl : List (Nat × List D)) (bs : List UInt8) (hn : 4 ≤ bs.length) : FnD Tryd.prog gl 80 [.d (dBytes bs)] (fun v => v = .d (.int .i64 (I.num4 bs))) := by
  have h0 := (bs[0]'(by omega)).toNat_lt
  have h1 := (bs[1]'(by omega)).toNat_lt
  have h2 := (bs[2]'(by omega)).toNat_lt
  have h3 := (bs[3]'(by omega)).toNat_lt
  (refine y_enter Tryd.func80 Tryd.ntmps80 Tryd.results80 fun w M => ?_; simp only [slots, List.map_cons, List.map_nil, List.zipIdx_cons, List.zipIdx_nil, Nat.reduceAdd])
  ((repeat' (first | (refine yyp ?_; (try refine s_bu ?_ ?_ <;> (intro hb; try simp only [decide_eq_true_eq, decide_eq_false_iff_not] at hb))) | (refine yy ?_) | (refine yy2 ?_ ?_ <;> (intro hcmp; try simp only [cmp] at hcmp)) | (refine z_nil [0, 2, 3, 4, 5, 6] ?_) | (refine tc_seq fun K hK => ?_) | (refine z_draw (id := 1) [] (lin [0, 4, 16, 20, 40, 44, 64, 68, 9, 12, 25, 28, 32, 36, 49, 52, 56, 60, 73, 76, 80, 84, 88]) ?_) | (apply_assumption -exfalso -symm))); all_goals (try refine unhalt ?_))
  (refine tc_ret (y_ret ?_))
  unfold I.num4
  simp only [oneOf, List.getD_eq_getElem?_getD, List.getElem?_eq_getElem (show 0 < bs.length by omega), List.getElem?_eq_getElem (show 1 < bs.length by omega), List.getElem?_eq_getElem (show 2 < bs.length by omega), List.getElem?_eq_getElem (show 3 < bs.length by omega), Option.getD_some]
  congr 2
theorem mayC_eq (c : I.Cmd) : I.mayC c = decide ((c.k = 0 ∧ c.ad % 4 = 0 ∧ c.b.length = 0) ∨ (c.k = 1 ∧ c.to = 0 ∧ c.b.length ≤ 65536) ∨ (c.k = 2 ∧ c.ad + 2147483648 < 16 ∧ c.ad % 4 = 0 ∧ c.to = 0 ∧ c.b.length ≤ 64)) := by
  unfold I.mayC
  split
  · simp [*]
  · split
    · simp [*]
    · split
      · simp [*, Bool.and_assoc]
      · simp [*]
set_option maxRecDepth 100000 in
set_option maxHeartbeats 2000000 in
theorem ref_may38_fn (gl : List (Nat × List D)) (c : I.Cmd) (hw : c.Wf) : FnD Tryd.prog gl 81 [.d (dCmd c)] (fun v => v = .d (.bool (I.mayC c))) := by
  have hk := hw.k
  have ha0 := hw.a0
  have ha1 := hw.a1
  have ht0 := hw.t0
  have ht1 := hw.t1
  have htm : c.ad.tmod 4 = 0 ↔ c.ad % 4 = 0 := by rw [← Int.dvd_iff_tmod_eq_zero, ← Int.dvd_iff_emod_eq_zero]
  rw [mayC_eq c]
  (refine y_enter Tryd.func81 Tryd.ntmps81 Tryd.results81 fun w M => ?_; simp only [slots, List.map_cons, List.map_nil, List.zipIdx_cons, List.zipIdx_nil, Nat.reduceAdd])
  ((repeat' (first | (refine z_box (d := 1) 1 ?_) | (refine yyp ?_; (try refine s_bu ?_ ?_ <;> (intro hb; try simp only [decide_eq_true_eq, decide_eq_false_iff_not] at hb))) | (refine yy ?_) | (refine yy2 ?_ ?_ <;> (intro hcmp; try simp only [cmp] at hcmp)) | (refine z_nil [0, 1, 2, 3, 4, 5, 6, 18, 29] ?_) | (refine tc_seq fun K hK => ?_) | (apply_assumption -exfalso -symm))); all_goals (try refine unhalt ?_))
  all_goals
    (refine tc_ret (y_ret ?_))
    simp only [oneOf, V.d.injEq, D.bool.injEq, true_eq_decide_iff, false_eq_decide_iff]
    omega
end Go.Proofs.YtcblefmjacofgaaDoor
namespace Go.Proofs.YtcblefmjacofgaaDoor
open Go.RowKit
theorem FnD.at {P : Program} {gl : List (Nat × List D)} {f : FuncId} {args args' : List V} {R : V → Prop} (h : FnD P gl f args R) (e : args' = args) : FnD P gl f args' R := e ▸ h
theorem slice_all {α β : Type} (f : α → β) (l : List α) (k : Nat) : ((l.map f).drop k).take ((l.map f).length - k) = (l.drop k).map f := by
  rw [List.take_of_length_le (by simp), List.map_drop]
theorem slice_lo {α β : Type} (f : α → β) (l : List α) (m : Nat) : ((l.map f).drop 0).take (m - 0) = (l.take m).map f := by
  simp [List.map_take]
theorem num4_lt (b : List UInt8) : I.num4 b < 4294967296 := by
  unfold I.num4
  have h0 := (b.getD 0 0).toNat_lt
  have h1 := (b.getD 1 0).toNat_lt
  have h2 := (b.getD 2 0).toNat_lt
  have h3 := (b.getD 3 0).toNat_lt
  omega
theorem i32_in (n : Nat) : -2147483648 ≤ I.i32 n ∧ I.i32 n ≤ 2147483647 := by unfold I.i32; omega
theorem wrap_i32 (n : Nat) : IntKind.i32.wrap (n : Int) = I.i32 n := by rw [IntKind.wrap_i32]; unfold I.i32; omega
def vGet (x : Option (List I.Cmd × List UInt8)) : V := match x with
  | some (l, r) => .tup [.d (.list 4 (l.map dCmd)), .d (dBytes r), .d (.int .i64 0)]
  | none => .tup [.d (.list 4 []), .d (dBytes []), .d (.int .i64 380)]
theorem ref_number_at (gl : List (Nat × List D)) (bs : List UInt8) {xs : List D} (hx : xs = bs.map dByte) (hn : 4 ≤ bs.length) : FnD Tryd.prog gl 80 [.d (.list 1 xs)] (fun v => v = .d (.int .i64 (I.num4 bs))) := by
  subst hx
  exact ref_number_fn gl bs hn
theorem getC_short {f : Nat} {b : List UInt8} (h : b.length < 12) : I.getC f b = none := by
  cases f with
  | zero => rfl
  | succ f => unfold I.getC; rw [if_pos h]
theorem getC_kind {f : Nat} {b : List UInt8} (h1 : 12 ≤ b.length) (h : 2 < I.num4 b) : I.getC f b = none := by
  cases f with
  | zero => rfl
  | succ f => unfold I.getC; rw [if_neg (by omega), if_pos h]
theorem getC_run {f : Nat} {b : List UInt8} (hf : b.length < f) (h1 : 12 ≤ b.length) (h : I.num4 b = 0) :
    I.getC f b = if I.mayC ⟨I.num4 b, I.i32 (I.num4 (b.drop 4)), I.i32 (I.num4 (b.drop 8)), []⟩ then some ([⟨I.num4 b, I.i32 (I.num4 (b.drop 4)), I.i32 (I.num4 (b.drop 8)), []⟩], b.drop 12) else none := by
  cases f with
  | zero => omega
  | succ f => unfold I.getC; rw [if_neg (by omega), if_neg (by omega), if_pos h, h]
theorem getC_long {f : Nat} {b : List UInt8} (h1 : 12 ≤ b.length) (h2 : ¬ 2 < I.num4 b) (h : ¬ I.num4 b = 0) (h3 : b.length - 12 < I.num4 (b.drop 8)) : I.getC f b = none := by
  cases f with
  | zero => rfl
  | succ f => unfold I.getC; rw [if_neg (by omega), if_neg h2, if_neg h, if_pos h3]
theorem getC_next {f : Nat} {b : List UInt8} (hf : b.length < f) (h1 : 12 ≤ b.length) (h2 : ¬ 2 < I.num4 b) (h : ¬ I.num4 b = 0) (h3 : ¬ b.length - 12 < I.num4 (b.drop 8)) :
    I.getC f b = if I.mayC ⟨I.num4 b, I.i32 (I.num4 (b.drop 4)), 0, (b.drop 12).take (I.num4 (b.drop 8))⟩ then
      (I.getC (f - 1) ((b.drop 12).drop (I.num4 (b.drop 8)))).map (fun p => (⟨I.num4 b, I.i32 (I.num4 (b.drop 4)), 0, (b.drop 12).take (I.num4 (b.drop 8))⟩ :: p.1, p.2)) else none := by
  cases f with
  | zero => omega
  | succ f =>
    rw [Nat.add_sub_cancel]
    conv => lhs; unfold I.getC
    rw [if_neg (by omega), if_neg h2, if_neg h, if_neg h3]
    split
    · generalize I.getC f _ = x
      rcases x with _ | ⟨a, b⟩ <;> rfl
    · rfl
attribute [local irreducible] TR TC
set_option maxRecDepth 100000 in
set_option maxHeartbeats 2000000 in
theorem ref_get38_fn (gl : List (Nat × List D)) (bs : List UInt8) (hn : bs.length ≤ 1000000000) : FnD Tryd.prog gl 55 [.d (dBytes bs)] (fun v => v = vGet (I.getCs bs)) := by
  (refine y_enter Tryd.func55 Tryd.ntmps55 Tryd.results55 fun w M => ?_; simp only [slots, List.map_cons, List.map_nil, List.zipIdx_cons, List.zipIdx_nil, Nat.reduceAdd])
  ((repeat' (first | (refine tr_at 31 ?_; refine z_p w_buildn ?_) | (refine z_alloc (d := 9) 9 ?_) | (refine z_append0 (d := 47) 47 ?_) | (refine z_lit (d := 57) 57 ?_) | (refine z_append0 (d := 58) 58 ?_) | (refine z_append0 (d := 64) 64 ?_) | (refine yyp ?_; (try refine s_bu ?_ ?_ <;> (intro hb; try simp only [decide_eq_true_eq, decide_eq_false_iff_not] at hb))) | (refine yy ?_) | (refine yy2 ?_ ?_ <;> (intro hcmp; try simp only [cmp] at hcmp)) | (refine z_append (fun kv => ?_)) | (refine z_append_suf (fun sx sp kv hsx hsp hsl => ?_)) | (refine z_nil [0, 2, 3, 4, 5, 6, 7, 8, 9, 10, 13, 25, 33, 41, 54, 60] ?_) | (refine tc_seq fun K hK => ?_) | (refine z_draw (id := 3) [] (lin [0, 8, 12, 20, 24, 6, 18, 30, 32, 36, 40]) ?_) | (refine z_draw (id := 12) [5, 7] (lin [0, 8, 12, 16, 5, 23, 24, 31]) ?_) | (apply_assumption -exfalso -symm))); all_goals (try refine unhalt ?_))
  refine tc_row (t := 5) (e := 47) (sz := 4) rfl rfl ?_
  refine tc_fam (ι := List UInt8 × List I.Cmd × Nat) (fun i => ⟨[(0, .d (.list 1 (i.1.map dByte))), (5, .own 5 i.2.2)], [(5, .row 47 4 true (i.2.1.map dCmd) i.2.2)], gl⟩)
    (fun i => i.1.length + i.2.1.length ≤ bs.length ∧ ∃ f, i.1.length < f ∧ I.getCs bs = (I.getC f i.1).map (fun p => (i.2.1 ++ p.1, p.2))) (fun i => i.1.length) (bs, [], 0) ⟨by simp, _, Nat.lt_succ_self _, by unfold I.getCs; cases I.getC (bs.length + 1) bs <;> rfl⟩ y_wk fun ⟨r, l, ver⟩ ⟨hlen, f, hf, hget⟩ => ?_
  dsimp only at hlen hf hget ⊢
  have hk1 := num4_lt r
  have hk2 := num4_lt (r.drop 4)
  have hk3 := num4_lt (r.drop 8)
  have hw0 : (⟨I.num4 r, I.i32 (I.num4 (r.drop 4)), I.i32 (I.num4 (r.drop 8)), []⟩ : I.Cmd).k ≤ 255 → I.Cmd.Wf ⟨I.num4 r, I.i32 (I.num4 (r.drop 4)), I.i32 (I.num4 (r.drop 8)), []⟩ := fun h => ⟨h, (i32_in _).1, (i32_in _).2, (i32_in _).1, (i32_in _).2⟩
  have hw1 : I.num4 r ≤ 255 → I.Cmd.Wf ⟨I.num4 r, I.i32 (I.num4 (r.drop 4)), 0, (r.drop 12).take (I.num4 (r.drop 8))⟩ := fun h => ⟨h, (i32_in _).1, (i32_in _).2, by dsimp only; omega, by dsimp only; omega⟩
  ((repeat' (first | (refine tr_at 31 ?_; refine z_p w_buildn ?_) | (refine z_alloc (d := 9) 9 ?_) | (refine z_append0 (d := 47) 47 ?_) | (refine z_lit (d := 57) 57 ?_) | (refine z_append0 (d := 58) 58 ?_) | (refine z_append0 (d := 64) 64 ?_) | (refine yyp ?_; (try refine s_bu ?_ ?_ <;> (intro hb; try simp only [decide_eq_true_eq, decide_eq_false_iff_not] at hb))) | (refine yy ?_) | (refine yy2 ?_ ?_ <;> (intro hcmp; try simp only [cmp] at hcmp)) | (refine y_call (hc := (by first | exact ref_number_at gl r rfl (by omega) | exact ref_number_at gl (r.drop 4) (slice_all ..) (by simp; omega) | exact ref_number_at gl (r.drop 8) (slice_all ..) (by simp; omega))) ?_) | (refine z_append (fun kv => ?_)) | (refine z_append_suf (fun sx sp kv hsx hsp hsl => ?_)) | (refine y_call (hc := (by first | (refine FnD.at (ref_may38_fn gl ⟨I.num4 r, I.i32 (I.num4 (r.drop 4)), I.i32 (I.num4 (r.drop 8)), []⟩ (hw0 ?_)) ?_; (dsimp only; omega); (simp only [dCmd, dBytes, wrap_i32, List.map_nil]; done)) | (refine FnD.at (ref_may38_fn gl ⟨I.num4 r, I.i32 (I.num4 (r.drop 4)), 0, (r.drop 12).take (I.num4 (r.drop 8))⟩ (hw1 ?_)) ?_; omega; (simp only [dCmd, dBytes, wrap_i32, slice_all, slice_lo]; done)))) ?_; (try refine s_bu ?_ ?_ <;> (intro hb; try simp only [decide_eq_true_eq, decide_eq_false_iff_not] at hb))) | (refine z_nil [0, 2, 3, 4, 5, 6, 7, 8, 9, 10, 13, 25, 33, 41, 54, 60] ?_) | (refine tc_seq fun K hK => ?_) | (refine z_draw (id := 3) [] (lin [0, 8, 12, 20, 24, 6, 18, 30, 32, 36, 40]) ?_) | (refine z_draw (id := 12) [5, 7] (lin [0, 8, 12, 16, 5, 23, 24, 31]) ?_) | (apply_assumption -exfalso -symm))); all_goals (try refine unhalt ?_))
  · (refine tc_ret (y_ret ?_))
    rw [hget, getC_kind (by omega) (by omega)]
    rfl
  · (refine tc_ret (y_ret ?_))
    rw [hget, getC_run hf (by omega) (by omega), if_pos hb]
    simp only [vGet, Option.map_some, List.map_append, List.map_cons, List.map_nil, dCmd, dBytes, slice_all, wrap_i32]
    rfl
  · (refine tc_ret (y_ret ?_))
    rw [hget, getC_run hf (by omega) (by omega), if_neg (by simp [hb])]
    rfl
  · (refine tc_ret (y_ret ?_))
    simp only [List.length_take, List.length_drop, List.length_map] at hcmp
    rw [hget, getC_long (by omega) (by omega) (by omega) (by omega)]
    rfl
  · simp only [List.length_take, List.length_drop, List.length_map] at hcmp
    refine ⟨((r.drop 12).drop (I.num4 (r.drop 8)), l ++ [⟨I.num4 r, I.i32 (I.num4 (r.drop 4)), 0, (r.drop 12).take (I.num4 (r.drop 8))⟩], kv), ⟨?_, f - 1, ?_, ?_⟩, ?_, ?_⟩
    · simp only [List.length_drop, List.length_append, List.length_cons, List.length_nil]; omega
    · simp only [List.length_drop]; omega
    · dsimp only
      rw [hget, getC_next hf (by omega) (by omega) (by omega) (by omega), if_pos hb, Option.map_map]
      congr 1
      funext p
      simp
    · simp only [List.length_drop]; omega
    · dsimp only
      simp only [slice_all, slice_lo, wrap_i32, List.map_append, List.map_cons, List.map_nil, dCmd, dBytes]
      exact y_wk
  · (refine tc_ret (y_ret ?_))
    simp only [List.length_take, List.length_drop, List.length_map] at hcmp
    rw [hget, getC_next hf (by omega) (by omega) (by omega) (by omega), if_neg (by simp [hb])]
    rfl
  · (refine tc_ret (y_ret ?_))
    rw [hget, getC_short (by omega)]
    rfl
end Go.Proofs.YtcblefmjacofgaaDoor
namespace Go.Proofs.YtcblefmjacofgaaDoor
open Go.RowKit
def dObj (o : Im.Obj) : D := .agg [dBytes o.code, .int .i64 o.entry, .int .i64 o.below, .int .i64 o.above]
attribute [local irreducible] TR TC
set_option maxRecDepth 100000 in
set_option maxHeartbeats 2000000 in
theorem ref_may03_fn (gl : List (Nat × List D)) (n : Int) : FnD Tryd.prog gl 30 [.d (.int .i64 n)] (fun v => v = .d (.bool (decide (Im.okMem n)))) := by
  have htm : n.tmod 4 = 0 ↔ n % 4 = 0 := by rw [← Int.dvd_iff_tmod_eq_zero, ← Int.dvd_iff_emod_eq_zero]
  (refine y_enter Tryd.func30 Tryd.ntmps30 Tryd.results30 fun w M => ?_; simp only [slots, List.map_cons, List.map_nil, List.zipIdx_cons, List.zipIdx_nil, Nat.reduceAdd])
  ((repeat' (first | (refine yyp ?_; (try refine s_bu ?_ ?_ <;> (intro hb; try simp only [decide_eq_true_eq, decide_eq_false_iff_not] at hb))) | (refine yy ?_) | (refine yy2 ?_ ?_ <;> (intro hcmp; try simp only [cmp] at hcmp)) | (refine z_nil [0, 2, 3, 4, 5, 6] ?_) | (refine tc_seq fun K hK => ?_) | (apply_assumption -exfalso -symm))); all_goals (try refine unhalt ?_))
  all_goals
    (refine tc_ret (y_ret ?_))
    simp only [oneOf, V.d.injEq, D.bool.injEq, true_eq_decide_iff, false_eq_decide_iff]
    unfold Im.okMem
    omega
set_option maxRecDepth 100000 in
set_option maxHeartbeats 2000000 in
theorem ref_may27_fn (gl : List (Nat × List D)) (o : Im.Obj) : FnD Tryd.prog gl 31 [.d (dObj o)] (fun v => v = .d (.bool (decide (Im.okObj o)))) := by
  (refine y_enter Tryd.func31 Tryd.ntmps31 Tryd.results31 fun w M => ?_; simp only [slots, List.map_cons, List.map_nil, List.zipIdx_cons, List.zipIdx_nil, Nat.reduceAdd])
  ((repeat' (first | (refine z_box (d := 1) 1 ?_) | (refine yyp ?_; (try refine s_bu ?_ ?_ <;> (intro hb; try simp only [decide_eq_true_eq, decide_eq_false_iff_not] at hb))) | (refine yy ?_) | (refine yy2 ?_ ?_ <;> (intro hcmp; try simp only [cmp] at hcmp)) | (refine z_nil [0, 1, 2, 3, 4, 5, 6] ?_) | (refine tc_seq fun K hK => ?_) | (apply_assumption -exfalso -symm))); all_goals (try refine unhalt ?_))
  all_goals
    (refine tc_ret (y_ret ?_))
    simp only [oneOf, V.d.injEq, D.bool.injEq, true_eq_decide_iff, false_eq_decide_iff]
    unfold Im.okObj
    omega
set_option maxRecDepth 100000 in
set_option maxHeartbeats 2000000 in
theorem ref_fits_fn (gl : List (Nat × List D)) (n : Int) (o : Im.Obj) (hn : Im.okMem n) (ho : Im.okObj o) : FnD Tryd.prog gl 32 [.d (.int .i64 n), .d (dObj o)] (fun v => v = .d (.bool (decide (Im.fits n o)))) := by
  unfold Im.okMem at hn
  unfold Im.okObj at ho
  (refine y_enter Tryd.func32 Tryd.ntmps32 Tryd.results32 fun w M => ?_; simp only [slots, List.map_cons, List.map_nil, List.zipIdx_cons, List.zipIdx_nil, Nat.reduceAdd])
  ((repeat' (first | (refine z_box (d := 3) 3 ?_) | (refine yyp ?_; (try refine s_bu ?_ ?_ <;> (intro hb; try simp only [decide_eq_true_eq, decide_eq_false_iff_not] at hb))) | (refine yy ?_) | (refine yy2 ?_ ?_ <;> (intro hcmp; try simp only [cmp] at hcmp)) | (refine z_nil [0, 1, 3, 4, 5, 6, 7] ?_) | (refine tc_seq fun K hK => ?_) | (apply_assumption -exfalso -symm))); all_goals (try refine unhalt ?_))
  all_goals
    (refine tc_ret (y_ret ?_))
    simp only [oneOf, V.d.injEq, D.bool.injEq, true_eq_decide_iff, false_eq_decide_iff]
    unfold Im.fits
    omega
set_option maxRecDepth 100000 in
set_option maxHeartbeats 2000000 in
theorem ref_workspace_fn (gl : List (Nat × List D)) (n : Int) (o : Im.Obj) (hn : Im.okMem n) (ho : Im.okObj o) (hf : Im.fits n o) : FnD Tryd.prog gl 33 [.d (.int .i64 n), .d (dObj o)] (fun v => v = .d (.int .i32 (-2147483648 + (n - o.below * 4)))) := by
  unfold Im.okMem at hn
  unfold Im.okObj at ho
  unfold Im.fits at hf
  (refine y_enter Tryd.func33 Tryd.ntmps33 Tryd.results33 fun w M => ?_; simp only [slots, List.map_cons, List.map_nil, List.zipIdx_cons, List.zipIdx_nil, Nat.reduceAdd])
  ((repeat' (first | (refine z_box (d := 3) 3 ?_) | (refine yyp ?_; (try refine s_bu ?_ ?_ <;> (intro hb; try simp only [decide_eq_true_eq, decide_eq_false_iff_not] at hb))) | (refine yy ?_) | (refine yy2 ?_ ?_ <;> (intro hcmp; try simp only [cmp] at hcmp)) | (refine z_nil [0, 1, 3, 4, 5, 6, 7] ?_) | (refine tc_seq fun K hK => ?_) | (apply_assumption -exfalso -symm))); all_goals (try refine unhalt ?_))
  (refine tc_ret (y_ret ?_))
  rw [Int.mul_comm o.below 4]
  rfl
set_option maxRecDepth 100000 in
set_option maxHeartbeats 2000000 in
theorem ref_Workspace_fn (gl : List (Nat × List D)) (n : Int) (o : Im.Obj) : FnD Tryd.prog gl 9 [.d (.int .i64 n), .d (dObj o)] (fun v => v = .tup [.d (.int .i32 (Im.workspace n o).1), .d (.int .i64 (Im.workspace n o).2)]) := by
  (refine y_enter Tryd.func9 Tryd.ntmps9 Tryd.results9 fun w M => ?_; simp only [slots, List.map_cons, List.map_nil, List.zipIdx_cons, List.zipIdx_nil, Nat.reduceAdd])
  ((repeat' (first | (refine z_box (d := 3) 3 ?_) | (refine yyp ?_; (try refine s_bu ?_ ?_ <;> (intro hb; try simp only [decide_eq_true_eq, decide_eq_false_iff_not] at hb))) | (refine yy ?_) | (refine yy2 ?_ ?_ <;> (intro hcmp; try simp only [cmp] at hcmp)) | (refine y_call (hc := (ref_may03_fn gl n)) ?_; (try refine s_bu ?_ ?_ <;> (intro hb; try simp only [decide_eq_true_eq, decide_eq_false_iff_not] at hb))) | (refine y_call (hc := (ref_may27_fn gl o)) ?_; (try refine s_bu ?_ ?_ <;> (intro hb; try simp only [decide_eq_true_eq, decide_eq_false_iff_not] at hb))) | (refine y_call (hc := (ref_fits_fn gl n o ‹_› ‹_›)) ?_; (try refine s_bu ?_ ?_ <;> (intro hb; try simp only [decide_eq_true_eq, decide_eq_false_iff_not] at hb))) | (refine y_call (hc := (ref_workspace_fn gl n o ‹_› ‹_› ‹_›)) ?_) | (refine z_nil [0, 1, 3, 4, 5, 6, 7, 13, 17] ?_) | (refine tc_seq fun K hK => ?_) | (apply_assumption -exfalso -symm))); all_goals (try refine unhalt ?_))
  all_goals
    (refine tc_ret (y_ret ?_))
    simp [oneOf, Im.workspace, *]
set_option maxRecDepth 100000 in
set_option maxHeartbeats 2000000 in
theorem ref_child_fn (gl : List (Nat × List D)) (t : To.Topo) (n k : Int) : FnD Tryd.prog gl 57 [.d (dTopo t), .d (.int .i64 n), .d (.int .i64 k)]
    (fun v => v = .d (.int .i64 (if To.May t then (To.peer t.wires ⟨n, k⟩).getD ⟨0, 0⟩ else ⟨0, 0⟩).node)) := by
  (refine y_enter Tryd.func57 Tryd.ntmps57 Tryd.results57 fun w M => ?_; simp only [slots, List.map_cons, List.map_nil, List.zipIdx_cons, List.zipIdx_nil, Nat.reduceAdd])
  ((repeat' (first | (refine z_box (d := 3) 3 ?_) | (refine z_alloc (d := 7) 7 ?_) | (refine yyp ?_; (try refine s_bu ?_ ?_ <;> (intro hb; try simp only [decide_eq_true_eq, decide_eq_false_iff_not] at hb))) | (refine yy ?_) | (refine yy2 ?_ ?_ <;> (intro hcmp; try simp only [cmp] at hcmp)) | (refine y_call (hc := (ref_Peer_fn gl t ⟨n, k⟩)) ?_) | (refine z_nil [0, 1, 2, 3, 6, 7, 8] ?_) | (refine tc_seq fun K hK => ?_) | (apply_assumption -exfalso -symm))); all_goals (try refine unhalt ?_))
  all_goals
    (refine tc_ret (y_ret ?_))
    try rfl
end Go.Proofs.YtcblefmjacofgaaDoor
namespace Go.Proofs.YtcblefmjacofgaaDoor
open Go.RowKit
attribute [local irreducible] TR TC
set_option maxRecDepth 100000 in
set_option maxHeartbeats 2000000 in
theorem memory_fn (gl : List (Nat × List D)) (n : Int) : FnD Tryd.prog gl 27 [.d (.int .i64 n)] (fun v => v = .d (.bool (decide (Im.okMem n)))) := by
  have htm : n.tmod 4 = 0 ↔ n % 4 = 0 := by rw [← Int.dvd_iff_tmod_eq_zero, ← Int.dvd_iff_emod_eq_zero]
  (refine y_enter Tryd.func27 Tryd.ntmps27 Tryd.results27 fun w M => ?_; simp only [slots, List.map_cons, List.map_nil, List.zipIdx_cons, List.zipIdx_nil, Nat.reduceAdd])
  ((repeat' (first | (refine yyp ?_; (try refine s_bu ?_ ?_ <;> (intro hb; try simp only [decide_eq_true_eq, decide_eq_false_iff_not] at hb))) | (refine yy ?_) | (refine yy2 ?_ ?_ <;> (intro hcmp; try simp only [cmp] at hcmp)) | (refine z_nil [0, 2, 3, 4, 5, 6] ?_) | (refine tc_seq fun K hK => ?_) | (apply_assumption -exfalso -symm))); all_goals (try refine unhalt ?_))
  all_goals
    (refine tc_ret (y_ret ?_))
    simp only [oneOf, V.d.injEq, D.bool.injEq, true_eq_decide_iff, false_eq_decide_iff]
    unfold Im.okMem
    omega
set_option maxRecDepth 100000 in
set_option maxHeartbeats 2000000 in
theorem objmay_fn (gl : List (Nat × List D)) (o : Im.Obj) : FnD Tryd.prog gl 28 [.d (dObj o)] (fun v => v = .d (.bool (decide (Im.okObj o)))) := by
  (refine y_enter Tryd.func28 Tryd.ntmps28 Tryd.results28 fun w M => ?_; simp only [slots, List.map_cons, List.map_nil, List.zipIdx_cons, List.zipIdx_nil, Nat.reduceAdd])
  ((repeat' (first | (refine z_box (d := 1) 1 ?_) | (refine yyp ?_; (try refine s_bu ?_ ?_ <;> (intro hb; try simp only [decide_eq_true_eq, decide_eq_false_iff_not] at hb))) | (refine yy ?_) | (refine yy2 ?_ ?_ <;> (intro hcmp; try simp only [cmp] at hcmp)) | (refine z_nil [0, 1, 2, 3, 4, 5, 6] ?_) | (refine tc_seq fun K hK => ?_) | (apply_assumption -exfalso -symm))); all_goals (try refine unhalt ?_))
  all_goals
    (refine tc_ret (y_ret ?_))
    simp only [oneOf, V.d.injEq, D.bool.injEq, true_eq_decide_iff, false_eq_decide_iff]
    unfold Im.okObj
    omega
set_option maxRecDepth 100000 in
set_option maxHeartbeats 2000000 in
theorem fits_fn (gl : List (Nat × List D)) (n : Int) (o : Im.Obj) (hn : Im.okMem n) (ho : Im.okObj o) : FnD Tryd.prog gl 29 [.d (.int .i64 n), .d (dObj o)] (fun v => v = .d (.bool (decide (Im.fits n o)))) := by
  unfold Im.okMem at hn
  unfold Im.okObj at ho
  (refine y_enter Tryd.func29 Tryd.ntmps29 Tryd.results29 fun w M => ?_; simp only [slots, List.map_cons, List.map_nil, List.zipIdx_cons, List.zipIdx_nil, Nat.reduceAdd])
  ((repeat' (first | (refine z_box (d := 3) 3 ?_) | (refine yyp ?_; (try refine s_bu ?_ ?_ <;> (intro hb; try simp only [decide_eq_true_eq, decide_eq_false_iff_not] at hb))) | (refine yy ?_) | (refine yy2 ?_ ?_ <;> (intro hcmp; try simp only [cmp] at hcmp)) | (refine z_nil [0, 1, 3, 4, 5, 6, 7] ?_) | (refine tc_seq fun K hK => ?_) | (apply_assumption -exfalso -symm))); all_goals (try refine unhalt ?_))
  all_goals
    (refine tc_ret (y_ret ?_))
    simp only [oneOf, V.d.injEq, D.bool.injEq, true_eq_decide_iff, false_eq_decide_iff]
    unfold Im.fits
    omega
theorem ws_range {n : Int} {o : Im.Obj} (hn : Im.okMem n) (ho : Im.okObj o) (hf : Im.fits n o) : 0 ≤ n - 4 * o.below ∧ n - 4 * o.below ≤ 65536 ∧ 0 ≤ o.below ∧ o.below ≤ 16384 ∧ 1024 ≤ n ∧ n ≤ 65536 := by
  unfold Im.okMem at hn
  unfold Im.okObj at ho
  unfold Im.fits at hf
  omega
set_option maxRecDepth 100000 in
set_option maxHeartbeats 2000000 in
theorem Workspace_fn (gl : List (Nat × List D)) (n : Int) (o : Im.Obj) : FnD Tryd.prog gl 8 [.d (.int .i64 n), .d (dObj o)] (fun v => v = .tup [.d (.int .i32 (Im.workspace n o).1), .d (.int .i64 (Im.workspace n o).2)]) := by
  (refine y_enter Tryd.func8 Tryd.ntmps8 Tryd.results8 fun w M => ?_; simp only [slots, List.map_cons, List.map_nil, List.zipIdx_cons, List.zipIdx_nil, Nat.reduceAdd])
  ((repeat' (first | (refine z_box (d := 3) 3 ?_) | (refine tc_at 5 ?_; refine halt ?_) | (refine yyp ?_; (try refine s_bu ?_ ?_ <;> (intro hb; try simp only [decide_eq_true_eq, decide_eq_false_iff_not] at hb))) | (refine yy ?_) | (refine yy2 ?_ ?_ <;> (intro hcmp; try simp only [cmp] at hcmp)) | (refine y_call (hc := (memory_fn gl n)) ?_; (try refine s_bu ?_ ?_ <;> (intro hb; try simp only [decide_eq_true_eq, decide_eq_false_iff_not] at hb))) | (refine y_call (hc := (objmay_fn gl o)) ?_; (try refine s_bu ?_ ?_ <;> (intro hb; try simp only [decide_eq_true_eq, decide_eq_false_iff_not] at hb))) | (refine y_call (hc := (fits_fn gl n o ‹_› ‹_›)) ?_; (try refine s_bu ?_ ?_ <;> (intro hb; try simp only [decide_eq_true_eq, decide_eq_false_iff_not] at hb))) | (refine z_nil [0, 1, 3, 4, 5, 6, 7, 15] ?_) | (refine tc_seq fun K hK => ?_) | (apply_assumption -exfalso -symm))); all_goals (try refine unhalt ?_))
  case' refine_1.refine_1.refine_1 =>
    have hr := ws_range ‹Im.okMem n› ‹Im.okObj o› ‹Im.fits n o›
    obtain ⟨h1, h2, h3, h4, h5, h6⟩ := hr
    ((repeat' (first | (refine z_box (d := 3) 3 ?_) | (refine yyp ?_; (try refine s_bu ?_ ?_ <;> (intro hb; try simp only [decide_eq_true_eq, decide_eq_false_iff_not] at hb))) | (refine yy ?_) | (refine yy2 ?_ ?_ <;> (intro hcmp; try simp only [cmp] at hcmp)) | (refine z_nil [0, 1, 3, 4, 5, 6, 7, 15] ?_) | (refine tc_seq fun K hK => ?_) | (apply_assumption -exfalso -symm))); all_goals (try refine unhalt ?_))
  all_goals
    (refine tc_ret (y_ret ?_))
    simp [oneOf, Im.workspace, Int.mul_comm, *]
theorem and3 (n : Int) : IntKind.i32.wrap ((BitVec.ofInt IntKind.i32.bits n &&& BitVec.ofInt IntKind.i32.bits 3).toNat : Int) = n % 4 := by
  have key : (BitVec.ofInt 32 n &&& BitVec.ofInt 32 3).toNat = (n % ((2 ^ 32 : Nat) : Int)).toNat % 2 ^ 2 := by
    rw [BitVec.toNat_and, BitVec.toNat_ofInt, show (BitVec.ofInt 32 3).toNat = 2 ^ 2 - 1 from rfl, Nat.and_two_pow_sub_one_eq_mod]
  show IntKind.i32.wrap ((BitVec.ofInt 32 n &&& BitVec.ofInt 32 3).toNat : Nat) = n % 4
  rw [key, IntKind.wrap_i32]
  omega
set_option maxRecDepth 100000 in
set_option maxHeartbeats 2000000 in
theorem lmay_fn (gl : List (Nat × List D)) (c : I.Cmd) (hw : c.Wf) : FnD Tryd.prog gl 42 [.d (dCmd c)] (fun v => v = .d (.bool (I.mayC c))) := by
  have hk := hw.k
  have ha0 := hw.a0
  have ha1 := hw.a1
  have ht0 := hw.t0
  have ht1 := hw.t1
  have hand := and3 c.ad
  have hu : IntKind.u32.wrap (IntKind.i32.wrap (c.ad - -2147483648)) = c.ad + 2147483648 := by rw [IntKind.wrap_i32, IntKind.wrap_u32]; omega
  rw [mayC_eq c]
  (refine y_enter Tryd.func42 Tryd.ntmps42 Tryd.results42 fun w M => ?_; simp only [slots, List.map_cons, List.map_nil, List.zipIdx_cons, List.zipIdx_nil, Nat.reduceAdd])
  ((repeat' (first | (refine z_box (d := 1) 1 ?_) | (refine yyp ?_; (try refine s_bu ?_ ?_ <;> (intro hb; try simp only [decide_eq_true_eq, decide_eq_false_iff_not] at hb))) | (refine yy ?_) | (refine yy2 ?_ ?_ <;> (intro hcmp; try simp only [cmp] at hcmp)) | (refine z_nil [0, 1, 2, 3, 4, 5, 6, 17, 28] ?_) | (refine tc_seq fun K hK => ?_) | (apply_assumption -exfalso -symm))); all_goals (try refine unhalt ?_))
  all_goals
    (refine tc_ret (y_ret ?_))
    simp only [oneOf, V.d.injEq, D.bool.injEq, true_eq_decide_iff, false_eq_decide_iff]
    omega
end Go.Proofs.YtcblefmjacofgaaDoor
namespace Go.Proofs.YtcblefmjacofgaaDoor
open Go.RowKit
theorem cmd_ext {a b : I.Cmd} (h1 : a.k = b.k) (h2 : a.ad = b.ad) (h3 : a.to = b.to) (h4 : a.b = b.b) : a = b := by
  cases a; cases b; simp_all
attribute [local irreducible] TR TC
set_option maxRecDepth 100000 in
set_option maxHeartbeats 4000000 in
theorem ref_same38_fn (gl : List (Nat × List D)) (xs ys : List I.Cmd) : FnD Tryd.prog gl 38 [.d (.list 4 (xs.map dCmd)), .d (.list 4 (ys.map dCmd))] (fun v => v = .d (.bool (decide (xs = ys)))) := by
  (refine y_enter Tryd.func38 Tryd.ntmps38 Tryd.results38 fun w M => ?_; simp only [slots, List.map_cons, List.map_nil, List.zipIdx_cons, List.zipIdx_nil, Nat.reduceAdd])
  refine tc_small 0 rfl fun hn => ?_
  rw [List.length_map] at hn
  ((repeat' (first | (refine yyp ?_; (try refine s_bu ?_ ?_ <;> (intro hb; try simp only [decide_eq_true_eq, decide_eq_false_iff_not] at hb))) | (refine yy ?_) | (refine yy2 ?_ ?_ <;> (intro hcmp; try simp only [cmp] at hcmp)) | (refine z_nil [0, 1, 4, 5, 6, 7, 10, 14, 68] ?_) | (refine tc_seq fun K hK => ?_) | (refine z_draw (id := 6) [] (lin [0, 4, 8, 12, 20, 24, 28, 32, 17, 37, 40, 44, 48, 52, 56, 60, 68, 72, 76, 80, 65, 85, 88, 92, 96, 100, 104, 108, 112, 120, 124, 128, 132, 117, 137, 140, 144, 148, 152, 156, 160, 164, 176, 180, 184, 188, 169, 173, 193, 197, 200, 204]) ?_) | (apply_assumption -exfalso -symm))); all_goals (try refine unhalt ?_))
  · (refine tc_ret (y_ret ?_))
    simp only [oneOf, V.d.injEq, D.bool.injEq, false_eq_decide_iff]
    intro h
    subst h
    omega
  · have hlen : xs.length = ys.length := by omega
    refine tc_fam (fun k : Nat => ⟨[(5, .d (.int .i64 k)), (0, .d (.list 4 (xs.map dCmd))), (1, .d (.list 4 (ys.map dCmd)))], [], gl⟩)
      (fun k => k ≤ xs.length ∧ xs.take k = ys.take k) (fun k => xs.length - k) 0 ⟨Nat.zero_le _, rfl⟩ y_wk fun k ⟨hk, hp⟩ => ?_
    ((repeat' (first | (refine yyp ?_; (try refine s_bu ?_ ?_ <;> (intro hb; try simp only [decide_eq_true_eq, decide_eq_false_iff_not] at hb))) | (refine yy ?_) | (refine yy2 ?_ ?_ <;> (intro hcmp; try simp only [cmp] at hcmp)) | (refine z_nil [0, 1, 4, 5, 6, 7, 10, 14, 68] ?_) | (refine tc_seq fun K hK => ?_) | (refine z_draw (id := 6) [] (lin [0, 4, 8, 12, 20, 24, 28, 32, 17, 37, 40, 44, 48, 52, 56, 60, 68, 72, 76, 80, 65, 85, 88, 92, 96, 100, 104, 108, 112, 120, 124, 128, 132, 117, 137, 140, 144, 148, 152, 156, 160, 164, 176, 180, 184, 188, 169, 173, 193, 197, 200, 204]) ?_) | (apply_assumption -exfalso -symm))); all_goals (try refine unhalt ?_))
    case' refine_2.refine_2 =>
      (refine tc_ret (y_ret ?_))
      have : k = xs.length := by omega
      subst this
      have h2 := hp
      rw [List.take_length, hlen, List.take_length] at h2
      simp only [oneOf, V.d.injEq, D.bool.injEq, true_eq_decide_iff]
      exact h2
    case' refine_2.refine_1.refine_2.refine_2.refine_2.refine_1 =>
      have hk1 : k < xs.length := by omega
      have hk2 : k < ys.length := by omega
      refine ⟨k + 1, ⟨by omega, ?_⟩, by omega, y_wk⟩
      rw [← get_take _ hk1, ← get_take _ hk2, hp]
      have e : xs[k] = ys[k] := cmd_ext (by omega) (by omega) (by omega) (List.toArray_inj (ByteArray.mk.inj hcmp))
      rw [e]
    all_goals
      (refine tc_ret (y_ret ?_))
      have hk1 : k < xs.length := by omega
      simp only [oneOf, V.d.injEq, D.bool.injEq, false_eq_decide_iff]
      rintro rfl
      exact hcmp rfl
end Go.Proofs.YtcblefmjacofgaaDoor
