/- Parts: F3, F4, F7, C1. -/
import Derived.Test.YtcblefmjacofgaaGreatDoorTA
import Derived.Test.YtcblefmjacofgaaGreatDoorB3
import Derived.Test.YtcblefmjacofgaaGreatDoorA8
import Derived.Test.YtcblefmjacofgaaGreatDoorA6
import Derived.Lib.AppendZerosOnto
import Derived.Lib.Walk
import Derived.Lib.SliceRun
set_option linter.all false
set_option linter.unusedVariables false
set_option linter.unusedSimpArgs false
namespace Go.Proofs.YtcblefmjacofgaaGreatDoor
open Go.RowKit
theorem sh_u32 (x : UInt8) (k m : Nat) (hm : 2 ^ min (Int.toNat k) IntKind.u32.bits = (m : Int)) (hb : x.toNat * m < 4294967296) : IntKind.u32.wrap (IntKind.u32.wrap (x.toNat : Int) * 2 ^ min (Int.toNat k) IntKind.u32.bits) = ((x.toNat * m : Nat) : Int) := by
  have hx := x.toNat_lt
  rw [hm, IntKind.wrap_u32, IntKind.wrap_u32, Int.emod_eq_of_lt (a := (x.toNat : Int)) (by omega) (by omega)]
  rw [show (x.toNat : Int) * (m : Int) = ((x.toNat * m : Nat) : Int) from (Int.natCast_mul _ _).symm]
  omega
theorem num4_drop (bs : List UInt8) (k : Nat) (hk : k + 4 ≤ bs.length) : I.num4 (bs.drop k) = bs[k].toNat + 256 * bs[k + 1].toNat + 65536 * bs[k + 2].toNat + 16777216 * bs[k + 3].toNat := by
  unfold I.num4
  simp only [List.getD_eq_getElem?_getD, List.getElem?_drop, Nat.add_zero, List.getElem?_eq_getElem (show k < bs.length by omega), List.getElem?_eq_getElem (show k + 1 < bs.length by omega), List.getElem?_eq_getElem (show k + 2 < bs.length by omega), List.getElem?_eq_getElem (show k + 3 < bs.length by omega), Option.getD_some]
attribute [local irreducible] TR TC
set_option maxRecDepth 100000 in
set_option maxHeartbeats 4000000 in
theorem word_fn (gl : List (Nat × List D)) (bs : List UInt8) (k : Nat) (hk : k + 4 ≤ bs.length) (hn : bs.length ≤ 1000000000) : FnE Tryz.prog gl 75 [.ptr 1 0, .ptr 5 0] [(1, .box [.d (.list 1 (bs.map dByte))]), (5, .box [.d (.int .i64 k)])]
    (fun v H1 => v = .d (.int .u32 (I.num4 (bs.drop k))) ∧ H1 = [(1, .box [.d (.list 1 (bs.map dByte))]), (5, .box [.d (.int .i64 (k + 4 : Nat))])]) := by
  (refine y_entere Tryz.func75 Tryz.ntmps75 Tryz.results75 fun w M E b0 => ?_; simp only [slots, List.map_cons, List.map_nil, List.zipIdx_cons, List.zipIdx_nil, Nat.reduceAdd])
  ((repeat' (first | (refine yyp ?_; (try refine s_bu ?_ ?_ <;> (intro hb; try simp only [decide_eq_true_eq, decide_eq_false_iff_not] at hb))) | (refine yy ?_) | (refine yy2 ?_ ?_ <;> (intro hcmp; try simp only [cmp] at hcmp)) | (refine at_nil ?_; refine z_nil [0, 1, 2, 3, 4, 5] ?_) | (refine tc_seq fun K hK => ?_) | (refine tc_at 1 ?_; refine z_draw [] (lin [1, 5, 8, 13, 16, 21, 25, 28, 32, 37, 40, 44, 48, 53, 57, 60, 64, 69, 72, 76, 80, 85, 89, 92, 96, 101, 104, 108, 112, 116]) ?_) | (apply_assumption -exfalso -symm))); all_goals (try refine unhalt ?_))
  (refine tc_ret (y_rete ⟨?_, rfl⟩))
  simp only [oneOf, V.d.injEq, D.int.injEq, true_and]
  have e0 : IntKind.u32.wrap (bs[k].toNat : Int) = (bs[k].toNat : Int) := by have := bs[k].toNat_lt; rw [IntKind.wrap_u32]; omega
  have h1 := bs[k + 1].toNat_lt
  have h2 := bs[k + 2].toNat_lt
  have h3 := bs[k + 3].toNat_lt
  have e1 := sh_u32 bs[k + 1] 8 256 rfl (by omega)
  have e2 := sh_u32 bs[k + 2] 16 65536 rfl (by omega)
  have e3 := sh_u32 bs[k + 3] 24 16777216 rfl (by omega)
  have := num_walk bs[k] bs[k + 1] bs[k + 2] bs[k + 3]
  rw [← e0, ← e1, ← e2, ← e3] at this
  rw [num4_drop bs k hk]
  exact this
end Go.Proofs.YtcblefmjacofgaaGreatDoor
namespace Go.Proofs.YtcblefmjacofgaaGreatDoor
open Go.RowKit
theorem slice_mid {α β : Type} (f : α → β) (l : List α) (a b : Nat) : ((l.map f).drop a).take (b - a) = ((l.drop a).take (b - a)).map f := by
  rw [List.map_take, List.map_drop]
theorem FnE.at {P : Program} {gl : List (Nat × List D)} {f : FuncId} {args args' : List V} {H0 H0' : List (Nat × Ob)} {R : V → List (Nat × Ob) → Prop} (h : FnE P gl f args H0 R) (e : H0' = H0) (e' : args' = args) : FnE P gl f args' H0' R := e' ▸ e ▸ h
attribute [local irreducible] TR TC
set_option maxRecDepth 100000 in
set_option maxHeartbeats 8000000 in
theorem get_fn (gl : List (Nat × List D)) (bs : List UInt8) (hn : bs.length ≤ 1000000000) : FnD Tryz.prog gl 45 [.d (dBytes bs)] (fun v => v = vGet (I.getCs bs)) := by
  unfold dBytes
  (refine y_enter Tryz.func45 Tryz.ntmps45 Tryz.results45 fun w M => ?_; simp only [slots, List.map_cons, List.map_nil, List.zipIdx_cons, List.zipIdx_nil, Nat.reduceAdd])
  ((repeat' (first | (refine tr_at 1 ?_; (refine z_box 1 ?_)) | (refine tr_at 5 ?_; (refine z_alloc 5 ?_)) | (refine tr_at 29 ?_; refine z_p w_buildn ?_) | (refine tr_at 10 ?_; (refine z_alloc 10 ?_)) | (refine tr_at 52 ?_; refine z_append0 52 ?_) | (refine tr_at 63 ?_; (refine z_lit 63 ?_)) | (refine tr_at 64 ?_; refine z_append0 64 ?_) | (refine tr_at 68 ?_; (refine z_lit 68 ?_)) | (refine tr_at 72 ?_; refine z_append0 72 ?_) | (refine yyp ?_; (try refine s_bu ?_ ?_ <;> (intro hb; try simp only [decide_eq_true_eq, decide_eq_false_iff_not] at hb))) | (refine yy ?_) | (refine yy2 ?_ ?_ <;> (intro hcmp; try simp only [cmp] at hcmp)) | (refine at_append ?_; first | (refine z_append (fun kv => ?_)) | (refine z_append_suf (fun sx sp kv hsx hsp hsl => ?_))) | (refine at_nil ?_; refine z_nil [0, 1, 2, 3, 4, 5, 6, 7, 8, 9, 10, 16, 24, 31, 42, 60, 66] ?_) | (refine tc_seq fun K hK => ?_) | (refine tc_at 10 ?_; refine z_draw [9, 11] (lin [0, 20, 24, 5, 9, 13, 17, 28, 32, 39, 40, 47]) ?_) | (apply_assumption -exfalso -symm))); all_goals (try refine unhalt ?_))
  refine tc_row (t := 2) (e := 48) (sz := 4) rfl rfl ?_
  refine tc_fam (ι := Nat × List I.Cmd × Nat) (fun i => ⟨[(6, .clo (.func 75) [] [.ptr 1 0, .ptr 5 0]), (1, .ptr 1 0), (5, .ptr 5 0), (2, .own 2 i.2.2)], [(1, .box [.d (.list 1 (bs.map dByte))]), (5, .box [.d (.int .i64 i.1)]), (2, .row 48 4 true (i.2.1.map dCmd) i.2.2)], gl⟩)
    (fun i => i.2.1.length ≤ i.1 ∧ i.1 ≤ bs.length ∧ ∃ f, (bs.drop i.1).length < f ∧ I.getCs bs = (I.getC f (bs.drop i.1)).map (fun p => (i.2.1 ++ p.1, p.2))) (fun i => bs.length - i.1) (0, [], 0) ⟨by simp, by simp, _, Nat.lt_succ_self _, by unfold I.getCs; simp only [List.drop_zero]; cases I.getC (bs.length + 1) bs <;> rfl⟩ y_wk fun ⟨k, l, ver⟩ ⟨hlen, hkl, f, hf, hget⟩ => ?_
  dsimp only at hlen hkl hf hget ⊢
  obtain ⟨r, hr⟩ : ∃ r, r = bs.drop k := ⟨_, rfl⟩
  have hrl : r.length = bs.length - k := by rw [hr, List.length_drop]
  have hk1 := num4_lt r
  have hk2 := num4_lt (r.drop 4)
  have hk3 := num4_lt (r.drop 8)
  rw [← hr] at hf hget
  have hw0 : (⟨I.num4 r, I.i32 (I.num4 (r.drop 4)), I.i32 (I.num4 (r.drop 8)), []⟩ : I.Cmd).k ≤ 255 → I.Cmd.Wf ⟨I.num4 r, I.i32 (I.num4 (r.drop 4)), I.i32 (I.num4 (r.drop 8)), []⟩ := fun h => ⟨h, (i32_in _).1, (i32_in _).2, (i32_in _).1, (i32_in _).2⟩
  have hw1 : I.num4 r ≤ 255 → I.Cmd.Wf ⟨I.num4 r, I.i32 (I.num4 (r.drop 4)), 0, (r.drop 12).take (I.num4 (r.drop 8))⟩ := fun h => ⟨h, (i32_in _).1, (i32_in _).2, by dsimp only; omega, by dsimp only; omega⟩
  have e4 : r.drop 4 = bs.drop (k + 4) := by rw [hr, List.drop_drop]
  have e12 : r.drop 12 = bs.drop (k + 12) := by rw [hr, List.drop_drop]
  have e8 : r.drop 8 = bs.drop (k + 4 + 4) := by rw [hr, List.drop_drop]
  have word0 : k + 12 ≤ bs.length → FnE Tryz.prog gl 75 [.ptr 1 0, .ptr 5 0] [(1, .box [.d (.list 1 (bs.map dByte))]), (5, .box [.d (.int .i64 k)])] (fun v H1 => v = .d (.int .u32 (I.num4 r)) ∧ H1 = [(1, .box [.d (.list 1 (bs.map dByte))]), (5, .box [.d (.int .i64 (k + 4 : Nat))])]) := fun h => by
    rw [hr]; exact word_fn gl bs k (by omega) hn
  have word4 : k + 12 ≤ bs.length → FnE Tryz.prog gl 75 [.ptr 1 0, .ptr 5 0] [(1, .box [.d (.list 1 (bs.map dByte))]), (5, .box [.d (.int .i64 (k + 4 : Nat))])] (fun v H1 => v = .d (.int .u32 (I.num4 (r.drop 4))) ∧ H1 = [(1, .box [.d (.list 1 (bs.map dByte))]), (5, .box [.d (.int .i64 (k + 8 : Nat))])]) := fun h => by
    rw [e4]; exact word_fn gl bs (k + 4) (by omega) hn
  have word8 : k + 12 ≤ bs.length → FnE Tryz.prog gl 75 [.ptr 1 0, .ptr 5 0] [(1, .box [.d (.list 1 (bs.map dByte))]), (5, .box [.d (.int .i64 (k + 8 : Nat))])] (fun v H1 => v = .d (.int .u32 (I.num4 (r.drop 8))) ∧ H1 = [(1, .box [.d (.list 1 (bs.map dByte))]), (5, .box [.d (.int .i64 (k + 12 : Nat))])]) := fun h => by
    rw [e8]; exact word_fn gl bs (k + 8) (by omega) hn
  ((repeat' (first | (refine tr_at 1 ?_; (refine z_box 1 ?_)) | (refine tr_at 5 ?_; (refine z_alloc 5 ?_)) | (refine tr_at 18 ?_; refine y_callE (hc := word0 (by omega)) ?_) | (refine tr_at 20 ?_; refine y_callE (hc := word4 (by omega)) ?_) | (refine tr_at 22 ?_; refine y_callE (hc := word8 (by omega)) ?_) | (refine tr_at 29 ?_; refine z_p w_buildn ?_) | (refine tr_at 10 ?_; (refine z_alloc 10 ?_)) | (refine tr_at 52 ?_; refine z_append0 52 ?_) | (refine tr_at 63 ?_; (refine z_lit 63 ?_)) | (refine tr_at 64 ?_; refine z_append0 64 ?_) | (refine tr_at 68 ?_; (refine z_lit 68 ?_)) | (refine tr_at 72 ?_; refine z_append0 72 ?_) | (refine yyp ?_; (try refine s_bu ?_ ?_ <;> (intro hb; try simp only [decide_eq_true_eq, decide_eq_false_iff_not] at hb))) | (refine yy ?_) | (refine yy2 ?_ ?_ <;> (intro hcmp; try simp only [cmp] at hcmp)) | (refine at_append ?_; first | (refine z_append (fun kv => ?_)) | (refine z_append_suf (fun sx sp kv hsx hsp hsl => ?_))) | (refine at_call 76 ?_; refine y_call (hc := (by first | (refine FnD.at (lmay_fn gl ⟨I.num4 r, I.i32 (I.num4 (r.drop 4)), I.i32 (I.num4 (r.drop 8)), []⟩ (hw0 ?_)) ?_; (dsimp only; omega); (simp only [dCmd, dBytes, wrap_i32, List.map_nil]; done)) | (refine FnD.at (lmay_fn gl ⟨I.num4 r, I.i32 (I.num4 (r.drop 4)), 0, (r.drop 12).take (I.num4 (r.drop 8))⟩ (hw1 ?_)) ?_; omega; (simp only [dCmd, dBytes, wrap_i32, List.map_take, List.map_drop, e12, Nat.add_sub_cancel_left]; done)))) ?_; (try refine s_bu ?_ ?_ <;> (intro hb; try simp only [decide_eq_true_eq, decide_eq_false_iff_not] at hb))) | (refine at_nil ?_; refine z_nil [0, 1, 2, 3, 4, 5, 6, 7, 8, 9, 10, 16, 24, 31, 42, 60, 66] ?_) | (refine tc_seq fun K hK => ?_) | (refine tc_at 10 ?_; refine z_draw [9, 11] (lin [0, 20, 24, 5, 9, 13, 17, 28, 32, 39, 40, 47]) ?_) | (apply_assumption -exfalso -symm))); all_goals (try refine unhalt ?_))
  · (refine tc_ret (y_ret ?_))
    rw [hget, getC_kind (by omega) (by omega)]
    rfl
  · (refine tc_ret (y_ret ?_))
    rw [hget, getC_run hf (by omega) (by omega), if_pos hb]
    simp only [vGet, Option.map_some, List.map_append, List.map_cons, List.map_nil, dCmd, dBytes, slice_all, wrap_i32, e12]
    rfl
  · (refine tc_ret (y_ret ?_))
    rw [hget, getC_run hf (by omega) (by omega), if_neg (by simp [hb])]
    rfl
  · (refine tc_ret (y_ret ?_))
    rw [hget, getC_long (by omega) (by omega) (by omega) (by omega)]
    rfl
  · refine ⟨(k + 12 + I.num4 (r.drop 8), l ++ [⟨I.num4 r, I.i32 (I.num4 (r.drop 4)), 0, (r.drop 12).take (I.num4 (r.drop 8))⟩], kv), ⟨?_, ?_, f - 1, ?_, ?_⟩, ?_, ?_⟩
    · simp only [List.length_append, List.length_cons, List.length_nil]; omega
    · dsimp only; omega
    · simp only [List.length_drop]; omega
    · dsimp only
      rw [hget, getC_next hf (by omega) (by omega) (by omega) (by omega), if_pos hb, Option.map_map, e12, List.drop_drop]
      congr 1
      funext p
      simp
    · dsimp only; omega
    · dsimp only
      simp only [List.map_take, List.map_drop, wrap_i32, List.map_append, List.map_cons, List.map_nil, dCmd, dBytes, e12, Nat.add_sub_cancel_left]
      exact y_wk
  · (refine tc_ret (y_ret ?_))
    rw [hget, getC_next hf (by omega) (by omega) (by omega) (by omega), if_neg (by simp [hb])]
    rfl
  · (refine tc_ret (y_ret ?_))
    rw [hget, getC_short (by omega)]
    rfl
end Go.Proofs.YtcblefmjacofgaaGreatDoor
namespace Go.Proofs.YtcblefmjacofgaaGreatDoor
open Go.RowKit
theorem Reads.rd {w : World} {M : Nat → Nat → Prop} {a : Option Addr} {ys : List Value} (h : Reads w M a ys) : Rd w w.heap.size a ys := fun j x hj => by
  obtain ⟨b, o, e, _, hc⟩ := h j x hj
  exact ⟨b, o, e, World.block_lt_of_cell? w ⟨b, o + j, none⟩ hc, hc⟩
theorem list_sl {w : World} {M : Nat → Nat → Prop} {sz : Nat} {xs : List D} {v : Value} (h : RepD w M (.list sz xs) v) : ∃ (a : Option Addr) (c : Nat) (ys : List Value), v = .slice a xs.length c ∧ RepE w M sz xs ys ∧ Sl w w.heap.size a xs.length c sz ys := by
  obtain ⟨a, c, ys, h1, h2, h3, h4, h5, h6⟩ := h
  exact ⟨a, c, ys, h1, h5, h5.length, h6.rd, h2, h3, h4⟩
theorem own_bytes {w w' : World} {M : Nat → Nat → Prop} {e : TypeId} {bs : List UInt8} {a : Option Addr} {c n : Nat} (hM : ∀ b o, M b o → b < w.heap.size) (hn : n = bs.length) (h : w'.ownsRow w.heap.size e 1 (.slice a n c) n (bs.map bv)) : RepD w' M (dBytes bs) (.slice a n c) := by
  subst hn
  have hs := Sl.of_owns h
  refine ⟨a, c, bs.map bv, by rw [List.length_map], by rw [List.length_map]; exact hs.cap, hs.max, hs.nil, ?_, fun j y hj => ?_⟩
  · clear h hs
    induction bs with
    | nil => rfl
    | cons x bs ih => exact ⟨bv x, bs.map bv, rfl, rfl, rfl, ih⟩
  · obtain ⟨b, o, e', _, hc⟩ := hs.rd j y hj
    have hpos : 0 < bs.length := by
      have := (List.getElem?_eq_some_iff.1 hj).1
      rw [List.length_map] at this
      omega
    obtain ⟨g, rfl, hg, _⟩ := owns_at h hpos
    cases e'
    exact ⟨_, _, rfl, fun hm => by have := hM _ _ hm; omega, hc⟩
theorem cmds_of {w : World} {M : Nat → Nat → Prop} : ∀ {l : List I.Cmd} {ys : List Value}, (∀ c ∈ l, c.Wf) → RepE w M 4 (l.map dCmd) ys → ∃ ms : List CM, cmds ms = l ∧ cms ms = ys ∧ ∀ m ∈ ms, m.c.Wf ∧ Sl w w.heap.size m.a m.n m.cap 1 (m.c.b.map bv)
  | [], ys, _, h => by
    simp only [List.map_nil, RepE] at h
    subst h
    exact ⟨[], rfl, rfl, fun m hm => by cases hm⟩
  | c :: l, ys, hw, h => by
    simp only [List.map_cons, RepE] at h
    obtain ⟨v, r, rfl, h2, h3, h4⟩ := h
    obtain ⟨ms, e1, e2, e3⟩ := cmds_of (fun c hc => hw c (List.mem_cons_of_mem _ hc)) h4
    unfold dCmd at h3
    simp only [RepD, RepA] at h3
    obtain ⟨vs, rfl, v1, r1, rfl, _, rfl, v2, r2, rfl, _, rfl, v3, r3, rfl, _, rfl, v4, r4, rfl, _, h5, rfl⟩ := h3
    obtain ⟨a, cp, zs, rfl, h6, h7⟩ := list_sl h5
    have h8 := RepE.bytes h6
    subst h8
    rw [List.length_map] at h7 ⊢
    refine ⟨⟨c, a, cp⟩ :: ms, by simp only [cmds, List.map_cons] at e1 ⊢; rw [e1], ?_, ?_⟩
    · show CM.cells ⟨c, a, cp⟩ ++ cms ms = _
      rw [e2]
      rfl
    · intro m hm
      rcases List.mem_cons.1 hm with rfl | hm
      · exact ⟨hw c List.mem_cons_self, h7⟩
      · exact e3 m hm
theorem lput_fn (gl : List (Nat × List D)) (l : List I.Cmd) (hw : ∀ c ∈ l, c.Wf) : FnD Tryz.prog gl 62 [.d (.list 4 (l.map dCmd))] (fun v => v = .tup [.d (dBytes (I.putC l).1), .d (.int .i64 (I.putC l).2)]) := by
  intro w M us hM hus _
  simp only [RepL] at hus
  obtain ⟨v, r, rfl, hv, rfl⟩ := hus
  obtain ⟨a, c, ys, rfl, h1, h2⟩ := list_sl hv
  obtain ⟨ms, e1, e2, e3⟩ := cmds_of hw h1
  have hl : (l.map dCmd).length = ms.length := by rw [List.length_map, ← e1]; simp [cmds]
  rw [hl] at h2 ⊢
  refine (lPut_any a c ms w ⟨by rw [e2]; exact h2, e3⟩).mono ?_
  rintro e w' ⟨a', n, c', hn, rfl, hown, hb⟩
  rw [e1] at hn hown ⊢
  have hr := own_bytes hM hn hown
  exact ⟨_, _, rfl, Pure.tup (fun u hu => by
    simp only [List.mem_cons, List.not_mem_nil, or_false] at hu
    rcases hu with rfl | rfl <;> exact .d _), rfl, hb, _, rfl, _, _, rfl, hr, _, _, rfl, rfl, rfl⟩
def glT : List (Nat × List D) := [(0, I.fns.map fun s => .str ⟨s.toArray⟩), (1, Lib.asciiSpaceTab.map fun z => .int .u8 z)]
theorem repA_strs {w : World} {M : Nat → Nat → Prop} : ∀ {l : List (List UInt8)} {vs : List Value}, RepA w M (l.map fun s => D.str ⟨s.toArray⟩) vs → vs = l.map fun s => Value.string ⟨s.toArray⟩
  | [], _, h => h
  | x :: l, _, h => by
    simp only [List.map_cons, RepA] at h
    obtain ⟨v, r, rfl, _, h3, h4⟩ := h
    simp only [RepD] at h3
    rw [h3, repA_strs h4]
    rfl
theorem repA_ints {w : World} {M : Nat → Nat → Prop} : ∀ {l : List Int} {vs : List Value}, RepA w M (l.map fun z => D.int .u8 z) vs → vs = l.map fun z => Value.int .u8 z
  | [], _, h => h
  | x :: l, _, h => by
    simp only [List.map_cons, RepA] at h
    obtain ⟨v, r, rfl, _, h3, h4⟩ := h
    simp only [RepD] at h3
    rw [h3, repA_ints h4]
    rfl
theorem tabs_of {w : World} {M : Nat → Nat → Prop} (h : Globs glT w M) : Tabs w := by
  obtain ⟨v1, t1, f1, q1, _, q2⟩ := h 0 _ rfl
  obtain ⟨v2, t2, f2, q3, _, q4⟩ := h 1 _ rfl
  have q5 := repA_strs q2
  have q6 := repA_ints q4
  subst q5 q6
  refine ⟨?_, (Array.getElem?_eq_some_iff.1 q1).1, fun k hk => ?_⟩
  · show World.var? _ _ _ = _
    unfold World.var?
    rw [show Tryz.prog.globalNamed "strings.asciiSpace" = some 1 from by kernel_rfl]
    simp only [Option.bind_some, q3]
  · have : I.fns.length = 16 := rfl
    simp only [World.cell?, q1]
    simp [List.getD_eq_getElem?_getD, List.getElem?_eq_getElem (show k < I.fns.length by omega)]
theorem boot_fn : FnD Tryz.prog glT 15 [] (fun v => v = .d (dBytes I.bootB)) := by
  intro w M us hM hus hg
  simp only [RepL] at hus
  subst hus
  refine (boot_any w (tabs_of hg)).mono ?_
  rintro e w' ⟨a, c, rfl, hown, hb⟩
  exact ⟨_, _, rfl, .d _, rfl, hb, own_bytes hM (by rfl) hown⟩
end Go.Proofs.YtcblefmjacofgaaGreatDoor
namespace Go.Proofs.YtcblefmjacofgaaGreatDoor
open Go.RowKit
set_option maxHeartbeats 2000000 in
set_option maxRecDepth 100000 in
theorem grow_nil (n : Nat) (hn : n ≤ 1000000000) (w : World) :
    Calls Tryz.prog 84 #[.slice none 0 0, .int .i64 (n : Nat)] w fun e w' => ∃ a c, e = .returned (.slice a 0 c) ∧ w'.ownsRow w.heap.size 5 1 (.slice a 0 c) 0 [] ∧ Below w.heap.size w w' := by
  by_cases h0 : n = 0
  · subst h0
    go_enter Tryz.func84, Tryz.ntmps84
    go_wp2
    go_ret
    exact ⟨none, 0, rfl, ⟨rfl, .inl ⟨rfl, rfl⟩⟩, Below.refl _ _⟩
  · obtain ⟨i, z, ht, hi, hz, hsize, hbytes, hzs, hpos⟩ := Tryz.elB
    have hfit : Builtin.nextslicecap (0 + n) 0 * i.bytes ≤ 281474976710656 := by
      refine growslice_fits (by omega) ?_
      rw [hbytes]; omega
    have hrz : ∀ ty, (Builtin.append_ #[30, 3] ty #[.slice none 0 0, .int .i64 (n : Nat)]).run Tryz.prog w =
        .ok (.slice (some ⟨w.heap.size, 0, none⟩) (0 + n) (grownCap w (0 + n) 0 5)) (w.drew.alloc (.cells ((#[] : Array Value) ++ Builtin.zeroCells z.cells n ++ Builtin.zeroCells z.cells (grownCap w (0 + n) 0 5 - (0 + n))) 5)) := fun ty =>
      Lib.run_append_grow_zeros w _ _ ty _ i z .i64 .i64 ht Tryz.underlying3 hi hz none 0 0 [] (run_firstCells_none w.drew i.size 0 0 0) n (by omega) (by omega) (by omega) (by omega) (by rw [hbytes]; omega) hfit
    have hG := grownCap_ge w (0 + n) 0 5
    have hM := grownCap_le_maxLen w (0 + n) 0 5 (by unfold maxLen; omega)
    generalize grownCap w (0 + n) 0 5 = G at *
    have h1 : decide ((0 : Int) < (n : Int)) = true := by simp; omega
    have hZ : ((#[] : Array Value) ++ Builtin.zeroCells z.cells n ++ Builtin.zeroCells z.cells (G - (0 + n))).size = G * 1 := by
      rw [Array.size_append, Array.size_append, size_zeroCells, size_zeroCells, hzs]; simp; omega
    generalize (#[] : Array Value) ++ Builtin.zeroCells z.cells n ++ Builtin.zeroCells z.cells (G - (0 + n)) = Z at *
    replace hZ := Lib.hid hZ
    clear hfit hi hz
    go_enter Tryz.func84, Tryz.ntmps84
    go_wp2_with (at_builtin; refine Lib.wpList_append_run _ rfl _ _ _ _ rfl _ _ rfl rfl _ _ (hrz _) ?_)
    all_goals
      go_ret
      refine ⟨some ⟨w.heap.size, 0, none⟩, G, rfl, ⟨rfl, .inr ⟨w.heap.size, G, Z, rfl, Nat.le_refl _, heap_alloc_new _ _, Nat.zero_le _, hM, hZ.out, ?_⟩⟩, ?_⟩
      · simp
      · exact ((Below.refl _ _).drew).alloc (by simp) _
structure Part where
  a : Option Addr
  n : Nat
  c : Nat
  l : List UInt8
abbrev Part.val (p : Part) : Value := .slice p.a p.n p.c
def joined (ps : List Part) : List UInt8 := ps.flatMap Part.l
theorem joined_snoc (ps : List Part) (k : Nat) (h : k < ps.length) : joined (ps.take (k + 1)) = joined (ps.take k) ++ ps[k].l := by
  rw [List.take_succ_eq_append_getElem h]
  unfold joined
  rw [List.flatMap_append]
  simp only [List.flatMap_cons, List.flatMap_nil, List.append_nil]
theorem joined_le (ps : List Part) (k : Nat) : (joined (ps.take k)).length ≤ (joined ps).length := by
  have : joined ps = joined (ps.take k) ++ joined (ps.drop k) := by
    unfold joined; rw [← List.flatMap_append, List.take_append_drop]
  rw [this, List.length_append]; omega
set_option maxHeartbeats 2000000 in
set_option maxRecDepth 100000 in
theorem concat_any (ps : List Part) (s : Option Addr) (m c tot : Nat) (hm : ps.length = m) (ht : (joined ps).length = tot) (hmax : tot ≤ 10000000) (w : World) (hs : Sl w w.heap.size s m c 1 (ps.map Part.val))
    (hp : ∀ p ∈ ps, Sl w w.heap.size p.a p.n p.c 1 (p.l.map bv)) :
    Calls Tryz.prog 63 #[.slice s m c] w fun e w' => ∃ a c', e = .returned (.slice a tot c') ∧ w'.ownsRow w.heap.size 5 1 (.slice a tot c') tot ((joined ps).map bv) ∧ Below w.heap.size w w' := by
  subst hm
  have hcap := hs.cap
  have hmx := hs.max
  unfold maxLen at hmx
  go_enter Tryz.func63, Tryz.ntmps63
  go_wp2_with fail
  go_loop [3, 5, 11] (fun z _ i => ∃ k, k ≤ ps.length ∧ i = .int .i64 (k : Nat) ∧ z = .int .i64 ((joined (ps.take k)).length : Nat)) (fun _ _ i => ps.length - (intOf i).toNat)
  case atStart => exact ⟨0, Nat.zero_le _, rfl, rfl⟩
  case round =>
    obtain ⟨k, hk, rfl, rfl⟩ := hrel
    have hle := joined_le ps k
    by_cases hlt : k < ps.length
    · obtain ⟨b, o, rfl, hb, hcell⟩ := hs.rd k ps[k].val (by simp [hlt])
      have hsn := joined_snoc ps k hlt
      have hpk := hp ps[k] (List.getElem_mem hlt)
      have hle2 := joined_le ps (k + 1)
      generalize ps[k] = P at *
      obtain ⟨pa, y, pc, pl⟩ := P
      have hn : pl.length = y := by have := hpk.len; simpa using this
      rw [hsn, List.length_append, hn] at hle2
      replace hsn := Lib.hid hsn
      replace hpk := Lib.hid hpk
      replace hn := Lib.hid hn
      simp only [Part.val] at hcell
      obtain ⟨q, hq⟩ : ∃ q, (joined (ps.take k)).length = q := ⟨_, rfl⟩
      rw [hq] at hle hle2 ⊢
      replace hq := Lib.hid hq
      go_wp2_with fail
      go_round
      case rel => exact ⟨k + 1, by omega, by go_num, by rw [hsn.out, List.length_append, hn.out, hq.out]; go_num⟩
      case measure => simp [intOf]; omega
    · obtain rfl : k = ps.length := by omega
      rw [List.take_length] at *
      replace ht := Lib.hid ht
      go_wp2_with fail
      refine (grow_nil (joined ps).length (by rw [ht.out]; omega) w).mono ?_
      rintro e w1 ⟨a1, c1, rfl, ho1, hb1⟩
      go_wp2_with fail
      go_loopw [6, 8, 27] (fun v _ i wr => ∃ (k : Nat) (va : Option Addr) (vn vc : Nat), k ≤ ps.length ∧ i = .int .i64 (k : Nat) ∧ v = .slice va vn vc ∧ Hid ((joined (ps.take k)).length = vn) ∧
        wr.ownsRow w.heap.size 5 1 (.slice va vn vc) vn ((joined (ps.take k)).map bv) ∧ Below w.heap.size w wr) (fun _ _ i _ => ps.length - (intOf i).toNat)
      case atStart => exact ⟨0, a1, 0, c1, Nat.zero_le _, rfl, rfl, rfl, ho1, hb1⟩
      case round =>
        clear ho1 hb1
        obtain ⟨k, va, vn, vc, hk, rfl, rfl, hvn, ho, hb⟩ := hrel
        have hle := joined_le ps k
        by_cases hlt : k < ps.length
        · obtain ⟨b, o, rfl, hbb, hcell⟩ := (hs.below hb (Nat.le_refl _)).rd k ps[k].val (by simp [hlt])
          have hsn := joined_snoc ps k hlt
          have hpk := hp ps[k] (List.getElem_mem hlt)
          have hle2 := joined_le ps (k + 1)
          generalize ps[k] = P at *
          obtain ⟨pa, y, pc, pl⟩ := P
          have hn : pl.length = y := by have := hpk.len; simpa using this
          rw [hsn, List.length_append, hn, ht.out, hvn.out] at hle2
          replace hsn := Lib.hid hsn
          replace hn := Lib.hid hn
          have hpr := hpk.below hb (Nat.le_refl _)
          simp only [Part.val] at hcell
          clear hpk
          have hz := hb.size
          go_wp2_with (at_builtin; go_must (refine app_own rfl (.tmp 31) (.tmp 32) 30 rfl Tryz.elB rfl ho rfl hpr (oneCell_bytes _) (by omega) (by omega) hz ?_))
          intro a' c' w' h1 _ h3
          rw [← List.map_append] at h1
          go_wp2
          go_roundw
          case rel => exact ⟨k + 1, a', vn + y, c', by omega, by go_num, rfl, by show _ = _; rw [hsn.out, List.length_append, hvn.out, hn.out], by rw [hsn.out]; exact h1, hb.trans h3⟩
          case measure => simp [intOf]; omega
        · obtain rfl : k = ps.length := by omega
          rw [List.take_length] at ho hvn
          obtain rfl : tot = vn := ht.out.symm.trans hvn.out
          go_wp2
          go_ret
          exact ⟨va, vc, rfl, ho, hb⟩
theorem parts_of {w : World} {M : Nat → Nat → Prop} : ∀ {l : List (List UInt8)} {ys : List Value}, RepE w M 1 (l.map dBytes) ys → ∃ ps : List Part, ps.map Part.l = l ∧ ps.map Part.val = ys ∧ ∀ p ∈ ps, Sl w w.heap.size p.a p.n p.c 1 (p.l.map bv)
  | [], ys, h => by
    simp only [List.map_nil, RepE] at h
    subst h
    exact ⟨[], rfl, rfl, fun m hm => by cases hm⟩
  | b :: l, ys, h => by
    simp only [List.map_cons, RepE] at h
    obtain ⟨v, r, rfl, h2, h3, h4⟩ := h
    obtain ⟨ps, e1, e2, e3⟩ := parts_of h4
    obtain ⟨a, cp, zs, rfl, h6, h7⟩ := list_sl h3
    have h8 := RepE.bytes h6
    subst h8
    rw [List.length_map] at h7 ⊢
    refine ⟨⟨a, b.length, cp, b⟩ :: ps, by rw [List.map_cons, e1], by rw [List.map_cons, e2]; rfl, fun p hp => ?_⟩
    rcases List.mem_cons.1 hp with rfl | hp
    · exact h7
    · exact e3 p hp
theorem concat_fn (gl : List (Nat × List D)) (l : List (List UInt8)) (hl : l.flatten.length ≤ 10000000) : FnD Tryz.prog gl 63 [.d (.list 1 (l.map dBytes))] (fun v => v = .d (dBytes l.flatten)) := by
  intro w M us hM hus _
  simp only [RepL] at hus
  obtain ⟨v, r, rfl, hv, rfl⟩ := hus
  obtain ⟨a, c, ys, rfl, h1, h2⟩ := list_sl hv
  obtain ⟨ps, e1, e2, e3⟩ := parts_of h1
  have hj : joined ps = l.flatten := by rw [← e1]; simp [joined, List.flatMap]
  have hm : (l.map dBytes).length = ps.length := by rw [List.length_map, ← e1, List.length_map]
  rw [hm] at h2 ⊢
  refine (concat_any ps a ps.length c _ rfl rfl (by rw [hj]; exact hl) w (by rw [e2]; exact h2) e3).mono ?_
  rintro e w' ⟨a', c', rfl, hown, hb⟩
  rw [hj] at hown
  exact ⟨_, _, rfl, .d _, by rw [hj], hb, own_bytes hM rfl hown⟩
end Go.Proofs.YtcblefmjacofgaaGreatDoor
