/- Parts: N17H. -/
import Derived.Test.YtjhbglklcddekaaGreatDoorP30
set_option linter.all false
set_option maxRecDepth 100000
set_option maxHeartbeats 16000000
namespace Go.Proofs.YtjhbglklcddekaaGreatDoor
open Go.RowKit Go.Proofs.Tryz
section
def qn17h_0 : List Nat := [0, 2, 4, 5, 6, 13, 18, 33, 34, 35, 36, 45]
def qn17h_1 : List Nat := [0, 2, 3, 4, 5, 6, 11, 35, 42, 53, 83]
def qn17h_2 : List Nat := [0, 1, 4, 5, 6, 7, 12, 65, 82]
def qn17h_3 : Plan := lin [0, 4, 8, 12, 24, 28, 32, 36, 17, 20, 41, 46, 48]
def qn17h_4 : Plan := lin [0, 4, 8, 12, 16, 24, 28, 36, 40, 44, 48, 21, 32, 53, 56, 61, 66]
def qn17h_5 : Plan := lin [0, 4, 8, 16, 20, 28, 32, 13, 26, 38, 42]
def qn17h_6 : Plan := lin [0, 4, 8, 16, 20, 13, 26, 30, 32, 36, 40, 44, 48]
def qn17h_7 : Plan := lin [0, 4, 8, 16, 20, 13, 26]
open Go.RowKit Nd
namespace Nd
theorem wptr_eq (n : Nat) (hn : n ≤ 300) : IntKind.i32.wrap ((BitVec.ofInt IntKind.i32.bits (-2147483576 + (n : Int) + 2) &&& ~~~ (BitVec.ofInt IntKind.i32.bits 3)).toNat) = -2147483648 + 72 + (((n + 2) / 4 * 4 : Nat) : Int) := by
  have h := at_word (2147483648 + 74 + n) (by omega)
  have e1 : s32 (2147483648 + 74 + n) = -2147483576 + (n : Int) + 2 := by unfold s32; split <;> omega
  have e2 : index (2147483648 + 74 + n) = 74 + n := by unfold index; omega
  rw [e1, e2] at h
  rw [h]
  omega
end Nd
attribute [local irreducible] TR TC
theorem step_boot (gl : List (Nat × List D)) (k : Nat) (hk : k < 4) (mem : List UInt8) (l : Lk) (l' : Lk) (x b : UInt8) (t : List UInt8) (ht : l.take = some (l', b)) (hok : l.wire.ok) (hm : mem.length = 1024) (h0 : x.toNat ≠ 0) (h1 : x.toNat ≠ 1) (hw : (t ++ [b]).length = x.toNat) :
    FnE prog gl 18 [.ptr 900 0] (NH ⟨k, (x :: t), [], mem, at4 k l, none⟩) (fun v H1 => v = .d (.list 5 [actA 1 1 (-2147483648 + 72 + (((t ++ [b]).length + 3) / 4 * 4 : Nat))]) ∧ H1 = NH ⟨k, [], [], (put mem 72 (t ++ [b])), at4 k l', (some (-2147483648 + 72 + (((t ++ [b]).length + 3) / 4 * 4 : Nat), -2147483648 + 16 + 4 * ((k : Nat) : Int)))⟩) := by
  have c0 := nnone_fn gl k hk k (x :: t) [] mem l none
  have cT := take_yes gl k hk k (x :: t) [] mem none l l' b ht hok
  have cI := cT
  have cS := cT
  have hx : x.toNat < 256 := x.toNat_lt
  have e : (dB x :: dBs t) ++ [.int .u8 ((b.toNat : Nat) : Int)] = dB x :: dBs (t ++ [b]) := by simp [dBs, dB]
  have hwh : whole [x] = x.toNat + 1 := by
    have e0 : ¬ x = 0 := fun h => by rw [h] at h0; exact h0 rfl
    have e1 : ¬ x = 1 := fun h => by rw [h] at h1; exact h1 rfl
    show (if x = 0 then 9 else if x = 1 then 5 else x.toNat + 1) = _
    rw [if_neg e0, if_neg e1]
  have hdt := dBs_len t
  have htl : t.length + 1 = x.toNat := by rw [← hw]; simp
  generalize t ++ [b] = code at *
  have hdl := dBs_len code
  have cWr : FnE prog gl 104 [.ptr 901 0, .d (.int .i32 (-2147483576)), .d (.list 1 (((dB x :: dBs code).drop 1).take ((dB x :: dBs code).length - 1)))] (memO mem) (fun r H1 => r = .d (.int .i64 0) ∧ H1 = memO (put mem 72 code)) := by
    rw [show ((dB x :: dBs code).drop 1).take ((dB x :: dBs code).length - 1) = dBs code by simp]
    exact mwrite_fn gl mem code 72 _ rfl (by omega) (by omega) (by omega)
  have hwp := wptr_eq (code.length + 1) (by omega)
  rw [show code.length + 1 + 2 = code.length + 3 by omega] at hwp
  rcases four_k hk with rfl | rfl | rfl | rfl
  all_goals
    (refine y_entere func18 ntmps18 results18 fun w M E b0 => ?_)
    (repeat' first | refine yyp ?_; try refine s_bu ?_ ?_ <;> intro hb | refine yy ?_ | refine at_nil ?_; refine z_nil qn17h_0 ?_ | refine tc_seq fun K hK => ?_ | apply_assumption -exfalso -symm)
    refine tc_scope rfl ?_
    ((repeat' first | refine tr_at 6 ?_; refine y_callE (hc := c0) ?_; try refine s_bu ?_ ?_ <;> intro hb | refine tr_at 20 ?_; (refine tr_keep [0, 2, 4, 5, 6, 13, 18, 19, 33, 34, 35, 36, 45] ?_); refine y_inline func53 ntmps53 results53 fun tm sy => ?_; simp only [slots, shift, zipPs, List.nil_append, List.cons_append, List.append_nil, List.map_cons, List.map_nil, List.zipIdx_cons, List.zipIdx_nil, Nat.reduceAdd]; refine halt ?_ | refine yyp ?_; try refine s_bu ?_ ?_ <;> intro hb | refine yy ?_ | refine yyr ?_; try refine s_bu ?_ ?_ <;> intro hb | refine at_nil ?_; refine z_nil qn17h_0 ?_ | refine tc_seq fun K hK => ?_ | apply_assumption -exfalso -symm); all_goals try refine unhalt ?_)
    ((repeat' first | refine tr_at 49 ?_; refine y_callE (hc := cT) ?_ | refine tc_at 8 ?_; refine halt ?_ | refine yyp ?_; try refine s_bu ?_ ?_ <;> intro hb | refine yy ?_ | refine yyr ?_; try refine s_bu ?_ ?_ <;> intro hb | refine yyc ?_ | refine at_nil ?_; refine z_nil qn17h_1 ?_ | refine tc_seq fun K hK => ?_ | refine tc_at 1 ?_; refine z_draw [16] (lin [0, 4, 8, 12, 16, 24, 28, 36, 40, 44, 48, 21, 32, 53, 56, 61, 67]) ?_ | refine tc_at 10 ?_; refine z_draw [] qn17h_3 ?_ | apply_assumption -exfalso -symm); all_goals try refine unhalt ?_)
    all_goals try (exfalso; simp only [List.length_cons, List.length_nil, dBs_len] at hcmp; omega)
    refine tc_wk (wk_hbox_out (n := 900) (q := 902) rfl rfl) ?_
    simp only [nodeC, coreD, four_links0, four_links1, four_links2, four_links3, lkD, seD, dSe, lk0, se0, num, dBs_cons, dBs_nil, dB_zero, dB_one, bD_none, bD_some, Option.isSome_none, Option.isSome_some, Option.isNone_none, Option.isNone_some, List.length_nil, List.map_append, List.map_cons, List.map_nil, List.cons_append, List.nil_append, List.append_assoc, List.set_cons_succ, List.set_cons_zero]
    ((repeat' first | refine tr_at 66 ?_; (refine z_lit 2066 ?_) | refine tc_at 10 ?_; refine halt ?_ | refine yyp ?_; try refine s_bu ?_ ?_ <;> intro hb | refine yy ?_ | (refine at_append ?_; first | (refine z_append (fun kv => ?_)) | (refine z_append_suf (fun sx sp kv hsx hsp hsl => ?_))) | refine at_nil ?_; refine z_nil qn17h_1 ?_ | refine tc_seq fun K hK => ?_ | refine tc_at 1 ?_; refine z_draw [] qn17h_4 ?_ | apply_assumption -exfalso -symm); all_goals try refine unhalt ?_)
    rw [e]
    ((repeat' first | refine tr_at 82 ?_; refine y_callE (hc := (whole_fn gl x (dBs code) kv)) ?_ | refine tr_at 90 ?_; (refine tr_keep [0, 2, 3, 4, 5, 6, 11, 35, 42, 53, 83, 84, 89] ?_); refine y_inline func81 ntmps81 results81 fun tm sy => ?_; simp only [slots, shift, zipPs, List.nil_append, List.cons_append, List.append_nil, List.map_cons, List.map_nil, List.zipIdx_cons, List.zipIdx_nil, Nat.reduceAdd]; refine halt ?_ | refine yyp ?_; try refine s_bu ?_ ?_ <;> intro hb | refine yy ?_ | refine yyc ?_ | refine at_nil ?_; refine z_nil qn17h_1 ?_ | refine tr_mid ?_ ?_ | (apply tc_mid (x := .region 10 _ _); focus ((refine tc_at 10 ?_; refine z_draw [11] (linT [0, 4, 8, 12, 24, 28, 32, 36, 41] (.mid 4 (lin [20, 47, 48]) 11 (lin [17, 20, 48]))) ?_); (repeat' (first | refine tr_at 66 ?_; (refine z_lit 2066 ?_))); (all_goals first | exact Wk.refl _ _ | exact y_wk); done)) | refine tc_seq fun K hK => ?_ | refine tc_at 1 ?_; refine z_draw [] qn17h_4 ?_ | refine tc_at 10 ?_; refine z_draw [11] (linT [0, 4, 8, 12, 24, 28, 32, 36, 41] (.mid 4 (lin [20, 47, 48]) 11 (lin [17, 20, 48]))) ?_ | apply_assumption -exfalso -symm); all_goals try refine unhalt ?_)
    all_goals try (exfalso; simp only [List.length_cons, hdl, hwh] at hcmp; omega)
    all_goals
      ((repeat' first | refine tc_at 2 ?_; refine halt ?_ | refine yyp ?_; try refine s_bu ?_ ?_ <;> intro hb | refine yy ?_ | refine at_nil ?_; refine z_nil qn17h_2 ?_ | refine tc_seq fun K hK => ?_ | refine tc_at 9 ?_; refine z_draw [] qn17h_5 ?_ | refine tc_at 12 ?_; refine z_draw [] qn17h_6 ?_ | apply_assumption -exfalso -symm); all_goals try refine unhalt ?_)
      refine tc_share 902 rfl ?_
      refine tc_wk (wk_slot 1 rfl (ToD.own rfl)) ?_
      ((repeat' first | refine tr_at 19 ?_; refine y_callE (hc := cWr) ?_ | refine tc_at 5 ?_; refine halt ?_ | refine yyp ?_; try refine s_bu ?_ ?_ <;> intro hb | refine yy ?_ | refine at_nil ?_; refine z_nil qn17h_2 ?_ | refine tc_seq fun K hK => ?_ | refine tc_at 9 ?_; refine z_draw [] qn17h_5 ?_ | refine tc_at 12 ?_; refine z_draw [] qn17h_6 ?_ | refine tc_at 2 ?_; refine z_draw [6] (lin [0, 4, 8, 16, 20, 13, 27]) ?_ | apply_assumption -exfalso -symm); all_goals try refine unhalt ?_)
      have hlen : (dB x :: dBs code).length = code.length + 1 := by simp only [List.length_cons, hdl]
      ((repeat' first | refine tc_at 6 ?_; refine halt ?_ | refine yyp ?_; try refine s_bu ?_ ?_ <;> intro hb | refine yy ?_ | refine at_nil ?_; refine z_nil qn17h_2 ?_ | refine tc_seq fun K hK => ?_ | refine tc_at 9 ?_; refine z_draw [] qn17h_5 ?_ | refine tc_at 12 ?_; refine z_draw [] qn17h_6 ?_ | refine tc_at 2 ?_; refine z_draw [] qn17h_7 ?_ | apply_assumption -exfalso -symm); all_goals try refine unhalt ?_)
      rw [hlen, hwp]
      ((repeat' first | refine tr_at 64 ?_; (refine tr_keep [0, 1, 4, 5, 6, 7, 12, 58, 63, 65, 82] ?_); refine y_inline func51 ntmps51 results51 fun tm sy => ?_; simp only [slots, shift, zipPs, List.nil_append, List.cons_append, List.append_nil, List.map_cons, List.map_nil, List.zipIdx_cons, List.zipIdx_nil, Nat.reduceAdd]; refine halt ?_ | refine yyp ?_; try refine s_bu ?_ ?_ <;> intro hb | refine yy ?_ | refine at_nil ?_; refine z_nil qn17h_2 ?_ | refine tc_seq fun K hK => ?_ | refine tc_at 9 ?_; refine z_draw [] qn17h_5 ?_ | refine tc_at 12 ?_; refine z_draw [] qn17h_6 ?_ | refine tc_at 2 ?_; refine z_draw [] qn17h_7 ?_ | apply_assumption -exfalso -symm); all_goals try refine unhalt ?_)
      (repeat' first | refine tr_at 17 ?_; (refine z_lit 4017 ?_) | refine tr_at 18 ?_; refine z_append0 4018 ?_ | refine yyp ?_; try refine s_bu ?_ ?_ <;> intro hb | refine yy ?_ | refine at_nil ?_; refine z_nil [0, 1, 2, 3, 8, 9] ?_ | refine tc_seq fun K hK => ?_ | apply_assumption -exfalso -symm)
      (refine y_endi ?_)
      (repeat' first | refine at_nil ?_; refine z_nil qn17h_2 ?_ | refine tc_seq fun K hK => ?_ | refine tc_at 9 ?_; refine z_draw [] qn17h_5 ?_ | refine tc_at 12 ?_; refine z_draw [] qn17h_6 ?_ | refine tc_at 2 ?_; refine z_draw [] qn17h_7 ?_ | apply_assumption -exfalso -symm)
      (refine y_endi ?_)
      (repeat' first | refine at_nil ?_; refine z_nil qn17h_1 ?_ | refine tc_seq fun K hK => ?_ | refine tc_at 1 ?_; refine z_draw [] qn17h_4 ?_ | refine tc_at 10 ?_; refine z_draw [] qn17h_3 ?_ | apply_assumption -exfalso -symm)
      (refine y_endi ?_)
      ((repeat' first | refine tr_at 22 ?_; (refine tr_keep [0, 2, 4, 5, 6, 13, 18, 21, 22, 33, 34, 35, 36, 45] ?_); refine y_inline func52 ntmps52 results52 fun tm sy => ?_; simp only [slots, shift, zipPs, List.nil_append, List.cons_append, List.append_nil, List.map_cons, List.map_nil, List.zipIdx_cons, List.zipIdx_nil, Nat.reduceAdd]; refine halt ?_ | refine yyp ?_; try refine s_bu ?_ ?_ <;> intro hb | refine yy ?_ | refine at_nil ?_; refine z_nil qn17h_0 ?_ | refine tc_seq fun K hK => ?_ | apply_assumption -exfalso -symm); all_goals try refine unhalt ?_)
      (repeat' first | refine yyp ?_; try refine s_bu ?_ ?_ <;> intro hb | refine yy ?_ | refine at_nil ?_; refine z_nil [0, 2, 3, 4, 5, 6] ?_ | refine tc_seq fun K hK => ?_ | apply_assumption -exfalso -symm)
      (refine tc_ret (y_reti ?_))
      (repeat' first | refine yyp ?_; try refine s_bu ?_ ?_ <;> intro hb | refine at_nil ?_; refine z_nil qn17h_0 ?_ | refine tc_seq fun K hK => ?_ | apply_assumption -exfalso -symm)
      refine tc_nilbox 900 905 115 (e := 5) (sz := 1) rfl rfl rfl ?_
      refine tc_wk (wk_unshare 905 rfl) ?_
      refine tc_wk (wk_hbox_in (n := 900) (q := 905) (i := 115) rfl rfl rfl rfl (by (repeat (first | exact Drop.nil | apply Drop.drop rfl | apply Drop.take rfl)); fail_if_success intros) rfl) ?_
      (refine tc_ret (y_rete ⟨?_, rfl⟩))
      rfl
end
end Go.Proofs.YtjhbglklcddekaaGreatDoor
