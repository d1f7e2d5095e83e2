/- Parts: N24, N25, N26. -/
import Derived.Test.YtjhbglklcddekaaGreatDoorV21
import Derived.Test.YtjhbglklcddekaaGreatDoorV13
import Derived.Test.YtjhbglklcddekaaGreatDoorV27
import Derived.Test.YtjhbglklcddekaaGreatDoorV14
set_option linter.all false
set_option maxRecDepth 100000
set_option maxHeartbeats 16000000
namespace Go.Proofs.YtjhbglklcddekaaGreatDoor
open Go.RowKit Go.Proofs.Tryz
section
def qn24_0 : List Nat := [0, 2, 3, 4, 5, 6, 7, 8, 15, 21, 22, 43, 44]
def qn24_1 : Plan := lin [0, 4, 8, 12, 16, 20, 24, 28, 32, 36, 44, 48, 52, 64, 68, 72, 43, 56, 63, 76, 83]
def qn24_2 : Plan := lin [0, 4, 20, 24, 10, 14, 16, 28, 35]
open Go.RowKit Nd
attribute [local irreducible] TR TC
theorem nfree_fn (gl : List (Nat × List D)) : FnD prog gl 37 [] (fun v => v = .d (.agg [.int .i32 (-2147483648), .int .i32 0, .int .i32 0, .int .i32 0, .bool false, .bool false, .int .u8 0])) := by
  (refine y_enter func37 ntmps37 results37 fun w M => ?_)
  (repeat' first | refine tr_at 0 ?_; (refine z_alloc 0 ?_) | refine tr_at 1 ?_; refine z_p w_buildn ?_ | refine yy ?_ | refine at_nil ?_; refine z_nil [0, 1, 53] ?_ | refine tc_seq fun K hK => ?_ | apply_assumption -exfalso -symm)
  (refine tc_ret (y_ret ?_))
  rfl
instance : TZero prog 69 [.d (.int .i32 0), .d (.int .i32 0), .d (.int .i32 0), .d (.int .i32 0), .d (.int .i32 0), .d (.int .i64 0), .d (.bool false), .d (.bool false), .d (.bool false), .d (.bool false), .d (.int .i32 0), .d (.int .i32 0), .d (.int .i32 0), .d (.int .i32 0), .d (.int .i32 0), .d (.int .i32 0), .d (.int .i32 0), .d (.int .i32 0), .d (.int .i32 0), .d (.int .i32 0), .d (.bool false), .d (.int .i32 0), .d (.int .i32 0), .d (.int .i32 0), .d (.int .i32 0), .d (.int .i32 0), .d (.bool false), .d (.int .i32 0), .d (.raw (.pointer none)), .d (.int .i32 0), .d (.int .i32 0), .d (.int .i32 0), .d (.int .i32 0), .d (.bool false), .d (.bool false), .d (.int .u8 0), .d (.int .i32 0), .d (.int .i32 0), .d (.int .i32 0), .d (.int .i32 0), .d (.bool false), .d (.bool false), .d (.int .u8 0), .d (.int .u16 0), .d (.int .i64 0), .d (.bool false), .d (.bool false), .d (.int .u8 0), .d (.int .i64 0), .d (.int .u16 0), .d (.int .i32 0), .d (.int .i32 0), .d (.int .i32 0), .d (.int .i32 0), .d (.bool false), .d (.bool false), .d (.int .u8 0), .d (.int .i32 0), .d (.int .i32 0), .d (.int .i32 0), .d (.int .i32 0), .d (.bool false), .d (.bool false), .d (.int .u8 0), .d (.int .u16 0), .d (.int .i64 0), .d (.bool false), .d (.bool false), .d (.int .u8 0), .d (.int .i64 0), .d (.int .u16 0), .d (.int .i32 0), .d (.int .i32 0), .d (.int .i32 0), .d (.int .i32 0), .d (.bool false), .d (.bool false), .d (.int .u8 0), .d (.int .i32 0), .d (.int .i32 0), .d (.int .i32 0), .d (.int .i32 0), .d (.bool false), .d (.bool false), .d (.int .u8 0), .d (.int .u16 0), .d (.int .i64 0), .d (.bool false), .d (.bool false), .d (.int .u8 0), .d (.int .i64 0), .d (.int .u16 0), .d (.int .i32 0), .d (.int .i32 0), .d (.int .i32 0), .d (.int .i32 0), .d (.bool false), .d (.bool false), .d (.int .u8 0), .d (.int .i32 0), .d (.int .i32 0), .d (.int .i32 0), .d (.int .i32 0), .d (.bool false), .d (.bool false), .d (.int .u8 0), .d (.int .u16 0), .d (.int .i64 0), .d (.bool false), .d (.bool false), .d (.int .u8 0), .d (.int .i64 0), .d (.int .u16 0), .d (.bool false), .d (.int .i64 0), .nils 1, .nils 1, .nils 0] := ⟨by kernel_rfl⟩
theorem nnew_fn (gl : List (Nat × List D)) : FnE prog gl 8 [.d (.int .i64 1024)] [] (fun r H1 => r = .tup [.ptr 900 0, .d (.int .i64 0)] ∧ H1 = NH (new 1024)) := by
  have c0 := mnew_fn gl
  have c1 := nfree_fn gl
  unfold NH new nodeC
  dsimp only
  (refine y_entere func8 ntmps8 results8 fun w M E b0 => ?_)
  (repeat' first | refine tr_at 11 ?_; refine y_callG (hc := c0) ?_ | refine tr_at 18 ?_; (refine z_p (w_buildn) ?_) | refine tr_at 19 ?_; (refine z_p (q_buildV (by exact BuildV.cons rfl rfl (by first | exact rfl | exact ownOk_row rfl) (by first | (refine CellsV.d (by first | exact CellsD.agg _ | constructor) (by (repeat (first | exact MapD.nil | apply MapD.nils | apply MapD.cons)); fail_if_success intros)) | constructor) (by rfl) (by (repeat (first | exact Repl.done _ | apply Repl.here | apply Repl.there)); fail_if_success intros) (BuildV.cons rfl rfl (by exact rfl) (by first | (refine CellsV.d (by first | exact CellsD.agg _ | constructor) (by (repeat (first | exact MapD.nil | apply MapD.nils | apply MapD.cons)); fail_if_success intros)) | constructor) (by rfl) (by (repeat (first | exact Repl.done _ | apply Repl.here | apply Repl.there)); fail_if_success intros) (BuildV.nil _)))) ?_) | refine tr_at 20 ?_; (refine z_box 900 ?_) | refine yyp ?_; try refine s_bu ?_ ?_ <;> intro hb | refine yy ?_ | refine at_nil ?_; refine z_nil qn24_0 ?_ | refine tc_seq fun K hK => ?_ | refine tc_at 8 ?_; refine z_draw [10, 15, 20] qn24_1 ?_ | refine tc_at 13 ?_; refine z_draw [8] qn24_2 ?_ | apply_assumption -exfalso -symm)
  refine tc_rounds 3 (rounds_next fun K5 h5 => ?_)
  (repeat' first | refine yyp ?_; try refine s_bu ?_ ?_ <;> intro hb | refine yy ?_ | refine at_nil ?_; refine z_nil qn24_0 ?_ | refine tc_seq fun K hK => ?_ | refine tc_at 8 ?_; refine z_draw [10, 15, 20] qn24_1 ?_ | refine tc_at 13 ?_; refine z_draw [8] qn24_2 ?_ | apply_assumption -exfalso -symm)
  refine tc_rounds 5 (rounds_next fun K6 h6 => ?_)
  (repeat' first | refine tr_at 50 ?_; refine z_p w_buildn ?_ | refine yyp ?_; try refine s_bu ?_ ?_ <;> intro hb | refine yy ?_ | refine at_call 37 ?_; refine y_call (hc := c1) ?_ | refine at_nil ?_; refine z_nil qn24_0 ?_ | refine tc_seq fun K hK => ?_ | refine tc_at 8 ?_; refine z_draw [10, 15, 20] qn24_1 ?_ | refine tc_at 13 ?_; refine z_draw [8] qn24_2 ?_ | apply_assumption -exfalso -symm)
  refine tc_wk (wk_dcell 900 116 (x := .list 1 []) rfl rfl (ToD.nils 1)) ?_
  refine tc_nilbox 900 905 115 (e := 5) (sz := 1) rfl rfl rfl ?_
  refine tc_wk (wk_unshare 905 rfl) ?_
  refine tc_wk (wk_hbox_in (n := 900) (q := 905) (i := 115) rfl rfl rfl rfl (by (repeat (first | exact Drop.nil | apply Drop.drop rfl | apply Drop.take rfl)); fail_if_success intros) rfl) ?_
  (refine tc_ret (y_rete ⟨?_, rfl⟩))
  rfl
theorem nnew_no (gl : List (Nat × List D)) : FnE prog gl 8 [.d (.int .i64 1022)] [] (fun r H1 => r = .tup [.d (.raw (.pointer none)), .d (.int .i64 2)] ∧ H1 = []) := by
  have c0 := mnew_no gl
  (refine y_entere func8 ntmps8 results8 fun w M E b0 => ?_)
  (repeat' first | refine tr_at 11 ?_; refine y_callG (hc := c0) ?_ | refine yyp ?_; try refine s_bu ?_ ?_ <;> intro hb | refine yy ?_ | refine at_nil ?_; refine z_nil qn24_0 ?_ | refine tc_seq fun K hK => ?_ | refine tc_at 8 ?_; refine z_draw [10, 15, 20] qn24_1 ?_ | refine tc_at 13 ?_; refine z_draw [8] qn24_2 ?_ | apply_assumption -exfalso -symm)
  (refine tc_ret (y_rete ⟨?_, rfl⟩))
  rfl
theorem clone_fn (gl : List (Nat × List D)) (l : List D) (hl : l.length ≤ 1000000) : FnD prog gl 48 [.d (.list 1 l)] (fun r => r = .d (.list 1 l)) := by
  (refine y_enter func48 ntmps48 results48 fun w M => ?_)
  (repeat' first | refine tr_at 4 ?_; (refine z_slice_nil (fun hn => ?_) ?_) | refine tr_at 5 ?_; (refine z_lit 105 ?_) | refine yyp ?_; try refine s_bu ?_ ?_ <;> intro hb | refine yy ?_ | (refine at_append ?_; first | (refine z_append (fun kv => ?_)) | (refine z_append_suf (fun sx sp kv hsx hsp hsl => ?_))) | refine at_nil ?_; refine z_nil [0, 2, 3, 4, 5, 6] ?_ | refine tc_seq fun K hK => ?_ | apply_assumption -exfalso -symm)
  · subst hn
    (refine tc_ret (y_ret ?_))
    rfl
  · (refine tc_ret (y_ret ?_))
    rw [List.nil_append]
    rfl
end
section
def qn25_0 : Plan := lin [0, 4, 8, 12, 24, 28, 32, 36, 17, 41, 22, 48, 52, 46, 59, 60, 64, 71]
open Go.RowKit Nd
instance : TZero prog 60 [.d (.int .i32 0), .d (.int .i32 0), .d (.int .i32 0), .d (.int .i32 0), .d (.int .i32 0), .d (.int .i64 0), .d (.bool false), .d (.bool false), .d (.bool false), .d (.bool false), .d (.int .i32 0), .d (.int .i32 0), .d (.int .i32 0), .d (.int .i32 0), .d (.int .i32 0), .d (.int .i32 0), .d (.int .i32 0), .d (.int .i32 0), .d (.int .i32 0), .d (.int .i32 0), .d (.bool false), .d (.int .i32 0), .d (.int .i32 0), .d (.int .i32 0), .d (.int .i32 0), .d (.int .i32 0), .d (.bool false), .d (.int .i32 0), .nils 1, .d (.int .i32 0), .d (.int .i32 0), .d (.int .i32 0), .d (.int .i32 0), .d (.bool false), .d (.bool false), .d (.int .u8 0), .d (.int .i32 0), .d (.int .i32 0), .d (.int .i32 0), .d (.int .i32 0), .d (.bool false), .d (.bool false), .d (.int .u8 0), .d (.int .u16 0), .d (.int .i64 0), .d (.bool false), .d (.bool false), .d (.int .u8 0), .d (.int .i64 0), .d (.int .u16 0), .d (.int .i32 0), .d (.int .i32 0), .d (.int .i32 0), .d (.int .i32 0), .d (.bool false), .d (.bool false), .d (.int .u8 0), .d (.int .i32 0), .d (.int .i32 0), .d (.int .i32 0), .d (.int .i32 0), .d (.bool false), .d (.bool false), .d (.int .u8 0), .d (.int .u16 0), .d (.int .i64 0), .d (.bool false), .d (.bool false), .d (.int .u8 0), .d (.int .i64 0), .d (.int .u16 0), .d (.int .i32 0), .d (.int .i32 0), .d (.int .i32 0), .d (.int .i32 0), .d (.bool false), .d (.bool false), .d (.int .u8 0), .d (.int .i32 0), .d (.int .i32 0), .d (.int .i32 0), .d (.int .i32 0), .d (.bool false), .d (.bool false), .d (.int .u8 0), .d (.int .u16 0), .d (.int .i64 0), .d (.bool false), .d (.bool false), .d (.int .u8 0), .d (.int .i64 0), .d (.int .u16 0), .d (.int .i32 0), .d (.int .i32 0), .d (.int .i32 0), .d (.int .i32 0), .d (.bool false), .d (.bool false), .d (.int .u8 0), .d (.int .i32 0), .d (.int .i32 0), .d (.int .i32 0), .d (.int .i32 0), .d (.bool false), .d (.bool false), .d (.int .u8 0), .d (.int .u16 0), .d (.int .i64 0), .d (.bool false), .d (.bool false), .d (.int .u8 0), .d (.int .i64 0), .d (.int .u16 0), .d (.bool false), .d (.int .i64 0), .nils 1, .nils 1] := ⟨by kernel_rfl⟩
def stateD (n : NB) : List D := coreD n.run ++ [.list 1 (dBs n.mem)] ++ n.ls.flatMap lkD ++ [.bool n.run.isNone, .int .i64 n.link, .list 1 (dBs n.buf), .list 1 (dBs n.out)]
theorem four_links (a b c d : Lk) : [a, b, c, d].flatMap lkD = lkD a ++ lkD b ++ lkD c ++ lkD d := by simp [List.flatMap]
def nodeF (n : NB) : List V := (coreD n.run).map V.d ++ [.d (.ref [.list 1 (dBs n.mem)] 0)] ++ (n.ls.flatMap lkD).map V.d ++ [.d (.bool n.run.isNone), .d (.int .i64 n.link), .nils 0, .d (.list 1 (dBs n.out)), .nils 0]
def NF (n : NB) : List (Nat × Ob) := [(900, .hbox 5 1 (dBs n.buf) 115 (nodeF n))]
theorem copied (ms : List D) (z : D) : (List.replicate ms.length z).take 0 ++ ms.take (min ms.length (List.replicate ms.length z).length) ++ (List.replicate ms.length z).drop (0 + min ms.length (List.replicate ms.length z).length) = ms := by simp
attribute [local irreducible] TR TC
theorem mnone_ref (gl : List (Nat × List D)) (m : List UInt8) (h0 : 0 < m.length) : FnD prog gl 74 [.d (.ref [.list 1 (dBs m)] 0)] (fun v => v = .d (.bool false)) := by
  have hl := dBs_len m
  generalize dBs m = ms at *
  (refine y_enter func74 ntmps74 results74 fun w M => ?_)
  (repeat' first | refine yyp ?_; try refine s_bu ?_ ?_ <;> intro hb | refine yyq ?_; try refine s_bu ?_ ?_ <;> intro hb | refine yy ?_ | refine at_nil ?_; refine z_nil [0, 2, 3, 4, 5, 6] ?_ | refine tc_seq fun K hK => ?_ | apply_assumption -exfalso -symm)
  all_goals
    first
      | ((refine tc_ret (y_ret ?_))
         rfl)
      | (exfalso; omega)
theorem mbytes_ref (gl : List (Nat × List D)) (m : List UInt8) (h0 : 0 < m.length) (h3 : m.length ≤ 65536) : FnD prog gl 47 [.d (.ref [.list 1 (dBs m)] 0)] (fun v => v = .d (.list 1 (dBs m))) := by
  have c0 := mnone_ref gl m h0
  have hl := dBs_len m
  generalize dBs m = ms at *
  (refine y_enter func47 ntmps47 results47 fun w M => ?_)
  (repeat' first | refine tr_at 11 ?_; (refine z_make 1011 ?_) | refine yyp ?_; try refine s_bu ?_ ?_ <;> intro hb | refine yy ?_ | refine at_call 74 ?_; refine y_call (hc := c0) ?_; try refine s_bu ?_ ?_ <;> intro hb | refine z_copy ?_ | refine at_nil ?_; refine z_nil [0, 2, 3, 4, 5, 6] ?_ | refine tc_seq fun K hK => ?_ | apply_assumption -exfalso -symm)
  refine tc_share 1011 rfl ?_
  rw [copied]
  (refine tc_ret (y_ret ?_))
  rfl
theorem nnoneF_fn (gl : List (Nat × List D)) (link : Int) (buf out mem : List UInt8) (l0 l1 l2 l3 : Lk) (r : Option (Int × Int)) (h0 : 0 < mem.length) :
    FnE prog gl 46 [.ptr 900 0] (NF ⟨link, buf, out, mem, [l0, l1, l2, l3], r⟩) (fun v H1 => v = .d (.bool false) ∧ H1 = NF ⟨link, buf, out, mem, [l0, l1, l2, l3], r⟩) := by
  (refine y_entere func46 ntmps46 results46 fun w M E b0 => ?_)
  (repeat' first | refine yyp ?_; try refine s_bu ?_ ?_ <;> intro hb | refine yyq ?_; try refine s_bu ?_ ?_ <;> intro hb | refine yy ?_ | refine yyr ?_; try refine s_bu ?_ ?_ <;> intro hb | refine at_nil ?_; refine z_nil [0, 2, 3, 4, 5, 6] ?_ | refine tc_seq fun K hK => ?_ | apply_assumption -exfalso -symm)
  (refine tc_ret (y_rete ⟨?_, rfl⟩))
  rfl
theorem state_fn (gl : List (Nat × List D)) (link : Int) (mem : List UInt8) (l0 l1 l2 l3 : Lk) (r : Option (Int × Int)) (h0 : 0 < mem.length) (h3 : mem.length ≤ 65536) :
    FnE prog gl 15 [.ptr 900 0] (NF ⟨link, [], [], mem, [l0, l1, l2, l3], r⟩) (fun v H1 => v = .d (.agg (stateD ⟨link, [], [], mem, [l0, l1, l2, l3], r⟩)) ∧ H1 = NF ⟨link, [], [], mem, [l0, l1, l2, l3], r⟩) := by
  have c0 := nnoneF_fn gl link [] [] mem l0 l1 l2 l3 r h0
  have cM := mbytes_ref gl mem h0 h3
  have c1 := clone_fn gl [] (by simp)
  (refine y_entere func15 ntmps15 results15 fun w M E b0 => ?_)
  ((repeat' first | refine tr_at 2 ?_; (refine z_alloc 1002 ?_) | refine tr_at 5 ?_; refine y_callE (hc := c0) ?_; try refine s_bu ?_ ?_ <;> intro hb | refine tc_at 3 ?_; refine halt ?_ | refine yyp ?_; try refine s_bu ?_ ?_ <;> intro hb | refine yy ?_ | refine at_nil ?_; refine z_nil [0, 2, 3, 4, 5, 6, 60] ?_ | refine tc_seq fun K hK => ?_ | refine tc_at 4 ?_; refine z_draw [14, 17] qn25_0 ?_ | apply_assumption -exfalso -symm); all_goals try refine unhalt ?_)
  refine tc_wk (wk_hbox_out (n := 900) (q := 902) rfl rfl) ?_
  simp only [nodeF, coreD, four_links, lkD, seD, dBs_nil, List.map_append, List.map_cons, List.map_nil, List.cons_append, List.nil_append, List.append_assoc, List.set_cons_succ, List.set_cons_zero]
  refine tc_share 902 rfl ?_
  (repeat' first | refine tr_at 3 ?_; (refine z_alloc 1003 ?_) | refine tr_at 25 ?_; refine z_p w_buildn ?_ | refine yyp ?_; try refine s_bu ?_ ?_ <;> intro hb | refine yy ?_ | refine at_call 47 ?_; refine y_call (hc := cM) ?_ | refine at_call 48 ?_; refine y_call (hc := c1) ?_ | refine at_nil ?_; refine z_nil [0, 2, 3, 4, 5, 6, 60] ?_ | refine tr_two ?_ ?_ | (apply tc_mid (x := .region 3 _ _); focus ((refine tc_at 3 ?_; refine z_draw [20] (linT [0, 4, 8, 16, 20, 24, 40, 44, 48, 56, 60, 64, 13, 29, 53, 69] (.two 8 (lin [36, 72, 78, 83]) 19 (lin [34, 36, 72, 83]))) ?_); (repeat' (first | refine tr_at 2 ?_; (refine z_alloc 1002 ?_))); (all_goals first | exact Wk.refl _ _ | exact y_wk); done)) | refine tc_seq fun K hK => ?_ | refine tc_at 3 ?_; refine z_draw [20] (linT [0, 4, 8, 16, 20, 24, 40, 44, 48, 56, 60, 64, 13, 29, 53, 69] (.two 8 (lin [36, 72, 78, 83]) 19 (lin [34, 36, 72, 83]))) ?_ | refine tc_at 4 ?_; refine z_draw [14, 17] qn25_0 ?_ | apply_assumption -exfalso -symm)
  all_goals
    refine tc_wk (wk_unshare 902 rfl) ?_
    refine tc_wk (wk_hbox_in (n := 900) (q := 902) (i := 115) rfl rfl rfl rfl (by (repeat (first | exact Drop.nil | apply Drop.drop rfl | apply Drop.take rfl)); fail_if_success intros) rfl) ?_
    (refine tc_ret (y_rete ⟨?_, rfl⟩))
    rfl
end
section
def qn26_0 : List Nat := [0, 2, 4, 5, 6, 11, 34, 38, 39, 40, 81]
open Go.RowKit Nd
attribute [local irreducible] TR TC
theorem nidle_fn (gl : List (Nat × List D)) (mem : List UInt8) : FnE prog gl 20 [.ptr 900 0] (NH ⟨-1, [], [], mem, [lk0, lk0, lk0, lk0], none⟩) (fun v H1 => v = .d (.bool true) ∧ H1 = NH ⟨-1, [], [], mem, [lk0, lk0, lk0, lk0], none⟩) := by
  have c0 := nnone_fn gl 0 (by omega) (-1) [] [] mem lk0 none
  rw [show at4 0 lk0 = [lk0, lk0, lk0, lk0] from rfl] at c0
  (refine y_entere func20 ntmps20 results20 fun w M E b0 => ?_)
  ((repeat' first | refine tr_at 6 ?_; refine y_callE (hc := c0) ?_; try refine s_bu ?_ ?_ <;> intro hb | refine tc_at 3 ?_; refine halt ?_ | refine yyp ?_; try refine s_bu ?_ ?_ <;> intro hb | refine yy ?_ | refine at_nil ?_; refine z_nil qn26_0 ?_ | refine tc_seq fun K hK => ?_ | apply_assumption -exfalso -symm); all_goals try refine unhalt ?_)
  refine tc_wk (wk_hbox_out (n := 900) (q := 902) rfl rfl) ?_
  simp only [nodeC, coreD, four_links, lkD, seD, lk0, se0, num, bD_none, Option.isSome_none, Option.isNone_none, List.length_nil, dBs_nil, List.map_append, List.map_cons, List.map_nil, List.cons_append, List.nil_append, List.append_assoc, List.set_cons_succ, List.set_cons_zero]
  (repeat' first | refine tr_at 23 ?_; (refine z_p (q_pair rfl rfl rfl rfl) ?_) | refine tr_at 24 ?_; (refine z_p (q_pair_same rfl rfl rfl rfl (by kernel_rfl)) ?_) | refine yyp ?_; try refine s_bu ?_ ?_ <;> intro hb | refine yy ?_ | refine yyc ?_ | refine at_nil ?_; refine z_nil qn26_0 ?_ | refine tc_seq fun K hK => ?_ | apply_assumption -exfalso -symm)
  refine tc_rounds 5 (rounds_next fun K5 h5 => ?_)
  (repeat' first | refine tr_at 41 ?_; (refine z_p (q_iarr rfl rfl rfl rfl (by first | with_reducible exact nat_lit_eq | exact rfl) (ltd rfl) (by (repeat (first | exact Cut.done _ | apply Cut.take | apply Cut.skip)); fail_if_success intros)) ?_) | refine tr_at 4 ?_; (refine z_alloc 1004 ?_) | refine yyp ?_; try refine s_bu ?_ ?_ <;> intro hb | refine yy ?_ | refine yy2 ?_ ?_ <;> intro hcmp | refine at_nil ?_; refine z_nil qn26_0 ?_ | refine tc_seq fun K hK => ?_ | apply_assumption -exfalso -symm)
  all_goals try (exfalso; apply hcmp; simp; done)
  (repeat' first | refine tr_at 41 ?_; (refine z_p (q_iarr rfl rfl rfl rfl (by first | with_reducible exact nat_lit_eq | exact rfl) (ltd rfl) (by (repeat (first | exact Cut.done _ | apply Cut.take | apply Cut.skip)); fail_if_success intros)) ?_) | refine tr_at 4 ?_; (refine z_alloc 2004 ?_) | refine yyp ?_; try refine s_bu ?_ ?_ <;> intro hb | refine yy ?_ | refine yy2 ?_ ?_ <;> intro hcmp | refine at_nil ?_; refine z_nil qn26_0 ?_ | refine tc_seq fun K hK => ?_ | apply_assumption -exfalso -symm)
  all_goals try (exfalso; apply hcmp; simp; done)
  (repeat' first | refine tr_at 41 ?_; (refine z_p (q_iarr rfl rfl rfl rfl (by first | with_reducible exact nat_lit_eq | exact rfl) (ltd rfl) (by (repeat (first | exact Cut.done _ | apply Cut.take | apply Cut.skip)); fail_if_success intros)) ?_) | refine tr_at 4 ?_; (refine z_alloc 3004 ?_) | refine yyp ?_; try refine s_bu ?_ ?_ <;> intro hb | refine yy ?_ | refine yy2 ?_ ?_ <;> intro hcmp | refine at_nil ?_; refine z_nil qn26_0 ?_ | refine tc_seq fun K hK => ?_ | apply_assumption -exfalso -symm)
  all_goals try (exfalso; apply hcmp; simp; done)
  (repeat' first | refine tr_at 4 ?_; (refine z_alloc 4004 ?_) | refine yyp ?_; try refine s_bu ?_ ?_ <;> intro hb | refine yy ?_ | refine yy2 ?_ ?_ <;> intro hcmp | refine at_nil ?_; refine z_nil qn26_0 ?_ | refine tc_seq fun K hK => ?_ | apply_assumption -exfalso -symm)
  all_goals try (exfalso; apply hcmp; simp; done)
  refine tc_wk (wk_hbox_in (n := 900) (q := 902) (i := 115) rfl rfl rfl rfl (by (repeat (first | exact Drop.nil | apply Drop.drop rfl | apply Drop.take rfl)); fail_if_success intros) rfl) ?_
  (refine tc_ret (y_rete ⟨?_, rfl⟩))
  rfl
end
end Go.Proofs.YtjhbglklcddekaaGreatDoor
