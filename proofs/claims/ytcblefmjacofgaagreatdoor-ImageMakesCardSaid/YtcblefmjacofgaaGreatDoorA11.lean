/- Parts: F10, F11. -/
import Derived.Test.YtcblefmjacofgaaGreatDoorA10
import Derived.Test.YtcblefmjacofgaaGreatDoorA9
import Derived.Test.YtcblefmjacofgaaGreatDoorA4
set_option linter.all false
set_option linter.unusedVariables false
set_option linter.unusedSimpArgs false
namespace Go.Proofs.YtcblefmjacofgaaGreatDoor
open Go.RowKit
attribute [local irreducible] TR TC
set_option maxRecDepth 100000 in
set_option maxHeartbeats 2000000 in
theorem startlast_fn (gl : List (Nat × List D)) (size : Int) (l : List Im.Obj) (n : Int) (h0 : 0 ≤ n) (h1 : n < l.length) (hok : Im.okObj (Im.obj l n)) : FnE Tryz.prog gl 41 [.d (.int .i64 n), .ptr 1004 0, .ptr 1005 0] [(1004, .box [.d (.int .i64 size)]), (1005, .box [.d (.list 4 (l.map dObj))])] (fun v H1 => v = .d (dCmd ((Im.runC size l) n)) ∧ H1 = [(1004, .box [.d (.int .i64 size)]), (1005, .box [.d (.list 4 (l.map dObj))])]) := by
  have hob := Im.obj_at h0 h1
  have hnl : n.toNat < l.length := by omega
  unfold Im.runC
  generalize Im.obj l n = ob at hob hok ⊢
  unfold Im.okObj at hok
  (refine y_entere Tryz.func41 Tryz.ntmps41 Tryz.results41 fun w M E b0 => ?_; simp only [slots, List.map_cons, List.map_nil, List.zipIdx_cons, List.zipIdx_nil, Nat.reduceAdd])
  ((repeat' (first | (refine tr_at 4 ?_; (refine z_alloc 4 ?_)) | (refine tr_at 24 ?_; refine z_p w_buildn ?_) | (refine yyp ?_; (try refine s_bu ?_ ?_ <;> (intro hb; try simp only [decide_eq_true_eq, decide_eq_false_iff_not] at hb))) | (refine yy ?_) | (refine yy2 ?_ ?_ <;> (intro hcmp; try simp only [cmp] at hcmp)) | (refine at_call 13 ?_; refine y_call (hc := (Workspace_fn gl size ob)) ?_) | (refine at_nil ?_; refine z_nil [0, 1, 2, 4, 5, 6, 48] ?_) | (refine tc_seq fun K hK => ?_) | (refine tc_at 1 ?_; refine z_draw [] (lin [8, 1, 5, 12, 17, 22, 24, 28, 32, 36, 40]) ?_) | (apply_assumption -exfalso -symm))); all_goals (try refine unhalt ?_))
  all_goals
    (refine tc_ret (y_rete ⟨?_, rfl⟩))
    simp only [oneOf, dCmd, dBytes, dObj]
    first | exact ⟨rfl, rfl⟩ | rfl
def startH (t : To.Topo) (size : Int) (l : List Im.Obj) : List (Nat × Ob) := [(2003, boxT t), (2004, .box [.nils 1]), (2005, .box [.clo (.func 41) [] [.ptr 1004 0, .ptr 1005 0]]), (2007, .box [.clo (.func 60) [] [.ptr 2003 0, .ptr 2007 0, .ptr 2005 0, .ptr 2004 0]]), (1004, .box [.d (.int .i64 size)]), (1005, .box [.d (.list 4 (l.map dObj))])]
set_option maxRecDepth 100000 in
set_option maxHeartbeats 8000000 in
theorem start_of (gl : List (Nat × List D)) (t : To.Topo) (size : Int) (l : List Im.Obj) (hmay : To.May t) (hll : (l.length : Int) = t.nodes) (hall : ∀ o ∈ l, Im.okObj o) : ∀ (f i : Nat) (hi : i < (To.order t).length), (To.order t).length ≤ i + f →
    FnE Tryz.prog gl 60 [.d (.int .i64 (To.order t)[i].node), .ptr 2003 0, .ptr 2007 0, .ptr 2005 0, .ptr 2004 0] (startH t size l) (fun v H1 => v = .d (dBytes (Im.tr t [] (Im.runC size l) f (To.order t)[i].node)) ∧ H1 = startH t size l) := by
  intro f
  induction f with
  | zero => intro i hi h; omega
  | succ f ih =>
    intro i hi hf
    have hr := (To.order_good hmay.sound).range _ (List.getElem_mem hi)
    unfold To.inR at hr
    obtain ⟨hn0, hn1⟩ := hr
    have hch := fun k hk => Im.child_at (k := k) hmay hi hk
    generalize (To.order t)[i].node = n at hn0 hn1 hch ⊢
    have hC : FnD Tryz.prog gl 46 [.d (dTopo t), .d (.int .i64 n)] (fun v => v = .tup [.d (.list 1 ((To.kids t n).map dInt)), .d (.int .i64 0)]) := by
      have := tchildren_fn gl t n
      unfold To.children at this
      rw [if_pos hmay, if_neg (by omega)] at this
      exact this
    have hP : ∀ k ∈ To.kids t n, ∃ lk, FnD Tryz.prog gl 48 [.d (dTopo t), .d (.agg [.int .i64 n, .int .i64 (k : Nat)])] (fun v => v = .tup [.d (.agg [.int .i64 (Im.child t n k), .int .i64 lk]), .d (.bool true)]) := fun k hk => by
      have := tpeer_fn gl t ⟨n, (k : Nat)⟩
      have hk' := (List.mem_filter.1 hk).2
      unfold To.kid at hk'
      simp only [Bool.and_eq_true] at hk'
      rw [if_pos hmay, hk'.1, decide_eq_true hmay] at this
      exact ⟨_, this⟩
    have hlast := startlast_fn gl size l n hn0 (by omega) (hall _ (Im.obj_mem (by omega) (by omega)))
    have hwl : ((Im.runC size l) n).Wf := Im.runC_wf size n (hall _ (Im.obj_mem (by omega) (by omega)))
    have hk4 := fun k (hk : k ∈ To.kids t n) => Im.kids_lt hk
    have hkl := Im.kids_len t n
    have htl := fun k => Im.tr_len t [] (Im.runC size l) (by decide) f (Im.child t n k)
    have htr : Im.tr t [] (Im.runC size l) (f + 1) n = [] ++ (I.putC (((To.kids t n).flatMap fun k => Im.fwd k (Im.tr t [] (Im.runC size l) f (Im.child t n k))) ++ [(Im.runC size l) n])).1 := rfl
    rw [htr]
    generalize To.kids t n = ks at hC hP hch hk4 hkl ⊢
    have hput : ∀ cl, cl = (ks.flatMap fun k => Im.fwd k (Im.tr t [] (Im.runC size l) f (Im.child t n k))) → FnD Tryz.prog gl 62 [.d (.list 4 (cl.map dCmd ++ [dCmd ((Im.runC size l) n)]))] (fun v => v = .tup [.d (dBytes (I.putC (cl ++ [(Im.runC size l) n])).1), .d (.int .i64 (I.putC (cl ++ [(Im.runC size l) n])).2)]) := fun cl hcl => by
      have := lput_fn gl (cl ++ [(Im.runC size l) n]) (fun c hc => by
        rcases List.mem_append.1 hc with hc | hc
        · rw [hcl] at hc
          obtain ⟨k, hk, hc⟩ := List.mem_flatMap.1 hc
          exact Im.fwd_wf (hk4 k hk) _ c hc
        · rw [List.mem_singleton] at hc
          subst hc
          exact hwl)
      rwa [List.map_append] at this
    unfold dTopo at hC hP
    have ih' : ∀ k ∈ ks, FnE Tryz.prog gl 60 [.d (.int .i64 (Im.child t n k)), .ptr 2003 0, .ptr 2007 0, .ptr 2005 0, .ptr 2004 0] (startH t size l) (fun v H1 => v = .d (dBytes (Im.tr t [] (Im.runC size l) f (Im.child t n k))) ∧ H1 = startH t size l) := fun k hk => by
      obtain ⟨j, hij, hj, e⟩ := hch k hk
      have := ih j hj (by omega)
      rw [e] at this
      exact this
    clear ih
    unfold startH boxT at ih' ⊢
    (refine y_entere Tryz.func60 Tryz.ntmps60 Tryz.results60 fun w M E b0 => ?_; simp only [slots, List.map_cons, List.map_nil, List.zipIdx_cons, List.zipIdx_nil, Nat.reduceAdd])
    ((repeat' (first | (refine tr_at 7 ?_; (refine z_alloc 7 ?_)) | (refine tr_at 11 ?_; (refine z_alloc 11 ?_)) | (refine tr_at 12 ?_; (refine z_alloc 12 ?_)) | (refine tr_at 50 ?_; (refine z_lit 50 ?_)) | (refine tr_at 51 ?_; refine z_append0 51 ?_) | (refine tr_at 58 ?_; (refine z_lit 58 ?_)) | (refine tr_at 59 ?_; refine z_append0 59 ?_) | (refine tr_at 65 ?_; (refine z_lit 65 ?_)) | (refine yyp ?_; (try refine s_bu ?_ ?_ <;> (intro hb; try simp only [decide_eq_true_eq, decide_eq_false_iff_not] at hb))) | (refine yy ?_) | (refine yy2 ?_ ?_ <;> (intro hcmp; try simp only [cmp] at hcmp)) | (refine at_call 46 ?_; refine y_call (hc := (hC)) ?_) | (refine at_append ?_; first | (refine z_append (fun kv => ?_)) | (refine z_append_suf (fun sx sp kv hsx hsp hsl => ?_))) | (refine at_nil ?_; refine z_nil [0, 1, 2, 3, 4, 6, 7, 8, 11, 12, 14, 15, 23, 24, 25, 26, 41, 42] ?_) | (refine tc_seq fun K hK => ?_) | (refine tc_at 11 ?_; refine z_draw [5] (lin [8, 1, 5, 14, 18, 23, 26, 28, 32, 36, 40, 44]) ?_) | (apply_assumption -exfalso -symm))); all_goals (try refine unhalt ?_))
    refine tc_nilbox 7 77 0 (e := 48) (sz := 4) rfl rfl rfl ?_
    refine y_famx (ι := Nat × List I.Cmd × Nat) [11, 12, 13, 14, 25, 26, 27, 28, 29, 30, 31, 32, 33, 34, 35, 36, 37, 38, 39, 40, 41, 43, 44, 45, 46, 47, 48, 49, 50, 51, 52] [7, 77] (fun x => [(25, .d (.int .i64 x.1))]) (fun x => [(7, .box [.own 77 x.2.2]), (77, .row 48 4 true (x.2.1.map dCmd) x.2.2)])
      (fun x => x.1 ≤ ks.length ∧ x.2.1 = (ks.take x.1).flatMap (fun k => Im.fwd k (Im.tr t [] (Im.runC size l) f (Im.child t n k))) ∧ x.2.1.length ≤ x.1 * 2000000) (fun x => ks.length - x.1) (0, [], 0) ⟨by simp, rfl, by simp⟩  fun ⟨j, cl, ver⟩ ⟨hj, hcl, hcll⟩ => ?_
    dsimp only [List.cons_append, List.nil_append] at hj hcl hcll ⊢
    rcases Nat.lt_or_ge j ks.length with hjl | hjl
    · have hkm := List.getElem_mem hjl
      have hk := hk4 _ hkm
      obtain ⟨lk, hPk⟩ := hP _ hkm
      have hofk := ih' _ hkm
      have htlk := htl ks[j]
      ((repeat' (first | (refine tr_at 7 ?_; (refine z_alloc 7 ?_)) | (refine tr_at 11 ?_; (refine z_alloc 11 ?_)) | (refine tr_at 12 ?_; (refine z_alloc 12 ?_)) | (refine tr_at 40 ?_; refine y_callE (hc := hofk) ?_) | (refine tr_at 41 ?_; (refine tr_keep [0, 1, 2, 3, 4, 6, 7, 8, 11, 12, 14, 15, 23, 24, 25, 26, 40, 41, 42] ?_); refine y_inline Tryz.func61 Tryz.ntmps61 Tryz.results61 fun tm sy => ?_; simp only [slots, shift, zipPs, List.nil_append, List.cons_append, List.append_nil, List.map_cons, List.map_nil, List.zipIdx_cons, List.zipIdx_nil, Nat.reduceAdd]; refine halt ?_) | (refine tr_at 50 ?_; (refine z_lit 50 ?_)) | (refine tr_at 51 ?_; refine z_append0 51 ?_) | (refine tr_at 58 ?_; (refine z_lit 58 ?_)) | (refine tr_at 59 ?_; refine z_append0 59 ?_) | (refine tr_at 65 ?_; (refine z_lit 65 ?_)) | (refine yyp ?_; (try refine s_bu ?_ ?_ <;> (intro hb; try simp only [decide_eq_true_eq, decide_eq_false_iff_not] at hb))) | (refine yy ?_) | (refine yy2 ?_ ?_ <;> (intro hcmp; try simp only [cmp] at hcmp)) | (refine at_call 48 ?_; refine y_call (hc := (hPk)) ?_) | (refine at_append ?_; first | (refine z_append (fun kv => ?_)) | (refine z_append_suf (fun sx sp kv hsx hsp hsl => ?_))) | (refine at_nil ?_; refine z_nil [0, 1, 2, 3, 4, 6, 7, 8, 11, 12, 14, 15, 23, 24, 25, 26, 41, 42] ?_) | (refine tc_seq fun K hK => ?_) | (refine tc_at 11 ?_; refine z_draw [5] (lin [8, 1, 5, 14, 18, 23, 26, 28, 32, 36, 40, 44]) ?_) | (apply_assumption -exfalso -symm))); all_goals (try refine unhalt ?_))
      ((repeat' (first | (refine tr_at 1 ?_; (refine z_box 3001 ?_)) | (refine yyp ?_; (try refine s_bu ?_ ?_ <;> (intro hb; try simp only [decide_eq_true_eq, decide_eq_false_iff_not] at hb))) | (refine yy ?_) | (refine yy2 ?_ ?_ <;> (intro hcmp; try simp only [cmp] at hcmp)) | (refine at_nil ?_; refine z_nil [0, 1, 2, 3] ?_) | (refine tc_seq fun K hK => ?_) | (apply_assumption -exfalso -symm))); all_goals (try refine unhalt ?_))
      (refine tc_ret (y_reti ?_))
      simp only [oneOf]
      ((repeat' (first | (refine tr_at 7 ?_; (refine z_alloc 7 ?_)) | (refine tr_at 11 ?_; (refine z_alloc 11 ?_)) | (refine tr_at 12 ?_; (refine z_alloc 12 ?_)) | (refine tr_at 50 ?_; (refine z_lit 50 ?_)) | (refine tr_at 51 ?_; refine z_append0 51 ?_) | (refine tr_at 58 ?_; (refine z_lit 58 ?_)) | (refine tr_at 59 ?_; refine z_append0 59 ?_) | (refine tr_at 65 ?_; (refine z_lit 65 ?_)) | (refine yyp ?_; (try refine s_bu ?_ ?_ <;> (intro hb; try simp only [decide_eq_true_eq, decide_eq_false_iff_not] at hb))) | (refine yy ?_) | (refine yy2 ?_ ?_ <;> (intro hcmp; try simp only [cmp] at hcmp)) | (refine at_append ?_; first | (refine z_append (fun kv => ?_)) | (refine z_append_suf (fun sx sp kv hsx hsp hsl => ?_))) | (refine at_nil ?_; refine z_nil [0, 1, 2, 3, 4, 6, 7, 8, 11, 12, 14, 15, 23, 24, 25, 26, 41, 42] ?_))); all_goals (try refine unhalt ?_))
      ((repeat' (first | (refine tr_at 7 ?_; (refine z_alloc 7 ?_)) | (refine tr_at 11 ?_; (refine z_alloc 11 ?_)) | (refine tr_at 12 ?_; (refine z_alloc 12 ?_)) | (refine tr_at 50 ?_; (refine z_lit 50 ?_)) | (refine tr_at 51 ?_; refine z_append0 51 ?_) | (refine tr_at 58 ?_; (refine z_lit 58 ?_)) | (refine tr_at 59 ?_; refine z_append0 59 ?_) | (refine tr_at 65 ?_; (refine z_lit 65 ?_)) | (refine yyp ?_; (try refine s_bu ?_ ?_ <;> (intro hb; try simp only [decide_eq_true_eq, decide_eq_false_iff_not] at hb))) | (refine yy ?_) | (refine yy2 ?_ ?_ <;> (intro hcmp; try simp only [cmp] at hcmp)) | (refine at_append ?_; first | (refine z_append (fun kv => ?_)) | (refine z_append_suf (fun sx sp kv hsx hsp hsl => ?_))) | (refine at_nil ?_; refine z_nil [0, 1, 2, 3, 4, 6, 7, 8, 11, 12, 14, 15, 23, 24, 25, 26, 41, 42] ?_) | (refine tc_seq fun K hK => ?_) | (refine tc_at 11 ?_; refine z_draw [5] (lin [8, 1, 5, 14, 18, 23, 26, 28, 32, 36, 40, 44]) ?_) | (apply_assumption -exfalso -symm))); all_goals (try refine unhalt ?_))
      generalize hB : Im.tr t [] (Im.runC size l) f (Im.child t n ks[j]) = B at htlk
      (refine tc_range rfl rfl rfl Tryz.func82 rfl Tryz.ntmps82 Tryz.results82 rfl rfl (by (repeat (first | exact Nub.nil _ | apply Nub.skip rfl | apply Nub.keep rfl)); fail_if_success intros) fun tm fn0 sy D0 htm hnt hlow => ?_; simp only [slots, shift, zipPs, List.nil_append, List.cons_append, List.append_nil, List.map_cons, List.map_nil, List.zipIdx_cons, List.zipIdx_nil, Nat.reduceAdd])
      ((repeat' (first | (refine yyp ?_; (try refine s_bu ?_ ?_ <;> (intro hb; try simp only [decide_eq_true_eq, decide_eq_false_iff_not] at hb))) | (refine yy ?_) | (refine yy2 ?_ ?_ <;> (intro hcmp; try simp only [cmp] at hcmp)) | (refine at_nil ?_; refine z_nil [0, 1, 3, 4, 5, 6, 15] ?_) | (refine tc_seq fun K hK => ?_) | (apply_assumption -exfalso -symm))); all_goals (try refine unhalt ?_))
      refine y_famx (ι := List UInt8 × List I.Cmd × Nat) [3, 4, 5, 6, 7, 8, 9, 10, 11, 12, 13, 14, 15, 16, 17, 18] [3001, 7, 77] (fun _ => []) (fun x => [(3001, .box [.d (.list 1 (x.1.map dByte))]), (7, .box [.own 77 x.2.2]), (77, .row 48 4 true (x.2.1.map dCmd) x.2.2)])
        (fun x => x.2.1 ++ Im.fwd ks[j] x.1 = cl ++ Im.fwd ks[j] B ∧ x.1.length ≤ 1049576 ∧ x.2.1.length + x.1.length ≤ j * 2000000 + 1049576) (fun x => x.1.length) (B, cl, ver) ⟨rfl, htlk, by dsimp only; omega⟩  fun ⟨r, cl2, ver2⟩ ⟨hrc, hr1, hr2⟩ => ?_
      dsimp only [List.cons_append, List.nil_append] at hrc hr1 hr2 ⊢
      rcases Nat.eq_zero_or_pos r.length with hr0 | hr0
      · ((repeat' (first | (refine yyp ?_; (try refine s_bu ?_ ?_ <;> (intro hb; try simp only [decide_eq_true_eq, decide_eq_false_iff_not] at hb))) | (refine yy ?_) | (refine yy2 ?_ ?_ <;> (intro hcmp; try simp only [cmp] at hcmp)) | (refine at_nil ?_; refine z_nil [0, 1, 3, 4, 5, 6, 15] ?_) | (refine tc_seq fun K hK => ?_) | (apply_assumption -exfalso -symm))); all_goals (try refine unhalt ?_))
        (refine y_endi ?_)
        ((repeat' (first | (refine tr_at 7 ?_; (refine z_alloc 7 ?_)) | (refine tr_at 11 ?_; (refine z_alloc 11 ?_)) | (refine tr_at 12 ?_; (refine z_alloc 12 ?_)) | (refine tr_at 50 ?_; (refine z_lit 50 ?_)) | (refine tr_at 51 ?_; refine z_append0 51 ?_) | (refine tr_at 58 ?_; (refine z_lit 58 ?_)) | (refine tr_at 59 ?_; refine z_append0 59 ?_) | (refine tr_at 65 ?_; (refine z_lit 65 ?_)) | (refine yyp ?_; (try refine s_bu ?_ ?_ <;> (intro hb; try simp only [decide_eq_true_eq, decide_eq_false_iff_not] at hb))) | (refine yy ?_) | (refine yy2 ?_ ?_ <;> (intro hcmp; try simp only [cmp] at hcmp)) | (refine at_append ?_; first | (refine z_append (fun kv => ?_)) | (refine z_append_suf (fun sx sp kv hsx hsp hsl => ?_))) | (refine at_nil ?_; refine z_nil [0, 1, 2, 3, 4, 6, 7, 8, 11, 12, 14, 15, 23, 24, 25, 26, 41, 42] ?_) | (refine tc_seq fun K hK => ?_) | (refine tc_at 11 ?_; refine z_draw [5] (lin [8, 1, 5, 14, 18, 23, 26, 28, 32, 36, 40, 44]) ?_) | (apply_assumption -exfalso -symm))); all_goals (try refine unhalt ?_))
        have hr : r = [] := List.eq_nil_of_length_eq_zero hr0
        subst hr
        have hcl2 : cl2 = cl ++ Im.fwd ks[j] B := by rw [← hrc, show Im.fwd ks[j] [] = [] from rfl, List.append_nil]
        refine ⟨(j + 1, cl2, ver2), ⟨by dsimp only; omega, ?_, ?_⟩, by dsimp only; omega, y_wk⟩
        · dsimp only
          rw [hcl2, hcl, ← get_take _ hjl, List.flatMap_append, List.flatMap_cons, List.flatMap_nil, List.append_nil, hB]
        · dsimp only
          omega
      · ((repeat' (first | (refine tr_at 14 ?_; (refine tr_keep [0, 1, 3, 4, 5, 6, 10, 13, 14, 15] ?_); (refine s_yield (envc := [(7, .ptr 7 0), (11, .ptr 11 0)]) htm hnt hlow rfl rfl (by (repeat (first | exact Evs.nil | apply Evs.cons rfl rfl)); fail_if_success intros) rfl rfl (by decide) (by (repeat (first | exact Nub.nil _ | apply Nub.skip rfl | apply Nub.keep rfl)); fail_if_success intros) (by simp only [shift, List.map_cons, List.map_nil, Nat.reduceAdd]; (repeat (first | exact Sub.nil | apply Sub.cons rfl)); fail_if_success intros) rfl (ltd rfl) rfl fun tm1 sy1 => ?_; simp only [slots, shift, zipPs, List.nil_append, List.cons_append, List.append_nil, List.map_cons, List.map_nil, List.zipIdx_cons, List.zipIdx_nil, Nat.reduceAdd]; refine halt ?_)) | (refine yyp ?_; (try refine s_bu ?_ ?_ <;> (intro hb; try simp only [decide_eq_true_eq, decide_eq_false_iff_not] at hb))) | (refine yy ?_) | (refine yy2 ?_ ?_ <;> (intro hcmp; try simp only [cmp] at hcmp)) | (refine at_nil ?_; refine z_nil [0, 1, 3, 4, 5, 6, 15] ?_) | (refine tc_seq fun K hK => ?_) | (apply_assumption -exfalso -symm))); all_goals (try refine unhalt ?_))
        ((repeat' (first | (refine tr_at 7 ?_; (refine z_alloc 7 ?_)) | (refine tr_at 11 ?_; (refine z_alloc 11 ?_)) | (refine tr_at 12 ?_; (refine z_alloc 12 ?_)) | (refine tr_at 50 ?_; (refine z_lit 50 ?_)) | (refine tr_at 51 ?_; refine z_append0 51 ?_) | (refine tr_at 58 ?_; (refine z_lit 58 ?_)) | (refine tr_at 59 ?_; refine z_append0 59 ?_) | (refine tr_at 65 ?_; (refine z_lit 65 ?_)) | (refine yyp ?_; (try refine s_bu ?_ ?_ <;> (intro hb; try simp only [decide_eq_true_eq, decide_eq_false_iff_not] at hb))) | (refine yy ?_) | (refine yy2 ?_ ?_ <;> (intro hcmp; try simp only [cmp] at hcmp)) | (refine at_append ?_; first | (refine z_append (fun kv => ?_)) | (refine z_append_suf (fun sx sp kv hsx hsp hsl => ?_))) | (refine at_nil ?_; refine z_nil [0, 1, 2, 3, 4, 6, 7, 8, 11, 12, 14, 15, 23, 24, 25, 26, 41, 42] ?_) | (refine tc_seq fun K hK => ?_) | (refine tc_at 11 ?_; refine z_draw [5] (lin [8, 1, 5, 14, 18, 23, 26, 28, 32, 36, 40, 44]) ?_) | (apply_assumption -exfalso -symm))); all_goals (try refine unhalt ?_))
        (refine EndsA.mk rfl ?_)
        refine tc_block ?_
        ((refine tc_region (id := 9) ?_); (repeat' (first | (refine tr_at 7 ?_; (refine z_alloc 7 ?_)) | (refine tr_at 11 ?_; (refine z_alloc 11 ?_)) | (refine tr_at 12 ?_; (refine z_alloc 12 ?_)) | (refine tr_at 50 ?_; (refine z_lit 50 ?_)) | (refine tr_at 51 ?_; refine z_append0 51 ?_) | (refine tr_at 58 ?_; (refine z_lit 58 ?_)) | (refine tr_at 59 ?_; refine z_append0 59 ?_) | (refine tr_at 65 ?_; (refine z_lit 65 ?_)) | (refine yyp ?_; (try refine s_bu ?_ ?_ <;> (intro hb; try simp only [decide_eq_true_eq, decide_eq_false_iff_not] at hb))) | (refine yy ?_) | (refine yy2 ?_ ?_ <;> (intro hcmp; try simp only [cmp] at hcmp)) | (refine at_append ?_; first | (refine z_append (fun kv => ?_)) | (refine z_append_suf (fun sx sp kv hsx hsp hsl => ?_))) | (refine at_nil ?_; refine z_nil [0, 1, 2, 3, 4, 6, 7, 8, 11, 12, 14, 15, 23, 24, 25, 26, 41, 42] ?_))); all_goals (try refine unhalt ?_))
        (refine y_endy ?_)
        ((repeat' (first | (refine yyp ?_; (try refine s_bu ?_ ?_ <;> (intro hb; try simp only [decide_eq_true_eq, decide_eq_false_iff_not] at hb))) | (refine yy ?_) | (refine yy2 ?_ ?_ <;> (intro hcmp; try simp only [cmp] at hcmp)) | (refine at_nil ?_; refine z_nil [0, 1, 3, 4, 5, 6, 15] ?_))); all_goals (try refine unhalt ?_))
        ((repeat' (first | (refine yyp ?_; (try refine s_bu ?_ ?_ <;> (intro hb; try simp only [decide_eq_true_eq, decide_eq_false_iff_not] at hb))) | (refine yy ?_) | (refine yy2 ?_ ?_ <;> (intro hcmp; try simp only [cmp] at hcmp)) | (refine at_nil ?_; refine z_nil [0, 1, 3, 4, 5, 6, 15] ?_) | (refine tc_seq fun K hK => ?_) | (apply_assumption -exfalso -symm))); all_goals (try refine unhalt ?_))
        refine ⟨(r.drop 64, cl2 ++ [⟨2, -2147483648 + 4 * (ks[j] : Int), 0, r.take 64⟩], kv), ⟨?_, ?_, ?_⟩, ?_, ?_⟩
        · dsimp only
          rw [List.append_assoc, List.singleton_append, ← Im.fwd_step hr0]
          exact hrc
        · rw [List.length_drop]; omega
        · simp only [List.length_drop, List.length_append, List.length_cons, List.length_nil]; omega
        · rw [List.length_drop]; omega
        · dsimp only [List.cons_append, List.nil_append]
          simp only [List.map_append, List.map_cons, List.map_nil, dCmd, dBytes, ← take_min, ← drop_min]
          exact y_wk
    · have hjk : j = ks.length := by omega
      subst hjk
      rw [List.take_length] at hcl
      have hputc := hput cl hcl
      ((repeat' (first | (refine tr_at 7 ?_; (refine z_alloc 7 ?_)) | (refine tr_at 11 ?_; (refine z_alloc 11 ?_)) | (refine tr_at 12 ?_; (refine z_alloc 12 ?_)) | (refine tr_at 50 ?_; (refine z_lit 50 ?_)) | (refine tr_at 51 ?_; refine z_append0 51 ?_) | (refine tr_at 57 ?_; refine y_callE (hc := hlast) ?_) | (refine tr_at 58 ?_; (refine z_lit 58 ?_)) | (refine tr_at 59 ?_; refine z_append0 59 ?_) | (refine tr_at 65 ?_; (refine z_lit 65 ?_)) | (refine yyp ?_; (try refine s_bu ?_ ?_ <;> (intro hb; try simp only [decide_eq_true_eq, decide_eq_false_iff_not] at hb))) | (refine yy ?_) | (refine yy2 ?_ ?_ <;> (intro hcmp; try simp only [cmp] at hcmp)) | (refine at_append ?_; first | (refine z_append (fun kv => ?_)) | (refine z_append_suf (fun sx sp kv hsx hsp hsl => ?_))) | (refine at_call 62 ?_; refine y_call (hc := (hputc)) ?_) | (refine at_call 63 ?_; refine y_call (hc := (FnD.at (concat_fn gl [[], (I.putC (cl ++ [(Im.runC size l) n])).1] (by have := Im.putC_len (cl ++ [(Im.runC size l) n]); simp only [List.flatten_cons, List.flatten_nil, List.append_nil, List.length_append]; have : ([] : List UInt8).length ≤ 1000 := (by decide); omega)) rfl)) ?_) | (refine at_nil ?_; refine z_nil [0, 1, 2, 3, 4, 6, 7, 8, 11, 12, 14, 15, 23, 24, 25, 26, 41, 42] ?_) | (refine tr_two ?_ ?_) | (refine tr_mid ?_ ?_) | (refine tr_or ?_ ?_) | (refine tc_seq fun K hK => ?_) | (refine tc_at 11 ?_; refine z_draw [3, 5] (linT [8, 5] (.mid 0 (lin [15, 18, 23, 26, 28, 32, 36, 40, 44]) 3 (lin [1, 18, 23, 26, 28, 32, 36, 40, 44]))) ?_) | (apply_assumption -exfalso -symm))); all_goals (try refine unhalt ?_))
      all_goals
        (refine tc_ret (y_rete ⟨?_, rfl⟩))
        simp [oneOf, hcl]
end Go.Proofs.YtcblefmjacofgaaGreatDoor
namespace Go.Proofs.YtcblefmjacofgaaGreatDoor
open Go.RowKit
theorem mut_nil (M : Nat → Nat → Prop) (β : Nat → Value) : Mut M β [] = M := by
  funext b o
  refine propext ⟨fun h => ?_, .inl⟩
  rcases h with h | ⟨n, ob, h, _⟩
  · exact h
  · cases h
theorem repE_bytes (w : World) (M : Nat → Nat → Prop) : ∀ bs : List UInt8, RepE w M 1 (bs.map dByte) (bs.map bv)
  | [] => rfl
  | x :: bs => ⟨bv x, bs.map bv, rfl, rfl, rfl, repE_bytes w M bs⟩
theorem fnE_bytes {P : Program} {gl : List (Nat × List D)} {f : FuncId} {args : List V} {e : TypeId} {bs : List UInt8} (ha : ∀ v ∈ args, Pure v)
    (h : ∀ (w : World) (M : Nat → Nat → Prop) (us : List Value), (∀ b o, M b o → b < w.heap.size) → RepL w M (fun _ => .nilFunc) [] args us → Globs gl w M →
      Calls P f us.toArray w fun en w' => ∃ (a : Option Addr) (n c : Nat), en = .returned (.slice a n c) ∧ n = bs.length ∧ Below w.heap.size w w' ∧ w'.ownsRow w.heap.size e 1 (.slice a n c) n (bs.map bv)) :
    FnE P gl f args [] (fun v H1 => v = .own 900 0 ∧ H1 = [(900, .row e 1 true (bs.map dByte) 0)]) := by
  intro w M β us hM hus _ hg
  rw [mut_nil] at hus hg
  refine (h w M us hM (RepL.pure (fun v hv u hu => (ha v hv).keep (Keeps.refl _ _) u hu) hus) hg).mono ?_
  rintro en w' ⟨a, n, c, rfl, hn, hb', ho⟩
  have hl : ∀ m ob, look m [(900, Ob.row e 1 true (bs.map dByte) 0)] = some ob → m = 900 ∧ ob = .row e 1 true (bs.map dByte) 0 := fun m ob hm => by
    rw [look_cons] at hm
    split at hm
    · rename_i e'; cases hm; exact ⟨e'.symm, rfl⟩
    · cases hm
  have hblk : ∀ b, hb (.slice a n c) = some b → w.heap.size ≤ b := fun b hb2 => by
    rcases ho.2 with ⟨h1, _⟩ | ⟨g, cap, cur, h1, h2, _⟩
    · cases h1; cases hb2
    · cases h1
      simp only [hb, Option.some.injEq] at hb2
      omega
  refine ⟨.own 900 0, _, _, upd β 900 (.slice a n c), ⟨rfl, rfl⟩, rfl, rfl, ?_, (fun m hm => by cases hm), fun m b _ hm hb2 => ?_, ⟨fun m ob hm => ?_, fun m m' b ob ob' hne h1 h2 _ => ?_, fun m ob b o hm hb2 hmm => ?_⟩, fun e' sz sh xs hm => by rw [upd_same]⟩
  · exact Frm.grows ⟨rfl, rfl, rfl, Nat.le_refl _, fun _ _ _ => rfl⟩ hb'
  · obtain ⟨ob, hob⟩ := Option.isSome_iff_exists.1 hm
    obtain ⟨rfl, _⟩ := hl m ob hob
    rw [upd_same] at hb2
    exact hblk b hb2
  · obtain ⟨rfl, rfl⟩ := hl m ob hm
    rw [upd_same]
    refine ⟨bs.map bv, ?_, repE_bytes _ _ _⟩
    rw [List.length_map, ← hn]
    exact owns_mono ho (Nat.zero_le _)
  · obtain ⟨rfl, _⟩ := hl m ob h1
    obtain ⟨rfl, _⟩ := hl m' ob' h2
    exact absurd rfl hne
  · obtain ⟨rfl, _⟩ := hl m ob hm
    rw [upd_same] at hb2
    have := hblk b hb2
    have := hM _ _ hmm
    omega
theorem FnE.at' {P : Program} {gl : List (Nat × List D)} {f : FuncId} {args args' : List V} {H0 : List (Nat × Ob)} {R : V → List (Nat × Ob) → Prop} (h : FnE P gl f args H0 R) (e' : args' = args) : FnE P gl f args' H0 R := e' ▸ h
theorem boot_o : FnE Tryz.prog glT 15 [] [] (fun v H1 => v = .own 900 0 ∧ H1 = [(900, .row 5 1 true (I.bootB.map dByte) 0)]) :=
  fnE_bytes (fun v h => by cases h) fun w M us hM hus hg => by
    simp only [RepL] at hus
    subst hus
    refine (boot_any w (tabs_of hg)).mono ?_
    rintro e w' ⟨a, c, rfl, hown, hb⟩
    exact ⟨a, 41, c, rfl, rfl, hb, hown⟩
theorem concat_o (gl : List (Nat × List D)) (l : List (List UInt8)) (hl : l.flatten.length ≤ 10000000) : FnE Tryz.prog gl 63 [.d (.list 1 (l.map dBytes))] [] (fun v H1 => v = .own 900 0 ∧ H1 = [(900, .row 5 1 true (l.flatten.map dByte) 0)]) :=
  fnE_bytes (fun v h => by rw [List.mem_singleton] at h; subst h; exact .d _) fun w M us hM hus _ => by
    simp only [RepL] at hus
    obtain ⟨v, r, rfl, hv, rfl⟩ := hus
    obtain ⟨a, c, ys, rfl, h1, h2⟩ := list_sl hv
    obtain ⟨ps, e1, e2, e3⟩ := parts_of h1
    have hj : joined ps = l.flatten := by rw [← e1]; simp [joined, List.flatMap]
    have hm : (l.map dBytes).length = ps.length := by rw [List.length_map, ← e1, List.length_map]
    rw [hm] at h2 ⊢
    refine (concat_any ps a ps.length c _ rfl rfl (by rw [hj]; exact hl) w (by rw [e2]; exact h2) e3).mono ?_
    rintro e w' ⟨a', c', rfl, hown, hb⟩
    exact ⟨a', _, c', rfl, by rw [hj], hb, by rw [← hj]; exact hown⟩
end Go.Proofs.YtcblefmjacofgaaGreatDoor
