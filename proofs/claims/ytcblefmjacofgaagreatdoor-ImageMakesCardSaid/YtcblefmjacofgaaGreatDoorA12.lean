/- Parts: F12, F13, F14. -/
import Derived.Test.YtcblefmjacofgaaGreatDoorA10
import Derived.Test.YtcblefmjacofgaaGreatDoorA11
set_option linter.all false
set_option linter.unusedVariables false
set_option linter.unusedSimpArgs false
namespace Go.Proofs.YtcblefmjacofgaaGreatDoor
open Go.RowKit
attribute [local irreducible] TR TC
set_option maxRecDepth 100000 in
set_option maxHeartbeats 8000000 in
theorem load_ofo (gl : List (Nat × List D)) (t : To.Topo) (l : List Im.Obj) (hmay : To.May t) (hll : (l.length : Int) = t.nodes) (hall : ∀ o ∈ l, Im.okObj o) : ∀ (i : Nat) (hi : i < (To.order t).length),
    FnE Tryz.prog gl 60 [.d (.int .i64 (To.order t)[i].node), .ptr 2003 0, .ptr 2007 0, .ptr 2005 0, .ptr 2004 0] (loadH t l) (fun v H1 => v = .own 900 0 ∧ H1 = (900, .row 5 1 true ((Im.tr t I.bootB (Im.loadC l) 9 (To.order t)[i].node).map dByte) 0) :: loadH t l) := by
  intro i hi
  have ih := load_of gl t l hmay hll hall 8
  have hol := (To.order_good hmay.sound).len hmay.sound.n.2 (by have := hmay.sound.n.1; omega)
  obtain ⟨f, hf8⟩ : ∃ f, f = 8 := ⟨8, rfl⟩
  rw [← hf8] at ih
  rw [show (9 : Nat) = f + 1 by omega]
  focus
    have hr := (To.order_good hmay.sound).range _ (List.getElem_mem hi)
    unfold To.inR at hr
    obtain ⟨hn0, hn1⟩ := hr
    have hch := fun k hk => Im.child_at (k := k) hmay hi hk
    generalize (To.order t)[i].node = n at hn0 hn1 hch ⊢
    have hC : FnD Tryz.prog gl 46 [.d (dTopo t), .d (.int .i64 n)] (fun v => v = .tup [.d (.list 1 ((To.kids t n).map dInt)), .d (.int .i64 0)]) := by
      have := tchildren_fn gl t n
      unfold To.children at this
      rw [if_pos hmay, if_neg (by omega)] at this
      exact this
    have hP : ∀ k ∈ To.kids t n, ∃ lk, FnD Tryz.prog gl 48 [.d (dTopo t), .d (.agg [.int .i64 n, .int .i64 (k : Nat)])] (fun v => v = .tup [.d (.agg [.int .i64 (Im.child t n k), .int .i64 lk]), .d (.bool true)]) := fun k hk => by
      have := tpeer_fn gl t ⟨n, (k : Nat)⟩
      have hk' := (List.mem_filter.1 hk).2
      unfold To.kid at hk'
      simp only [Bool.and_eq_true] at hk'
      rw [if_pos hmay, hk'.1, decide_eq_true hmay] at this
      exact ⟨_, this⟩
    have hlast := loadlast_fn gl l n hn0 (by omega)
    have hwl : ((Im.loadC l) n).Wf := Im.loadC_wf l n
    have hk4 := fun k (hk : k ∈ To.kids t n) => Im.kids_lt hk
    have hkl := Im.kids_len t n
    have htl := fun k => Im.tr_len t I.bootB (Im.loadC l) (by decide) f (Im.child t n k)
    have htr : Im.tr t I.bootB (Im.loadC l) (f + 1) n = I.bootB ++ (I.putC (((To.kids t n).flatMap fun k => Im.fwd k (Im.tr t I.bootB (Im.loadC l) f (Im.child t n k))) ++ [(Im.loadC l) n])).1 := rfl
    rw [htr]
    generalize To.kids t n = ks at hC hP hch hk4 hkl ⊢
    have hput : ∀ cl, cl = (ks.flatMap fun k => Im.fwd k (Im.tr t I.bootB (Im.loadC l) f (Im.child t n k))) → FnD Tryz.prog gl 62 [.d (.list 4 (cl.map dCmd ++ [dCmd ((Im.loadC l) n)]))] (fun v => v = .tup [.d (dBytes (I.putC (cl ++ [(Im.loadC l) n])).1), .d (.int .i64 (I.putC (cl ++ [(Im.loadC l) n])).2)]) := fun cl hcl => by
      have := lput_fn gl (cl ++ [(Im.loadC l) n]) (fun c hc => by
        rcases List.mem_append.1 hc with hc | hc
        · rw [hcl] at hc
          obtain ⟨k, hk, hc⟩ := List.mem_flatMap.1 hc
          exact Im.fwd_wf (hk4 k hk) _ c hc
        · rw [List.mem_singleton] at hc
          subst hc
          exact hwl)
      rwa [List.map_append] at this
    unfold dTopo at hC hP
    have ih' : ∀ k ∈ ks, FnE Tryz.prog gl 60 [.d (.int .i64 (Im.child t n k)), .ptr 2003 0, .ptr 2007 0, .ptr 2005 0, .ptr 2004 0] (loadH t l) (fun v H1 => v = .d (dBytes (Im.tr t I.bootB (Im.loadC l) f (Im.child t n k))) ∧ H1 = loadH t l) := fun k hk => by
      obtain ⟨j, hij, hj, e⟩ := hch k hk
      have := ih j hj (by omega)
      rw [e] at this
      exact this
    clear ih
    unfold loadH boxT at ih' ⊢
    (refine y_entere Tryz.func60 Tryz.ntmps60 Tryz.results60 fun w M E b0 => ?_; simp only [slots, List.map_cons, List.map_nil, List.zipIdx_cons, List.zipIdx_nil, Nat.reduceAdd])
    ((repeat' (first | (refine tr_at 7 ?_; (refine z_alloc 7 ?_)) | (refine tr_at 11 ?_; (refine z_alloc 11 ?_)) | (refine tr_at 12 ?_; (refine z_alloc 12 ?_)) | (refine tr_at 50 ?_; (refine z_lit 50 ?_)) | (refine tr_at 51 ?_; refine z_append0 51 ?_) | (refine tr_at 58 ?_; (refine z_lit 58 ?_)) | (refine tr_at 59 ?_; refine z_append0 59 ?_) | (refine tr_at 65 ?_; (refine z_lit 65 ?_)) | (refine yyp ?_; (try refine s_bu ?_ ?_ <;> (intro hb; try simp only [decide_eq_true_eq, decide_eq_false_iff_not] at hb))) | (refine yy ?_) | (refine yy2 ?_ ?_ <;> (intro hcmp; try simp only [cmp] at hcmp)) | (refine at_call 46 ?_; refine y_call (hc := (hC)) ?_) | (refine at_append ?_; first | (refine z_append (fun kv => ?_)) | (refine z_append_suf (fun sx sp kv hsx hsp hsl => ?_))) | (refine at_nil ?_; refine z_nil [0, 1, 2, 3, 4, 6, 7, 8, 11, 12, 14, 15, 23, 24, 25, 26, 41, 42] ?_) | (refine tc_seq fun K hK => ?_) | (refine tc_at 11 ?_; refine z_draw [5] (lin [8, 1, 5, 14, 18, 23, 26, 28, 32, 36, 40, 44]) ?_) | (apply_assumption -exfalso -symm))); all_goals (try refine unhalt ?_))
    refine tc_nilbox 7 77 0 (e := 48) (sz := 4) rfl rfl rfl ?_
    refine y_famx (ι := Nat × List I.Cmd × Nat) [11, 12, 13, 14, 25, 26, 27, 28, 29, 30, 31, 32, 33, 34, 35, 36, 37, 38, 39, 40, 41, 43, 44, 45, 46, 47, 48, 49, 50, 51, 52] [7, 77] (fun x => [(25, .d (.int .i64 x.1))]) (fun x => [(7, .box [.own 77 x.2.2]), (77, .row 48 4 true (x.2.1.map dCmd) x.2.2)])
      (fun x => x.1 ≤ ks.length ∧ x.2.1 = (ks.take x.1).flatMap (fun k => Im.fwd k (Im.tr t I.bootB (Im.loadC l) f (Im.child t n k))) ∧ x.2.1.length ≤ x.1 * 2000000) (fun x => ks.length - x.1) (0, [], 0) ⟨by simp, rfl, by simp⟩  fun ⟨j, cl, ver⟩ ⟨hj, hcl, hcll⟩ => ?_
    dsimp only [List.cons_append, List.nil_append] at hj hcl hcll ⊢
    rcases Nat.lt_or_ge j ks.length with hjl | hjl
    · have hkm := List.getElem_mem hjl
      have hk := hk4 _ hkm
      obtain ⟨lk, hPk⟩ := hP _ hkm
      have hofk := ih' _ hkm
      have htlk := htl ks[j]
      ((repeat' (first | (refine tr_at 7 ?_; (refine z_alloc 7 ?_)) | (refine tr_at 11 ?_; (refine z_alloc 11 ?_)) | (refine tr_at 12 ?_; (refine z_alloc 12 ?_)) | (refine tr_at 40 ?_; refine y_callE (hc := hofk) ?_) | (refine tr_at 41 ?_; (refine tr_keep [0, 1, 2, 3, 4, 6, 7, 8, 11, 12, 14, 15, 23, 24, 25, 26, 40, 41, 42] ?_); refine y_inline Tryz.func61 Tryz.ntmps61 Tryz.results61 fun tm sy => ?_; simp only [slots, shift, zipPs, List.nil_append, List.cons_append, List.append_nil, List.map_cons, List.map_nil, List.zipIdx_cons, List.zipIdx_nil, Nat.reduceAdd]; refine halt ?_) | (refine tr_at 50 ?_; (refine z_lit 50 ?_)) | (refine tr_at 51 ?_; refine z_append0 51 ?_) | (refine tr_at 58 ?_; (refine z_lit 58 ?_)) | (refine tr_at 59 ?_; refine z_append0 59 ?_) | (refine tr_at 65 ?_; (refine z_lit 65 ?_)) | (refine yyp ?_; (try refine s_bu ?_ ?_ <;> (intro hb; try simp only [decide_eq_true_eq, decide_eq_false_iff_not] at hb))) | (refine yy ?_) | (refine yy2 ?_ ?_ <;> (intro hcmp; try simp only [cmp] at hcmp)) | (refine at_call 48 ?_; refine y_call (hc := (hPk)) ?_) | (refine at_append ?_; first | (refine z_append (fun kv => ?_)) | (refine z_append_suf (fun sx sp kv hsx hsp hsl => ?_))) | (refine at_nil ?_; refine z_nil [0, 1, 2, 3, 4, 6, 7, 8, 11, 12, 14, 15, 23, 24, 25, 26, 41, 42] ?_) | (refine tc_seq fun K hK => ?_) | (refine tc_at 11 ?_; refine z_draw [5] (lin [8, 1, 5, 14, 18, 23, 26, 28, 32, 36, 40, 44]) ?_) | (apply_assumption -exfalso -symm))); all_goals (try refine unhalt ?_))
      ((repeat' (first | (refine tr_at 1 ?_; (refine z_box 3001 ?_)) | (refine yyp ?_; (try refine s_bu ?_ ?_ <;> (intro hb; try simp only [decide_eq_true_eq, decide_eq_false_iff_not] at hb))) | (refine yy ?_) | (refine yy2 ?_ ?_ <;> (intro hcmp; try simp only [cmp] at hcmp)) | (refine at_nil ?_; refine z_nil [0, 1, 2, 3] ?_) | (refine tc_seq fun K hK => ?_) | (apply_assumption -exfalso -symm))); all_goals (try refine unhalt ?_))
      (refine tc_ret (y_reti ?_))
      simp only [oneOf]
      ((repeat' (first | (refine tr_at 7 ?_; (refine z_alloc 7 ?_)) | (refine tr_at 11 ?_; (refine z_alloc 11 ?_)) | (refine tr_at 12 ?_; (refine z_alloc 12 ?_)) | (refine tr_at 50 ?_; (refine z_lit 50 ?_)) | (refine tr_at 51 ?_; refine z_append0 51 ?_) | (refine tr_at 58 ?_; (refine z_lit 58 ?_)) | (refine tr_at 59 ?_; refine z_append0 59 ?_) | (refine tr_at 65 ?_; (refine z_lit 65 ?_)) | (refine yyp ?_; (try refine s_bu ?_ ?_ <;> (intro hb; try simp only [decide_eq_true_eq, decide_eq_false_iff_not] at hb))) | (refine yy ?_) | (refine yy2 ?_ ?_ <;> (intro hcmp; try simp only [cmp] at hcmp)) | (refine at_append ?_; first | (refine z_append (fun kv => ?_)) | (refine z_append_suf (fun sx sp kv hsx hsp hsl => ?_))) | (refine at_nil ?_; refine z_nil [0, 1, 2, 3, 4, 6, 7, 8, 11, 12, 14, 15, 23, 24, 25, 26, 41, 42] ?_))); all_goals (try refine unhalt ?_))
      ((repeat' (first | (refine tr_at 7 ?_; (refine z_alloc 7 ?_)) | (refine tr_at 11 ?_; (refine z_alloc 11 ?_)) | (refine tr_at 12 ?_; (refine z_alloc 12 ?_)) | (refine tr_at 50 ?_; (refine z_lit 50 ?_)) | (refine tr_at 51 ?_; refine z_append0 51 ?_) | (refine tr_at 58 ?_; (refine z_lit 58 ?_)) | (refine tr_at 59 ?_; refine z_append0 59 ?_) | (refine tr_at 65 ?_; (refine z_lit 65 ?_)) | (refine yyp ?_; (try refine s_bu ?_ ?_ <;> (intro hb; try simp only [decide_eq_true_eq, decide_eq_false_iff_not] at hb))) | (refine yy ?_) | (refine yy2 ?_ ?_ <;> (intro hcmp; try simp only [cmp] at hcmp)) | (refine at_append ?_; first | (refine z_append (fun kv => ?_)) | (refine z_append_suf (fun sx sp kv hsx hsp hsl => ?_))) | (refine at_nil ?_; refine z_nil [0, 1, 2, 3, 4, 6, 7, 8, 11, 12, 14, 15, 23, 24, 25, 26, 41, 42] ?_) | (refine tc_seq fun K hK => ?_) | (refine tc_at 11 ?_; refine z_draw [5] (lin [8, 1, 5, 14, 18, 23, 26, 28, 32, 36, 40, 44]) ?_) | (apply_assumption -exfalso -symm))); all_goals (try refine unhalt ?_))
      generalize hB : Im.tr t I.bootB (Im.loadC l) f (Im.child t n ks[j]) = B at htlk
      (refine tc_range rfl rfl rfl Tryz.func82 rfl Tryz.ntmps82 Tryz.results82 rfl rfl (by (repeat (first | exact Nub.nil _ | apply Nub.skip rfl | apply Nub.keep rfl)); fail_if_success intros) fun tm fn0 sy D0 htm hnt hlow => ?_; simp only [slots, shift, zipPs, List.nil_append, List.cons_append, List.append_nil, List.map_cons, List.map_nil, List.zipIdx_cons, List.zipIdx_nil, Nat.reduceAdd])
      ((repeat' (first | (refine yyp ?_; (try refine s_bu ?_ ?_ <;> (intro hb; try simp only [decide_eq_true_eq, decide_eq_false_iff_not] at hb))) | (refine yy ?_) | (refine yy2 ?_ ?_ <;> (intro hcmp; try simp only [cmp] at hcmp)) | (refine at_nil ?_; refine z_nil [0, 1, 3, 4, 5, 6, 15] ?_) | (refine tc_seq fun K hK => ?_) | (apply_assumption -exfalso -symm))); all_goals (try refine unhalt ?_))
      refine y_famx (ι := List UInt8 × List I.Cmd × Nat) [3, 4, 5, 6, 7, 8, 9, 10, 11, 12, 13, 14, 15, 16, 17, 18] [3001, 7, 77] (fun _ => []) (fun x => [(3001, .box [.d (.list 1 (x.1.map dByte))]), (7, .box [.own 77 x.2.2]), (77, .row 48 4 true (x.2.1.map dCmd) x.2.2)])
        (fun x => x.2.1 ++ Im.fwd ks[j] x.1 = cl ++ Im.fwd ks[j] B ∧ x.1.length ≤ 1049576 ∧ x.2.1.length + x.1.length ≤ j * 2000000 + 1049576) (fun x => x.1.length) (B, cl, ver) ⟨rfl, htlk, by dsimp only; omega⟩  fun ⟨r, cl2, ver2⟩ ⟨hrc, hr1, hr2⟩ => ?_
      dsimp only [List.cons_append, List.nil_append] at hrc hr1 hr2 ⊢
      rcases Nat.eq_zero_or_pos r.length with hr0 | hr0
      · ((repeat' (first | (refine yyp ?_; (try refine s_bu ?_ ?_ <;> (intro hb; try simp only [decide_eq_true_eq, decide_eq_false_iff_not] at hb))) | (refine yy ?_) | (refine yy2 ?_ ?_ <;> (intro hcmp; try simp only [cmp] at hcmp)) | (refine at_nil ?_; refine z_nil [0, 1, 3, 4, 5, 6, 15] ?_) | (refine tc_seq fun K hK => ?_) | (apply_assumption -exfalso -symm))); all_goals (try refine unhalt ?_))
        (refine y_endi ?_)
        ((repeat' (first | (refine tr_at 7 ?_; (refine z_alloc 7 ?_)) | (refine tr_at 11 ?_; (refine z_alloc 11 ?_)) | (refine tr_at 12 ?_; (refine z_alloc 12 ?_)) | (refine tr_at 50 ?_; (refine z_lit 50 ?_)) | (refine tr_at 51 ?_; refine z_append0 51 ?_) | (refine tr_at 58 ?_; (refine z_lit 58 ?_)) | (refine tr_at 59 ?_; refine z_append0 59 ?_) | (refine tr_at 65 ?_; (refine z_lit 65 ?_)) | (refine yyp ?_; (try refine s_bu ?_ ?_ <;> (intro hb; try simp only [decide_eq_true_eq, decide_eq_false_iff_not] at hb))) | (refine yy ?_) | (refine yy2 ?_ ?_ <;> (intro hcmp; try simp only [cmp] at hcmp)) | (refine at_append ?_; first | (refine z_append (fun kv => ?_)) | (refine z_append_suf (fun sx sp kv hsx hsp hsl => ?_))) | (refine at_nil ?_; refine z_nil [0, 1, 2, 3, 4, 6, 7, 8, 11, 12, 14, 15, 23, 24, 25, 26, 41, 42] ?_) | (refine tc_seq fun K hK => ?_) | (refine tc_at 11 ?_; refine z_draw [5] (lin [8, 1, 5, 14, 18, 23, 26, 28, 32, 36, 40, 44]) ?_) | (apply_assumption -exfalso -symm))); all_goals (try refine unhalt ?_))
        have hr : r = [] := List.eq_nil_of_length_eq_zero hr0
        subst hr
        have hcl2 : cl2 = cl ++ Im.fwd ks[j] B := by rw [← hrc, show Im.fwd ks[j] [] = [] from rfl, List.append_nil]
        refine ⟨(j + 1, cl2, ver2), ⟨by dsimp only; omega, ?_, ?_⟩, by dsimp only; omega, y_wk⟩
        · dsimp only
          rw [hcl2, hcl, ← get_take _ hjl, List.flatMap_append, List.flatMap_cons, List.flatMap_nil, List.append_nil, hB]
        · dsimp only
          omega
      · ((repeat' (first | (refine tr_at 14 ?_; (refine tr_keep [0, 1, 3, 4, 5, 6, 10, 13, 14, 15] ?_); (refine s_yield (envc := [(7, .ptr 7 0), (11, .ptr 11 0)]) htm hnt hlow rfl rfl (by (repeat (first | exact Evs.nil | apply Evs.cons rfl rfl)); fail_if_success intros) rfl rfl (by decide) (by (repeat (first | exact Nub.nil _ | apply Nub.skip rfl | apply Nub.keep rfl)); fail_if_success intros) (by simp only [shift, List.map_cons, List.map_nil, Nat.reduceAdd]; (repeat (first | exact Sub.nil | apply Sub.cons rfl)); fail_if_success intros) rfl (ltd rfl) rfl fun tm1 sy1 => ?_; simp only [slots, shift, zipPs, List.nil_append, List.cons_append, List.append_nil, List.map_cons, List.map_nil, List.zipIdx_cons, List.zipIdx_nil, Nat.reduceAdd]; refine halt ?_)) | (refine yyp ?_; (try refine s_bu ?_ ?_ <;> (intro hb; try simp only [decide_eq_true_eq, decide_eq_false_iff_not] at hb))) | (refine yy ?_) | (refine yy2 ?_ ?_ <;> (intro hcmp; try simp only [cmp] at hcmp)) | (refine at_nil ?_; refine z_nil [0, 1, 3, 4, 5, 6, 15] ?_) | (refine tc_seq fun K hK => ?_) | (apply_assumption -exfalso -symm))); all_goals (try refine unhalt ?_))
        ((repeat' (first | (refine tr_at 7 ?_; (refine z_alloc 7 ?_)) | (refine tr_at 11 ?_; (refine z_alloc 11 ?_)) | (refine tr_at 12 ?_; (refine z_alloc 12 ?_)) | (refine tr_at 50 ?_; (refine z_lit 50 ?_)) | (refine tr_at 51 ?_; refine z_append0 51 ?_) | (refine tr_at 58 ?_; (refine z_lit 58 ?_)) | (refine tr_at 59 ?_; refine z_append0 59 ?_) | (refine tr_at 65 ?_; (refine z_lit 65 ?_)) | (refine yyp ?_; (try refine s_bu ?_ ?_ <;> (intro hb; try simp only [decide_eq_true_eq, decide_eq_false_iff_not] at hb))) | (refine yy ?_) | (refine yy2 ?_ ?_ <;> (intro hcmp; try simp only [cmp] at hcmp)) | (refine at_append ?_; first | (refine z_append (fun kv => ?_)) | (refine z_append_suf (fun sx sp kv hsx hsp hsl => ?_))) | (refine at_nil ?_; refine z_nil [0, 1, 2, 3, 4, 6, 7, 8, 11, 12, 14, 15, 23, 24, 25, 26, 41, 42] ?_) | (refine tc_seq fun K hK => ?_) | (refine tc_at 11 ?_; refine z_draw [5] (lin [8, 1, 5, 14, 18, 23, 26, 28, 32, 36, 40, 44]) ?_) | (apply_assumption -exfalso -symm))); all_goals (try refine unhalt ?_))
        (refine EndsA.mk rfl ?_)
        refine tc_block ?_
        ((refine tc_region (id := 9) ?_); (repeat' (first | (refine tr_at 7 ?_; (refine z_alloc 7 ?_)) | (refine tr_at 11 ?_; (refine z_alloc 11 ?_)) | (refine tr_at 12 ?_; (refine z_alloc 12 ?_)) | (refine tr_at 50 ?_; (refine z_lit 50 ?_)) | (refine tr_at 51 ?_; refine z_append0 51 ?_) | (refine tr_at 58 ?_; (refine z_lit 58 ?_)) | (refine tr_at 59 ?_; refine z_append0 59 ?_) | (refine tr_at 65 ?_; (refine z_lit 65 ?_)) | (refine yyp ?_; (try refine s_bu ?_ ?_ <;> (intro hb; try simp only [decide_eq_true_eq, decide_eq_false_iff_not] at hb))) | (refine yy ?_) | (refine yy2 ?_ ?_ <;> (intro hcmp; try simp only [cmp] at hcmp)) | (refine at_append ?_; first | (refine z_append (fun kv => ?_)) | (refine z_append_suf (fun sx sp kv hsx hsp hsl => ?_))) | (refine at_nil ?_; refine z_nil [0, 1, 2, 3, 4, 6, 7, 8, 11, 12, 14, 15, 23, 24, 25, 26, 41, 42] ?_))); all_goals (try refine unhalt ?_))
        (refine y_endy ?_)
        ((repeat' (first | (refine yyp ?_; (try refine s_bu ?_ ?_ <;> (intro hb; try simp only [decide_eq_true_eq, decide_eq_false_iff_not] at hb))) | (refine yy ?_) | (refine yy2 ?_ ?_ <;> (intro hcmp; try simp only [cmp] at hcmp)) | (refine at_nil ?_; refine z_nil [0, 1, 3, 4, 5, 6, 15] ?_))); all_goals (try refine unhalt ?_))
        ((repeat' (first | (refine yyp ?_; (try refine s_bu ?_ ?_ <;> (intro hb; try simp only [decide_eq_true_eq, decide_eq_false_iff_not] at hb))) | (refine yy ?_) | (refine yy2 ?_ ?_ <;> (intro hcmp; try simp only [cmp] at hcmp)) | (refine at_nil ?_; refine z_nil [0, 1, 3, 4, 5, 6, 15] ?_) | (refine tc_seq fun K hK => ?_) | (apply_assumption -exfalso -symm))); all_goals (try refine unhalt ?_))
        refine ⟨(r.drop 64, cl2 ++ [⟨2, -2147483648 + 4 * (ks[j] : Int), 0, r.take 64⟩], kv), ⟨?_, ?_, ?_⟩, ?_, ?_⟩
        · dsimp only
          rw [List.append_assoc, List.singleton_append, ← Im.fwd_step hr0]
          exact hrc
        · rw [List.length_drop]; omega
        · simp only [List.length_drop, List.length_append, List.length_cons, List.length_nil]; omega
        · rw [List.length_drop]; omega
        · dsimp only [List.cons_append, List.nil_append]
          simp only [List.map_append, List.map_cons, List.map_nil, dCmd, dBytes, ← take_min, ← drop_min]
          exact y_wk
    · have hjk : j = ks.length := by omega
      subst hjk
      rw [List.take_length] at hcl
      have hputc := hput cl hcl
      ((repeat' (first | (refine tr_at 7 ?_; (refine z_alloc 7 ?_)) | (refine tr_at 11 ?_; (refine z_alloc 11 ?_)) | (refine tr_at 12 ?_; (refine z_alloc 12 ?_)) | (refine tr_at 50 ?_; (refine z_lit 50 ?_)) | (refine tr_at 51 ?_; refine z_append0 51 ?_) | (refine tr_at 57 ?_; refine y_callE (hc := hlast) ?_) | (refine tr_at 58 ?_; (refine z_lit 58 ?_)) | (refine tr_at 59 ?_; refine z_append0 59 ?_) | (refine tr_at 65 ?_; (refine z_lit 65 ?_)) | (refine tr_at 66 ?_; refine y_callE (hc := (FnE.at' (concat_o gl [I.bootB, (I.putC (cl ++ [(Im.loadC l) n])).1] (by have := Im.putC_len (cl ++ [(Im.loadC l) n]); simp only [List.flatten_cons, List.flatten_nil, List.append_nil, List.length_append]; have : (I.bootB : List UInt8).length ≤ 1000 := (by decide); omega)) rfl)) ?_) | (refine yyp ?_; (try refine s_bu ?_ ?_ <;> (intro hb; try simp only [decide_eq_true_eq, decide_eq_false_iff_not] at hb))) | (refine yy ?_) | (refine yy2 ?_ ?_ <;> (intro hcmp; try simp only [cmp] at hcmp)) | (refine at_append ?_; first | (refine z_append (fun kv => ?_)) | (refine z_append_suf (fun sx sp kv hsx hsp hsl => ?_))) | (refine at_call 62 ?_; refine y_call (hc := (hputc)) ?_) | (refine at_nil ?_; refine z_nil [0, 1, 2, 3, 4, 6, 7, 8, 11, 12, 14, 15, 23, 24, 25, 26, 41, 42] ?_) | (refine tr_two ?_ ?_) | (refine tr_mid ?_ ?_) | (refine tr_or ?_ ?_) | (refine tc_seq fun K hK => ?_) | (refine tc_at 11 ?_; refine z_draw [3, 5] (linT [8, 5] (.mid 0 (lin [15, 18, 23, 26, 28, 32, 36, 40, 44]) 3 (lin [1, 18, 23, 26, 28, 32, 36, 40, 44]))) ?_) | (apply_assumption -exfalso -symm))); all_goals (try refine unhalt ?_))
      all_goals
        simp only [List.flatten_cons, List.flatten_nil, List.append_nil, hcl]
        (refine tc_ret (y_orete ⟨?_, rfl⟩))
        simp [oneOf]
end Go.Proofs.YtcblefmjacofgaaGreatDoor
namespace Go.Proofs.YtcblefmjacofgaaGreatDoor
open Go.RowKit
theorem tc_resz {E : Set} {Q : Exit → Sd → Prop} {c : Code} {env : List (Nat × V)} {H : List (Nat × Ob)} {gl : List (Nat × List D)} (t : Nat) {sz : Nat} (sz' : Nat) (hl : look t env = some (.nils sz)) (h : TC E c Q ⟨(t, .nils sz') :: env, H, gl⟩) : TC E c Q ⟨env, H, gl⟩ := fun a w ⟨β, hB⟩ => by
  refine h a w ⟨β, { hB with env := fun s v hs => ?_ }⟩
  dsimp only at hs
  rw [look_cons] at hs
  split at hs
  · rename_i e
    subst e
    cases hs
    obtain ⟨x, h1, h2⟩ := hB.env t _ hl
    exact ⟨x, h1, h2⟩
  · exact hB.env s v hs
theorem Im.check_ok {t : To.Topo} {node size : Int} {l : List Im.Obj} (h : Im.check t node size l = 0) : To.May t ∧ Im.okMem size ∧ (l.length : Int) = t.nodes ∧ (∀ o ∈ l, Im.okObj o) ∧ 0 ≤ node ∧ node < t.nodes ∧ ∀ o ∈ l, Im.fits size o := by
  unfold Im.check at h
  split at h
  · cases h
  · rename_i h1
    have h1 := Classical.not_not.1 h1
    split at h
    · cases h
    · rename_i h2
      split at h
      · cases h
      · rename_i h3
        exact ⟨h1.1, h1.2.1, h1.2.2.1, h1.2.2.2, by omega, by omega, Classical.not_not.1 h3⟩
theorem order_at {t : To.Topo} (h : To.May t) {n : Int} (h0 : 0 ≤ n) (h1 : n < t.nodes) : ∃ (i : Nat) (hi : i < (To.order t).length), (To.order t)[i].node = n ∧ (To.order t).length ≤ i + 9 := by
  obtain ⟨p, q1, q2⟩ := To.all_nodes h h0 h1
  obtain ⟨i, hi, rfl⟩ := List.mem_iff_getElem.1 q1
  have := (To.order_good h.sound).len h.sound.n.2 (by have := h.sound.n.1; omega)
  exact ⟨i, hi, q2, by omega⟩
theorem load_at (gl : List (Nat × List D)) {t : To.Topo} {node size : Int} {l : List Im.Obj} (h : Im.check t node size l = 0) :
    FnE Tryz.prog gl 60 [.d (.int .i64 node), .ptr 2003 0, .ptr 2007 0, .ptr 2005 0, .ptr 2004 0] (loadH t l) (fun v H1 => v = .d (dBytes (Im.load t l node)) ∧ H1 = loadH t l) := by
  obtain ⟨h1, h2, h3, h4, h5, h6, h7⟩ := Im.check_ok h
  obtain ⟨i, hi, e, hl⟩ := order_at h1 h5 h6
  have := load_of gl t l h1 h3 h4 9 i hi hl
  rw [e] at this
  exact this
theorem start_at (gl : List (Nat × List D)) {t : To.Topo} {node size : Int} {l : List Im.Obj} (h : Im.check t node size l = 0) :
    FnE Tryz.prog gl 60 [.d (.int .i64 node), .ptr 2003 0, .ptr 2007 0, .ptr 2005 0, .ptr 2004 0] (startH t size l) (fun v H1 => v = .d (dBytes (Im.start t size l node)) ∧ H1 = startH t size l) := by
  obtain ⟨h1, h2, h3, h4, h5, h6, h7⟩ := Im.check_ok h
  obtain ⟨i, hi, e, hl⟩ := order_at h1 h5 h6
  have := start_of gl t size l h1 h3 h4 9 i hi hl
  rw [e] at this
  exact this
attribute [local irreducible] TR TC
set_option maxRecDepth 100000 in
set_option maxHeartbeats 4000000 in
theorem Load_fn (t : To.Topo) (node size : Int) (l : List Im.Obj) (hl : l.length ≤ 1000000) :
    FnD Tryz.prog glT 6 [.d (dTopo t), .d (.int .i64 node), .d (.int .i64 size), .d (.list 4 (l.map dObj))] (fun v => v = .tup [.d (dBytes (Im.loadE t node size l).1), .d (.int .i64 (Im.loadE t node size l).2)]) := by
  have hc := check_fn glT t node size l hl
  have hof := fun h => load_at glT (t := t) (node := node) (size := size) (l := l) h
  unfold loadH boxT at hof
  unfold dTopo at hc ⊢
  (refine y_enter Tryz.func6 Tryz.ntmps6 Tryz.results6 fun w M => ?_; simp only [slots, List.map_cons, List.map_nil, List.zipIdx_cons, List.zipIdx_nil, Nat.reduceAdd])
  ((repeat' (first | (refine tr_at 4 ?_; (refine z_box 4 ?_)) | (refine tr_at 21 ?_; (refine tr_keep [0, 1, 2, 3, 4, 8, 9, 10, 17, 19, 20, 21, 22, 23] ?_); refine y_inline Tryz.func17 Tryz.ntmps17 Tryz.results17 fun tm sy => ?_; simp only [slots, shift, zipPs, List.nil_append, List.cons_append, List.append_nil, List.map_cons, List.map_nil, List.zipIdx_cons, List.zipIdx_nil, Nat.reduceAdd]; refine halt ?_) | (refine yyp ?_; (try refine s_bu ?_ ?_ <;> (intro hb; try simp only [decide_eq_true_eq, decide_eq_false_iff_not] at hb))) | (refine yy ?_) | (refine yy2 ?_ ?_ <;> (intro hcmp; try simp only [cmp] at hcmp)) | (refine at_call 16 ?_; refine y_call (hc := (hc)) ?_) | (refine at_nil ?_; refine z_nil [0, 1, 2, 3, 4, 8, 9, 10, 17] ?_) | (refine tc_seq fun K hK => ?_) | (apply_assumption -exfalso -symm))); all_goals (try refine unhalt ?_))
  · (refine tc_ret (y_ret ?_))
    simp [oneOf, Im.loadE, *, dBytes]
  · ((repeat' (first | (refine tr_at 2 ?_; (refine z_box 1002 ?_)) | (refine tr_at 3 ?_; (refine z_box 1003 ?_)) | (refine tr_at 8 ?_; (refine tr_keep [0, 1, 2, 3, 4, 5, 6, 7, 8] ?_); refine y_inline Tryz.func32 Tryz.ntmps32 Tryz.results32 fun tm sy => ?_; simp only [slots, shift, zipPs, List.nil_append, List.cons_append, List.append_nil, List.map_cons, List.map_nil, List.zipIdx_cons, List.zipIdx_nil, Nat.reduceAdd]; refine halt ?_) | (refine yyp ?_; (try refine s_bu ?_ ?_ <;> (intro hb; try simp only [decide_eq_true_eq, decide_eq_false_iff_not] at hb))) | (refine yy ?_) | (refine yy2 ?_ ?_ <;> (intro hcmp; try simp only [cmp] at hcmp)) | (refine at_call 15 ?_; refine y_call (hc := (boot_fn)) ?_) | (refine at_nil ?_; refine z_nil [0, 1, 2, 3, 4, 5, 6, 7] ?_) | (refine tc_seq fun K hK => ?_) | (refine tc_at 1 ?_; refine z_draw [3] (lin [8, 1, 6, 15, 16]) ?_) | (apply_assumption -exfalso -symm))); all_goals (try refine unhalt ?_))
    ((repeat' (first | (refine tr_at 3 ?_; (refine z_box 2003 ?_)) | (refine tr_at 4 ?_; (refine z_box 2004 ?_)) | (refine tr_at 5 ?_; (refine z_box 2005 ?_)) | (refine tr_at 7 ?_; (refine z_alloc 2007 ?_)) | (refine yyp ?_; (try refine s_bu ?_ ?_ <;> (intro hb; try simp only [decide_eq_true_eq, decide_eq_false_iff_not] at hb))) | (refine yy ?_) | (refine yy2 ?_ ?_ <;> (intro hcmp; try simp only [cmp] at hcmp)) | (refine at_nil ?_; refine z_nil [0, 1, 2, 3, 4, 5, 6, 7, 8] ?_) | (refine tc_seq fun K hK => ?_) | (apply_assumption -exfalso -symm))); all_goals (try refine unhalt ?_))
    (refine tc_ret (y_reti ?_))
    simp only [oneOf]
    ((repeat' (first | (refine tr_at 2 ?_; (refine z_box 1002 ?_)) | (refine tr_at 3 ?_; (refine z_box 1003 ?_)) | (refine yyp ?_; (try refine s_bu ?_ ?_ <;> (intro hb; try simp only [decide_eq_true_eq, decide_eq_false_iff_not] at hb))) | (refine yy ?_) | (refine yy2 ?_ ?_ <;> (intro hcmp; try simp only [cmp] at hcmp)) | (refine at_nil ?_; refine z_nil [0, 1, 2, 3, 4, 5, 6, 7] ?_))); all_goals (try refine unhalt ?_))
    ((repeat' (first | (refine tr_at 2 ?_; (refine z_box 1002 ?_)) | (refine tr_at 3 ?_; (refine z_box 1003 ?_)) | (refine yyp ?_; (try refine s_bu ?_ ?_ <;> (intro hb; try simp only [decide_eq_true_eq, decide_eq_false_iff_not] at hb))) | (refine yy ?_) | (refine yy2 ?_ ?_ <;> (intro hcmp; try simp only [cmp] at hcmp)) | (refine at_nil ?_; refine z_nil [0, 1, 2, 3, 4, 5, 6, 7] ?_) | (refine tc_seq fun K hK => ?_) | (refine tc_at 1 ?_; refine z_draw [] (lin [8, 1, 6, 14, 16]) ?_) | (apply_assumption -exfalso -symm))); all_goals (try refine unhalt ?_))
    (refine tc_ret (y_reti ?_))
    simp only [oneOf]
    have hcz : Im.check t node size l = 0 := by first | assumption | omega
    have hofk := hof hcz
    ((repeat' (first | (refine tr_at 4 ?_; (refine z_box 4 ?_)) | (refine tr_at 23 ?_; refine y_callE (hc := hofk) ?_) | (refine yyp ?_; (try refine s_bu ?_ ?_ <;> (intro hb; try simp only [decide_eq_true_eq, decide_eq_false_iff_not] at hb))) | (refine yy ?_) | (refine yy2 ?_ ?_ <;> (intro hcmp; try simp only [cmp] at hcmp)) | (refine at_nil ?_; refine z_nil [0, 1, 2, 3, 4, 8, 9, 10, 17] ?_))); all_goals (try refine unhalt ?_))
    ((repeat' (first | (refine tr_at 4 ?_; (refine z_box 4 ?_)) | (refine yyp ?_; (try refine s_bu ?_ ?_ <;> (intro hb; try simp only [decide_eq_true_eq, decide_eq_false_iff_not] at hb))) | (refine yy ?_) | (refine yy2 ?_ ?_ <;> (intro hcmp; try simp only [cmp] at hcmp)) | (refine at_nil ?_; refine z_nil [0, 1, 2, 3, 4, 8, 9, 10, 17] ?_) | (refine tc_seq fun K hK => ?_) | (apply_assumption -exfalso -symm))); all_goals (try refine unhalt ?_))
    (refine tc_ret (y_ret ?_))
    simp [oneOf, Im.loadE, hcz]
set_option maxRecDepth 100000 in
set_option maxHeartbeats 4000000 in
theorem Start_fn (gl : List (Nat × List D)) (t : To.Topo) (node size : Int) (l : List Im.Obj) (hl : l.length ≤ 1000000) :
    FnD Tryz.prog gl 9 [.d (dTopo t), .d (.int .i64 node), .d (.int .i64 size), .d (.list 4 (l.map dObj))] (fun v => v = .tup [.d (dBytes (Im.startE t node size l).1), .d (.int .i64 (Im.startE t node size l).2)]) := by
  have hc := check_fn gl t node size l hl
  have hof := fun h => start_at gl (t := t) (node := node) (size := size) (l := l) h
  unfold startH boxT at hof
  unfold dTopo at hc ⊢
  (refine y_enter Tryz.func9 Tryz.ntmps9 Tryz.results9 fun w M => ?_; simp only [slots, List.map_cons, List.map_nil, List.zipIdx_cons, List.zipIdx_nil, Nat.reduceAdd])
  ((repeat' (first | (refine tr_at 4 ?_; (refine z_box 4 ?_)) | (refine tr_at 22 ?_; (refine tr_keep [0, 1, 2, 3, 4, 8, 9, 10, 17, 19, 20, 21, 22, 23, 24] ?_); refine y_inline Tryz.func20 Tryz.ntmps20 Tryz.results20 fun tm sy => ?_; simp only [slots, shift, zipPs, List.nil_append, List.cons_append, List.append_nil, List.map_cons, List.map_nil, List.zipIdx_cons, List.zipIdx_nil, Nat.reduceAdd]; refine halt ?_) | (refine yyp ?_; (try refine s_bu ?_ ?_ <;> (intro hb; try simp only [decide_eq_true_eq, decide_eq_false_iff_not] at hb))) | (refine yy ?_) | (refine yy2 ?_ ?_ <;> (intro hcmp; try simp only [cmp] at hcmp)) | (refine at_call 16 ?_; refine y_call (hc := (hc)) ?_) | (refine at_nil ?_; refine z_nil [0, 1, 2, 3, 4, 8, 9, 10, 17] ?_) | (refine tc_seq fun K hK => ?_) | (apply_assumption -exfalso -symm))); all_goals (try refine unhalt ?_))
  · (refine tc_ret (y_ret ?_))
    simp [oneOf, Im.startE, *, dBytes]
  · ((repeat' (first | (refine tr_at 3 ?_; (refine z_box 1003 ?_)) | (refine tr_at 4 ?_; (refine z_box 1004 ?_)) | (refine tr_at 5 ?_; (refine z_box 1005 ?_)) | (refine tr_at 9 ?_; (refine tr_keep [0, 1, 2, 3, 4, 5, 6, 7, 8, 9] ?_); refine y_inline Tryz.func32 Tryz.ntmps32 Tryz.results32 fun tm sy => ?_; simp only [slots, shift, zipPs, List.nil_append, List.cons_append, List.append_nil, List.map_cons, List.map_nil, List.zipIdx_cons, List.zipIdx_nil, Nat.reduceAdd]; refine halt ?_) | (refine yyp ?_; (try refine s_bu ?_ ?_ <;> (intro hb; try simp only [decide_eq_true_eq, decide_eq_false_iff_not] at hb))) | (refine yy ?_) | (refine yy2 ?_ ?_ <;> (intro hcmp; try simp only [cmp] at hcmp)) | (refine at_nil ?_; refine z_nil [0, 1, 2, 3, 4, 5, 6, 7, 8] ?_) | (refine tc_seq fun K hK => ?_) | (apply_assumption -exfalso -symm))); all_goals (try refine unhalt ?_))
    refine tc_resz 1 1 rfl ?_
    ((repeat' (first | (refine tr_at 3 ?_; (refine z_box 2003 ?_)) | (refine tr_at 4 ?_; (refine z_box 2004 ?_)) | (refine tr_at 5 ?_; (refine z_box 2005 ?_)) | (refine tr_at 7 ?_; (refine z_alloc 2007 ?_)) | (refine yyp ?_; (try refine s_bu ?_ ?_ <;> (intro hb; try simp only [decide_eq_true_eq, decide_eq_false_iff_not] at hb))) | (refine yy ?_) | (refine yy2 ?_ ?_ <;> (intro hcmp; try simp only [cmp] at hcmp)) | (refine at_nil ?_; refine z_nil [0, 1, 2, 3, 4, 5, 6, 7, 8] ?_) | (refine tc_seq fun K hK => ?_) | (apply_assumption -exfalso -symm))); all_goals (try refine unhalt ?_))
    (refine tc_ret (y_reti ?_))
    simp only [oneOf]
    ((repeat' (first | (refine tr_at 3 ?_; (refine z_box 1003 ?_)) | (refine tr_at 4 ?_; (refine z_box 1004 ?_)) | (refine tr_at 5 ?_; (refine z_box 1005 ?_)) | (refine yyp ?_; (try refine s_bu ?_ ?_ <;> (intro hb; try simp only [decide_eq_true_eq, decide_eq_false_iff_not] at hb))) | (refine yy ?_) | (refine yy2 ?_ ?_ <;> (intro hcmp; try simp only [cmp] at hcmp)) | (refine at_nil ?_; refine z_nil [0, 1, 2, 3, 4, 5, 6, 7, 8] ?_))); all_goals (try refine unhalt ?_))
    ((repeat' (first | (refine tr_at 3 ?_; (refine z_box 1003 ?_)) | (refine tr_at 4 ?_; (refine z_box 1004 ?_)) | (refine tr_at 5 ?_; (refine z_box 1005 ?_)) | (refine yyp ?_; (try refine s_bu ?_ ?_ <;> (intro hb; try simp only [decide_eq_true_eq, decide_eq_false_iff_not] at hb))) | (refine yy ?_) | (refine yy2 ?_ ?_ <;> (intro hcmp; try simp only [cmp] at hcmp)) | (refine at_nil ?_; refine z_nil [0, 1, 2, 3, 4, 5, 6, 7, 8] ?_) | (refine tc_seq fun K hK => ?_) | (apply_assumption -exfalso -symm))); all_goals (try refine unhalt ?_))
    (refine tc_ret (y_reti ?_))
    simp only [oneOf]
    have hcz : Im.check t node size l = 0 := by first | assumption | omega
    have hofk := hof hcz
    ((repeat' (first | (refine tr_at 4 ?_; (refine z_box 4 ?_)) | (refine tr_at 24 ?_; refine y_callE (hc := hofk) ?_) | (refine yyp ?_; (try refine s_bu ?_ ?_ <;> (intro hb; try simp only [decide_eq_true_eq, decide_eq_false_iff_not] at hb))) | (refine yy ?_) | (refine yy2 ?_ ?_ <;> (intro hcmp; try simp only [cmp] at hcmp)) | (refine at_nil ?_; refine z_nil [0, 1, 2, 3, 4, 8, 9, 10, 17] ?_))); all_goals (try refine unhalt ?_))
    ((repeat' (first | (refine tr_at 4 ?_; (refine z_box 4 ?_)) | (refine yyp ?_; (try refine s_bu ?_ ?_ <;> (intro hb; try simp only [decide_eq_true_eq, decide_eq_false_iff_not] at hb))) | (refine yy ?_) | (refine yy2 ?_ ?_ <;> (intro hcmp; try simp only [cmp] at hcmp)) | (refine at_nil ?_; refine z_nil [0, 1, 2, 3, 4, 8, 9, 10, 17] ?_) | (refine tc_seq fun K hK => ?_) | (apply_assumption -exfalso -symm))); all_goals (try refine unhalt ?_))
    (refine tc_ret (y_ret ?_))
    simp [oneOf, Im.startE, hcz]
end Go.Proofs.YtcblefmjacofgaaGreatDoor
namespace Go.Proofs.YtcblefmjacofgaaGreatDoor
open Go.RowKit
theorem load_ato (gl : List (Nat × List D)) {t : To.Topo} {node size : Int} {l : List Im.Obj} (h : Im.check t node size l = 0) (h0 : 0 ≤ node) (h1 : node < t.nodes) (m : Int) (m0 : 0 ≤ m) (m1 : m < t.nodes) :
    FnE Tryz.prog gl 60 [.d (.int .i64 m), .ptr 2003 0, .ptr 2007 0, .ptr 2005 0, .ptr 2004 0] (loadH t l) (fun v H1 => v = .own 900 0 ∧ H1 = (900, .row 5 1 true ((Im.load t l m).map dByte) 0) :: loadH t l) := by
  obtain ⟨h1, h2, h3, h4, h5, h6, h7⟩ := Im.check_ok h
  obtain ⟨i, hi, e, hl⟩ := order_at h1 m0 m1
  have := load_ofo gl t l h1 h3 h4 i hi
  rw [e] at this
  exact this
theorem start_ato (gl : List (Nat × List D)) {t : To.Topo} {node size : Int} {l : List Im.Obj} (h : Im.check t node size l = 0) (m : Int) (m0 : 0 ≤ m) (m1 : m < t.nodes) :
    FnE Tryz.prog gl 60 [.d (.int .i64 m), .ptr 2003 0, .ptr 2007 0, .ptr 2005 0, .ptr 2004 0] (startH t size l) (fun v H1 => v = .d (dBytes (Im.start t size l m)) ∧ H1 = startH t size l) := by
  obtain ⟨h1, h2, h3, h4, h5, h6, h7⟩ := Im.check_ok h
  obtain ⟨i, hi, e, hl⟩ := order_at h1 m0 m1
  have := start_of gl t size l h1 h3 h4 9 i hi hl
  rw [e] at this
  exact this
theorem load_len (t : To.Topo) (l : List Im.Obj) (m : Int) : (Im.load t l m).length ≤ 1049576 := Im.tr_len t _ _ (by decide) 9 m
theorem start_len (t : To.Topo) (size : Int) (l : List Im.Obj) (m : Int) : (Im.start t size l m).length ≤ 1049576 := Im.tr_len t _ _ (by decide) 9 m
attribute [local irreducible] TR TC
set_option maxRecDepth 100000 in
set_option maxHeartbeats 4000000 in
theorem loading_fn (t : To.Topo) (l : List Im.Obj) : FnE Tryz.prog glT 17 [.d (dTopo t), .d (.list 4 (l.map dObj))] [] (fun v H1 => v = .clo (.func 60) [] [.ptr 2003 0, .ptr 2007 0, .ptr 2005 0, .ptr 2004 0] ∧ H1 = loadH t l) := by
  unfold loadH boxT dTopo
  (refine y_entere Tryz.func17 Tryz.ntmps17 Tryz.results17 fun w M E b0 => ?_; simp only [slots, List.map_cons, List.map_nil, List.zipIdx_cons, List.zipIdx_nil, Nat.reduceAdd])
  ((repeat' (first | (refine tr_at 2 ?_; (refine z_box 1002 ?_)) | (refine tr_at 3 ?_; (refine z_box 1003 ?_)) | (refine tr_at 8 ?_; (refine tr_keep [0, 1, 2, 3, 4, 5, 6, 7, 8] ?_); refine y_inline Tryz.func32 Tryz.ntmps32 Tryz.results32 fun tm sy => ?_; simp only [slots, shift, zipPs, List.nil_append, List.cons_append, List.append_nil, List.map_cons, List.map_nil, List.zipIdx_cons, List.zipIdx_nil, Nat.reduceAdd]; refine halt ?_) | (refine yyp ?_; (try refine s_bu ?_ ?_ <;> (intro hb; try simp only [decide_eq_true_eq, decide_eq_false_iff_not] at hb))) | (refine yy ?_) | (refine yy2 ?_ ?_ <;> (intro hcmp; try simp only [cmp] at hcmp)) | (refine at_call 15 ?_; refine y_call (hc := (boot_fn)) ?_) | (refine at_nil ?_; refine z_nil [0, 1, 2, 3, 4, 5, 6, 7] ?_) | (refine tc_seq fun K hK => ?_) | (refine tc_at 1 ?_; refine z_draw [3] (lin [8, 1, 6, 15, 16]) ?_) | (apply_assumption -exfalso -symm))); all_goals (try refine unhalt ?_))
  ((repeat' (first | (refine tr_at 3 ?_; (refine z_box 2003 ?_)) | (refine tr_at 4 ?_; (refine z_box 2004 ?_)) | (refine tr_at 5 ?_; (refine z_box 2005 ?_)) | (refine tr_at 7 ?_; (refine z_alloc 2007 ?_)) | (refine yyp ?_; (try refine s_bu ?_ ?_ <;> (intro hb; try simp only [decide_eq_true_eq, decide_eq_false_iff_not] at hb))) | (refine yy ?_) | (refine yy2 ?_ ?_ <;> (intro hcmp; try simp only [cmp] at hcmp)) | (refine at_nil ?_; refine z_nil [0, 1, 2, 3, 4, 5, 6, 7, 8] ?_) | (refine tc_seq fun K hK => ?_) | (apply_assumption -exfalso -symm))); all_goals (try refine unhalt ?_))
  (refine tc_ret (y_reti ?_))
  simp only [oneOf]
  ((repeat' (first | (refine tr_at 2 ?_; (refine z_box 1002 ?_)) | (refine tr_at 3 ?_; (refine z_box 1003 ?_)) | (refine yyp ?_; (try refine s_bu ?_ ?_ <;> (intro hb; try simp only [decide_eq_true_eq, decide_eq_false_iff_not] at hb))) | (refine yy ?_) | (refine yy2 ?_ ?_ <;> (intro hcmp; try simp only [cmp] at hcmp)) | (refine at_nil ?_; refine z_nil [0, 1, 2, 3, 4, 5, 6, 7] ?_))); all_goals (try refine unhalt ?_))
  ((repeat' (first | (refine tr_at 2 ?_; (refine z_box 1002 ?_)) | (refine tr_at 3 ?_; (refine z_box 1003 ?_)) | (refine yyp ?_; (try refine s_bu ?_ ?_ <;> (intro hb; try simp only [decide_eq_true_eq, decide_eq_false_iff_not] at hb))) | (refine yy ?_) | (refine yy2 ?_ ?_ <;> (intro hcmp; try simp only [cmp] at hcmp)) | (refine at_nil ?_; refine z_nil [0, 1, 2, 3, 4, 5, 6, 7] ?_) | (refine tc_seq fun K hK => ?_) | (refine tc_at 1 ?_; refine z_draw [] (lin [8, 1, 6, 14, 16]) ?_) | (apply_assumption -exfalso -symm))); all_goals (try refine unhalt ?_))
  (refine tc_ret (y_orete ⟨?_, rfl⟩))
  simp [oneOf]
set_option maxRecDepth 100000 in
set_option maxHeartbeats 4000000 in
theorem starting_fn (t : To.Topo) (size : Int) (l : List Im.Obj) : FnE Tryz.prog glT 20 [.d (dTopo t), .d (.int .i64 size), .d (.list 4 (l.map dObj))] [] (fun v H1 => v = .clo (.func 60) [] [.ptr 2003 0, .ptr 2007 0, .ptr 2005 0, .ptr 2004 0] ∧ H1 = startH t size l) := by
  unfold startH boxT dTopo
  (refine y_entere Tryz.func20 Tryz.ntmps20 Tryz.results20 fun w M E b0 => ?_; simp only [slots, List.map_cons, List.map_nil, List.zipIdx_cons, List.zipIdx_nil, Nat.reduceAdd])
  ((repeat' (first | (refine tr_at 3 ?_; (refine z_box 1003 ?_)) | (refine tr_at 4 ?_; (refine z_box 1004 ?_)) | (refine tr_at 5 ?_; (refine z_box 1005 ?_)) | (refine tr_at 9 ?_; (refine tr_keep [0, 1, 2, 3, 4, 5, 6, 7, 8, 9] ?_); refine y_inline Tryz.func32 Tryz.ntmps32 Tryz.results32 fun tm sy => ?_; simp only [slots, shift, zipPs, List.nil_append, List.cons_append, List.append_nil, List.map_cons, List.map_nil, List.zipIdx_cons, List.zipIdx_nil, Nat.reduceAdd]; refine halt ?_) | (refine yyp ?_; (try refine s_bu ?_ ?_ <;> (intro hb; try simp only [decide_eq_true_eq, decide_eq_false_iff_not] at hb))) | (refine yy ?_) | (refine yy2 ?_ ?_ <;> (intro hcmp; try simp only [cmp] at hcmp)) | (refine at_nil ?_; refine z_nil [0, 1, 2, 3, 4, 5, 6, 7, 8] ?_) | (refine tc_seq fun K hK => ?_) | (apply_assumption -exfalso -symm))); all_goals (try refine unhalt ?_))
  refine tc_resz 1 1 rfl ?_
  ((repeat' (first | (refine tr_at 3 ?_; (refine z_box 2003 ?_)) | (refine tr_at 4 ?_; (refine z_box 2004 ?_)) | (refine tr_at 5 ?_; (refine z_box 2005 ?_)) | (refine tr_at 7 ?_; (refine z_alloc 2007 ?_)) | (refine yyp ?_; (try refine s_bu ?_ ?_ <;> (intro hb; try simp only [decide_eq_true_eq, decide_eq_false_iff_not] at hb))) | (refine yy ?_) | (refine yy2 ?_ ?_ <;> (intro hcmp; try simp only [cmp] at hcmp)) | (refine at_nil ?_; refine z_nil [0, 1, 2, 3, 4, 5, 6, 7, 8] ?_) | (refine tc_seq fun K hK => ?_) | (apply_assumption -exfalso -symm))); all_goals (try refine unhalt ?_))
  (refine tc_ret (y_reti ?_))
  simp only [oneOf]
  ((repeat' (first | (refine tr_at 3 ?_; (refine z_box 1003 ?_)) | (refine tr_at 4 ?_; (refine z_box 1004 ?_)) | (refine tr_at 5 ?_; (refine z_box 1005 ?_)) | (refine yyp ?_; (try refine s_bu ?_ ?_ <;> (intro hb; try simp only [decide_eq_true_eq, decide_eq_false_iff_not] at hb))) | (refine yy ?_) | (refine yy2 ?_ ?_ <;> (intro hcmp; try simp only [cmp] at hcmp)) | (refine at_nil ?_; refine z_nil [0, 1, 2, 3, 4, 5, 6, 7, 8] ?_))); all_goals (try refine unhalt ?_))
  ((repeat' (first | (refine tr_at 3 ?_; (refine z_box 1003 ?_)) | (refine tr_at 4 ?_; (refine z_box 1004 ?_)) | (refine tr_at 5 ?_; (refine z_box 1005 ?_)) | (refine yyp ?_; (try refine s_bu ?_ ?_ <;> (intro hb; try simp only [decide_eq_true_eq, decide_eq_false_iff_not] at hb))) | (refine yy ?_) | (refine yy2 ?_ ?_ <;> (intro hcmp; try simp only [cmp] at hcmp)) | (refine at_nil ?_; refine z_nil [0, 1, 2, 3, 4, 5, 6, 7, 8] ?_) | (refine tc_seq fun K hK => ?_) | (apply_assumption -exfalso -symm))); all_goals (try refine unhalt ?_))
  (refine tc_ret (y_orete ⟨?_, rfl⟩))
  simp [oneOf]
set_option maxRecDepth 100000 in
set_option maxHeartbeats 4000000 in
theorem Make_fn (t : To.Topo) (size : Int) (l : List Im.Obj) (hl : l.length ≤ 1000000) :
    FnD Tryz.prog glT 11 [.d (dTopo t), .d (.int .i64 size), .d (.list 4 (l.map dObj))] (fun v => v = .tup [.d (dBytes (Im.makeE t size l).1), .d (.int .i64 (Im.makeE t size l).2)]) := by
  have hc := check_fn glT t 0 size l hl
  have hll := load_len t l t.host.node
  have hsl := start_len t size l t.host.node
  have hof := fun h h0 h1 => load_ato glT (t := t) (node := 0) (size := size) (l := l) h h0 h1 t.host.node
  have hos := fun h => start_ato glT (t := t) (node := 0) (size := size) (l := l) h t.host.node
  have hlo := loading_fn t l
  have hst := starting_fn t size l
  unfold loadH boxT at hof hlo
  unfold startH boxT at hos hst
  unfold dTopo at hc hlo hst ⊢
  by_cases hcz : Im.check t 0 size l = 0
  · have hok := Im.check_ok hcz
    have hh := hok.1.sound.host
    unfold To.inR at hh
    have hofk := hof hcz (by omega) hok.2.2.2.2.2.1 hh.1 hh.2
    have hosk := hos hcz hh.1 hh.2
    (refine y_enter Tryz.func11 Tryz.ntmps11 Tryz.results11 fun w M => ?_; simp only [slots, List.map_cons, List.map_nil, List.zipIdx_cons, List.zipIdx_nil, Nat.reduceAdd])
    ((repeat' (first | (refine tr_at 3 ?_; (refine z_box 3 ?_)) | (refine tr_at 22 ?_; refine y_callG (hc := hlo) ?_) | (refine tr_at 24 ?_; refine y_callE (hc := hofk) ?_) | (refine tr_at 28 ?_; refine tr_drop [2003, 2004, 2005, 2007, 1003] (by (repeat (first | exact Drop.nil | apply Drop.drop rfl | apply Drop.take rfl)); fail_if_success intros) rfl ?_; refine tr_drope [22] (by (repeat (first | exact Drop.nil | apply Drop.drop rfl | apply Drop.take rfl)); fail_if_success intros) ?_; refine s_callG rfl rfl (by (repeat (first | exact Evs.nil | apply Evs.cons rfl rfl)); fail_if_success intros) (by (repeat (first | exact ArgsE.nil | apply ArgsE.cons (ArgE.own rfl) | apply ArgsE.cons (ArgE.nils _) | apply ArgsE.cons (ArgE.same _))); fail_if_success intros) hst (by (repeat (first | exact Pures.nil | apply Pures.cons (Pure.d _) | apply Pures.cons (Pure.nils _))); fail_if_success intros) (ltd rfl) rfl rfl ?_; rintro _ _ ⟨rfl, rfl⟩; refine ⟨rfl, ?_⟩) | (refine tr_at 30 ?_; refine y_callE (hc := hosk) ?_) | (refine tr_at 31 ?_; refine z_append0 31 ?_) | (refine yyp ?_; (try refine s_bu ?_ ?_ <;> (intro hb; try simp only [decide_eq_true_eq, decide_eq_false_iff_not] at hb))) | (refine yy ?_) | (refine yy2 ?_ ?_ <;> (intro hcmp; try simp only [cmp] at hcmp)) | (refine at_call 16 ?_; refine y_call (hc := (hc)) ?_) | (refine at_append ?_; first | (refine z_append (fun kv => ?_)) | (refine z_append_suf (fun sx sp kv hsx hsp hsl => ?_))) | (refine at_nil ?_; refine z_nil [0, 1, 2, 3, 6, 7, 8, 9, 15] ?_) | (refine tr_two ?_ ?_) | (refine tr_mid ?_ ?_) | (refine tr_or ?_ ?_) | (refine tc_seq fun K hK => ?_) | (refine tc_at 5 ?_; refine z_draw [4, 10, 11] (linT [4, 12, 24, 28, 36, 1] (.two 2 (.mid 5 (lin [19, 34, 43, 47, 48, 52]) 4 (lin [21, 34, 43, 47, 48, 52])) 5 (lin [10, 19, 34, 43, 47, 48, 52]))) ?_) | (apply_assumption -exfalso -symm))); all_goals (try refine unhalt ?_))
    all_goals
      (refine tc_ret (y_ret ?_))
      simp [oneOf, Im.makeE, hcz, dBytes]
  · (refine y_enter Tryz.func11 Tryz.ntmps11 Tryz.results11 fun w M => ?_; simp only [slots, List.map_cons, List.map_nil, List.zipIdx_cons, List.zipIdx_nil, Nat.reduceAdd])
    ((repeat' (first | (refine tr_at 3 ?_; (refine z_box 3 ?_)) | (refine tr_at 22 ?_; (refine tr_keep [0, 1, 2, 3, 6, 7, 8, 9, 15, 20, 21, 22, 23, 24, 25, 26, 27, 28, 29, 30, 31] ?_); refine y_inline Tryz.func17 Tryz.ntmps17 Tryz.results17 fun tm sy => ?_; simp only [slots, shift, zipPs, List.nil_append, List.cons_append, List.append_nil, List.map_cons, List.map_nil, List.zipIdx_cons, List.zipIdx_nil, Nat.reduceAdd]; refine halt ?_) | (refine tr_at 31 ?_; refine z_append0 31 ?_) | (refine yyp ?_; (try refine s_bu ?_ ?_ <;> (intro hb; try simp only [decide_eq_true_eq, decide_eq_false_iff_not] at hb))) | (refine yy ?_) | (refine yy2 ?_ ?_ <;> (intro hcmp; try simp only [cmp] at hcmp)) | (refine at_call 16 ?_; refine y_call (hc := (hc)) ?_) | (refine at_append ?_; first | (refine z_append (fun kv => ?_)) | (refine z_append_suf (fun sx sp kv hsx hsp hsl => ?_))) | (refine at_nil ?_; refine z_nil [0, 1, 2, 3, 6, 7, 8, 9, 15] ?_) | (refine tr_two ?_ ?_) | (refine tr_mid ?_ ?_) | (refine tr_or ?_ ?_) | (refine tc_seq fun K hK => ?_) | (refine tc_at 5 ?_; refine z_draw [2, 11] (linT [4, 12, 24, 28, 36, 1] (.mid 5 (lin [11, 18, 34, 42, 47, 48, 52]) 2 (lin [21, 18, 34, 42, 47, 48, 52]))) ?_) | (apply_assumption -exfalso -symm))); all_goals (try refine unhalt ?_))
    (refine tc_ret (y_ret ?_))
    simp [oneOf, Im.makeE, *, dBytes]
end Go.Proofs.YtcblefmjacofgaaGreatDoor
