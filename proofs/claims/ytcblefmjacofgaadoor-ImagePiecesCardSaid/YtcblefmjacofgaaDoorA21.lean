/- Parts: H5. -/
import Derived.Test.YtcblefmjacofgaaDoorA20
set_option linter.all false
set_option linter.unusedVariables false
set_option linter.unusedSimpArgs false
namespace Go.Proofs.YtcblefmjacofgaaDoor
open Go.RowKit
namespace Im
def fw (l : List I.Cmd) (k : Nat) : List (List UInt8) := (l.filter fun c => c.k == 2 && lnk c == (k : Int)).map (·.b)
theorem fw_app (a b : List I.Cmd) (k : Nat) : fw (a ++ b) k = fw a k ++ fw b k := by
  unfold fw
  rw [List.filter_append, List.map_append]
theorem fw_cons (c : I.Cmd) (l : List I.Cmd) (k : Nat) : fw (c :: l) k = if c.k == 2 && lnk c == (k : Int) then c.b :: fw l k else fw l k := by
  unfold fw
  rw [List.filter_cons]
  split <;> rfl
theorem fw_other {l : List I.Cmd} (h : ∀ c ∈ l, c.k ≠ 2) (k : Nat) : fw l k = [] := by
  unfold fw
  rw [List.filter_eq_nil_iff.2 fun c hc => by have := h c hc; simp [this]]
  rfl
theorem fw_fwd (j : Nat) (b : List UInt8) (k : Nat) : fw (fwd j b) k = if j = k then pieces b else [] := by
  unfold fw
  split
  · rename_i h
    subst h
    have : (fwd j b).filter (fun c => c.k == 2 && lnk c == (j : Int)) = fwd j b := List.filter_eq_self.2 fun c hc => by
      obtain ⟨h1, h2, _⟩ := fwd_mem hc
      unfold lnk
      rw [h1, h2]
      simp
      omega
    rw [this]
    unfold fwd
    rw [List.map_map]
    exact List.map_id _
  · rename_i h
    have : (fwd j b).filter (fun c => c.k == 2 && lnk c == (k : Int)) = [] := List.filter_eq_nil_iff.2 fun c hc => by
      obtain ⟨h1, h2, _⟩ := fwd_mem hc
      unfold lnk
      rw [h1, h2]
      simp
      omega
    rw [this]
    rfl
theorem fw_fwds (g : Nat → List UInt8) : ∀ (ks : List Nat) (k : Nat), ks.Nodup → fw (ks.flatMap fun j => fwd j (g j)) k = if k ∈ ks then pieces (g k) else []
  | [], k, _ => by simp [fw]
  | j :: ks, k, hn => by
    obtain ⟨h1, h2⟩ := List.nodup_cons.1 hn
    rw [List.flatMap_cons, fw_app, fw_fwd, fw_fwds g ks k h2]
    by_cases h : j = k
    · subst h
      simp [h1]
    · have h' : ¬ k = j := fun e => h e.symm
      simp [h, h']
theorem cmds_cut {t : To.Topo} {size : Int} {l : List Obj} (h : To.May t) (n : Int) : ∃ a b : List I.Cmd, cmds t size l n = a ++ loadC l n :: b ∧ (∀ c ∈ a, c.k ≠ 1) ∧
    ∀ k ∈ To.kids t n, fw a k = pieces (load t l (child t n k)) ∧ fw (loadC l n :: b) k = pieces (start t size l (child t n k)) := by
  refine ⟨(To.kids t n).flatMap fun k => fwd k (tr t I.bootB (loadC l) 8 (child t n k)), part t [] (runC size l) 8 n, ?_, ?_, fun k hk => ⟨?_, ?_⟩⟩
  · unfold cmds part
    simp only [List.append_assoc, List.cons_append, List.nil_append]
  · intro c hc
    obtain ⟨k, _, hc⟩ := List.mem_flatMap.1 hc
    rw [(fwd_mem hc).1]
    decide
  · rw [fw_fwds _ _ _ (To.kids_nodup t _), if_pos hk, tr_kid h hk]
    rfl
  · rw [show loadC l n :: part t [] (runC size l) 8 n = [loadC l n] ++ part t [] (runC size l) 8 n from rfl, fw_app, fw_other (fun c hc => by rw [List.mem_singleton] at hc; subst hc; simp [loadC]), List.nil_append]
    unfold part
    rw [fw_app, fw_fwds _ _ _ (To.kids_nodup t _), if_pos hk, fw_other (l := [runC size l n]) (fun c hc => by rw [List.mem_singleton] at hc; subst hc; simp [runC]), List.append_nil, tr_kid h hk]
    rfl
end Im
theorem min_eq (n : Nat) : (if (n : Int) < 64 then (n : Int) else 64) = ((min 64 n : Nat) : Int) := by split <;> omega
attribute [local irreducible] TR TC
set_option maxRecDepth 100000 in
set_option maxHeartbeats 8000000 in
theorem cut_fn (gl : List (Nat × List D)) (L : List I.Cmd) (q : Nat) (hq4 : q < 4) (b : List UInt8) (hall : ∀ c ∈ L, I.mayC c = true ∧ c.Wf) (h : Im.fw L q = Im.pieces b) (hb : b.length ≤ 1000000000) :
    FnD Tryd.prog gl 26 [.d (.list 4 (L.map dCmd)), .d (.int .i64 (q : Nat)), .d (dBytes b)] (fun v => v = .d (.bool true)) := by
  unfold dBytes
  (refine y_enter Tryd.func26 Tryd.ntmps26 Tryd.results26 fun w M => ?_; simp only [slots, List.map_cons, List.map_nil, List.zipIdx_cons, List.zipIdx_nil, Nat.reduceAdd])
  refine tc_small 0 rfl fun hn => ?_
  rw [List.length_map] at hn
  ((repeat' (first | (refine z_alloc (d := 8) 8 ?_) | (refine yyp ?_; (try refine s_bu ?_ ?_ <;> (intro hb; try simp only [decide_eq_true_eq, decide_eq_false_iff_not] at hb))) | (refine yy ?_) | (refine yy2 ?_ ?_ <;> (intro hcmp; try simp only [cmp] at hcmp)) | (refine z_nil [0, 1, 2, 6, 8, 9, 10, 11, 12, 13, 27, 41] ?_) | (refine tc_seq fun K hK => ?_) | (refine z_draw (id := 6) [] (lin [0, 4, 8, 12, 20, 24, 28, 17, 34, 36, 40]) ?_) | (apply_assumption -exfalso -symm))); all_goals (try refine unhalt ?_))
  refine y_famx (ι := Nat × List UInt8) [2, 6, 8, 9, 12, 13, 14, 15, 16, 17, 18, 19, 20, 21, 22, 23, 24, 25, 26, 27, 28, 29, 30, 31, 32, 33, 34, 35, 36, 37, 38, 39, 40, 41, 42, 43, 44, 45] [] (fun y => [(12, .d (.int .i64 y.1)), (2, .d (.list 1 (y.2.map dByte)))]) (fun _ => []) (fun y => y.1 ≤ L.length ∧ Im.fw (L.drop y.1) q = Im.pieces y.2 ∧ y.2.length ≤ 1000000000) (fun y => L.length - y.1) (0, b) ⟨Nat.zero_le _, by rw [List.drop_zero]; exact h, hb⟩  fun ⟨y, r⟩ ⟨hy, hp, hrl⟩ => ?_
  dsimp only [List.cons_append, List.nil_append] at hy hp hrl ⊢
  rcases Nat.lt_or_ge y L.length with hyl | hyl
  · obtain ⟨hm1, hw2⟩ := hall _ (List.getElem_mem hyl)
    rw [List.drop_eq_getElem_cons hyl, Im.fw_cons] at hp
    by_cases hk2 : L[y].k = 2
    · obtain ⟨p, hp4, hc⟩ := Im.fwd_shape hm1 hw2 hk2
      rw [hc, Im.fwd_lnk] at hp
      generalize L[y].b = bs at *
      have hget3 : (L.map dCmd)[y]? = some (.agg [.int .u8 2, .int .i32 (-2147483648 + 4 * (p : Int)), .int .i32 0, .list 1 (bs.map dByte)]) := by rw [List.getElem?_map, List.getElem?_eq_getElem hyl, hc]; rfl
      by_cases hpq : p = q
      · subst hpq
        rw [if_pos (by simp)] at hp
        have hr0 : 0 < r.length := by
          rcases Nat.eq_zero_or_pos r.length with h0 | h0
          · rw [Im.pieces_nil h0] at hp; cases hp
          · exact h0
        rw [Im.pieces_step hr0] at hp
        obtain ⟨e1, e2⟩ := List.cons.inj hp
        have he : bs = r.take (min 64 r.length) := by
          rw [e1, List.take_eq_take_iff]
          omega
        have heq : FnD Tryd.prog gl 16 [.d (.list 1 (bs.map dByte)), .d (.list 1 (((r.map dByte).drop 0).take (min 64 r.length - 0)))] (fun v => v = .d (.bool true)) := by
          have := bytes_equal_fn gl bs (r.take (min 64 r.length))
          rw [decide_eq_true he] at this
          exact FnD.at this (by rw [slice_lo]; rfl)
        ((repeat' (first | (refine z_alloc (d := 8) 8 ?_) | (refine tc_at 6 ?_; refine halt ?_) | (refine yyp ?_; (try refine s_bu ?_ ?_ <;> (intro hb; try simp only [decide_eq_true_eq, decide_eq_false_iff_not] at hb))) | (refine yy ?_) | (refine yy2 ?_ ?_ <;> (intro hcmp; try simp only [cmp] at hcmp)) | (refine z_nil [0, 1, 2, 6, 8, 9, 10, 11, 12, 13, 27, 41] ?_) | (refine tc_seq fun K hK => ?_) | (apply_assumption -exfalso -symm))); all_goals (try refine unhalt ?_))
        rw [min_eq]
        ((repeat' (first | (refine z_alloc (d := 8) 8 ?_) | (refine yyp ?_; (try refine s_bu ?_ ?_ <;> (intro hb; try simp only [decide_eq_true_eq, decide_eq_false_iff_not] at hb))) | (refine yy ?_) | (refine yy2 ?_ ?_ <;> (intro hcmp; try simp only [cmp] at hcmp)) | (refine y_call (hc := (heq)) ?_; (try refine s_bu ?_ ?_ <;> (intro hb; try simp only [decide_eq_true_eq, decide_eq_false_iff_not] at hb))) | (refine z_nil [0, 1, 2, 6, 8, 9, 10, 11, 12, 13, 27, 41] ?_) | (refine tc_seq fun K hK => ?_) | (refine z_draw (id := 6) [] (lin [0, 4, 8, 12, 20, 24, 28, 17, 34, 36, 40]) ?_) | (apply_assumption -exfalso -symm))); all_goals (try refine unhalt ?_))
        refine ⟨(y + 1, r.drop (min 64 r.length)), ⟨by dsimp only; omega, ?_, by dsimp only; rw [List.length_drop]; omega⟩, by dsimp only; omega, ?_⟩
        · dsimp only
          rw [e2]
          rcases Nat.lt_or_ge r.length 64 with h6 | h6
          · rw [Im.pieces_nil (by rw [List.length_drop]; omega), Im.pieces_nil (by rw [List.length_drop]; omega)]
          · rw [Nat.min_eq_left h6]
        · dsimp only
          rw [slice_all]
          exact y_wk
      · rw [if_neg (by simp; omega)] at hp
        ((repeat' (first | (refine z_alloc (d := 8) 8 ?_) | (refine yyp ?_; (try refine s_bu ?_ ?_ <;> (intro hb; try simp only [decide_eq_true_eq, decide_eq_false_iff_not] at hb))) | (refine yy ?_) | (refine yy2 ?_ ?_ <;> (intro hcmp; try simp only [cmp] at hcmp)) | (refine z_nil [0, 1, 2, 6, 8, 9, 10, 11, 12, 13, 27, 41] ?_) | (refine tc_seq fun K hK => ?_) | (refine z_draw (id := 6) [] (lin [0, 4, 8, 12, 20, 24, 28, 17, 34, 36, 40]) ?_) | (apply_assumption -exfalso -symm))); all_goals (try refine unhalt ?_))
        exact ⟨(y + 1, r), ⟨by dsimp only; omega, hp, hrl⟩, by dsimp only; omega, y_wk⟩
    · have hkk : (L[y].k == 2) = false := by simpa using hk2
      rw [hkk, Bool.false_and, if_neg Bool.false_ne_true] at hp
      have hget3 : (L.map dCmd)[y]? = some (dCmd L[y]) := by rw [List.getElem?_map, List.getElem?_eq_getElem hyl]; rfl
      ((repeat' (first | (refine z_alloc (d := 8) 8 ?_) | (refine yyp ?_; (try refine s_bu ?_ ?_ <;> (intro hb; try simp only [decide_eq_true_eq, decide_eq_false_iff_not] at hb))) | (refine yy ?_) | (refine yy2 ?_ ?_ <;> (intro hcmp; try simp only [cmp] at hcmp)) | (refine z_nil [0, 1, 2, 6, 8, 9, 10, 11, 12, 13, 27, 41] ?_) | (refine tc_seq fun K hK => ?_) | (refine z_draw (id := 6) [] (lin [0, 4, 8, 12, 20, 24, 28, 17, 34, 36, 40]) ?_) | (apply_assumption -exfalso -symm))); all_goals (try refine unhalt ?_))
      exact ⟨(y + 1, r), ⟨by dsimp only; omega, hp, hrl⟩, by dsimp only; omega, y_wk⟩
  · rw [List.drop_of_length_le hyl] at hp
    have hr0 : r.length = 0 := by
      rcases Nat.eq_zero_or_pos r.length with h0 | h0
      · exact h0
      · rw [Im.pieces_step h0] at hp; cases hp
    ((repeat' (first | (refine z_alloc (d := 8) 8 ?_) | (refine yyp ?_; (try refine s_bu ?_ ?_ <;> (intro hb; try simp only [decide_eq_true_eq, decide_eq_false_iff_not] at hb))) | (refine yy ?_) | (refine yy2 ?_ ?_ <;> (intro hcmp; try simp only [cmp] at hcmp)) | (refine z_nil [0, 1, 2, 6, 8, 9, 10, 11, 12, 13, 27, 41] ?_) | (refine tc_seq fun K hK => ?_) | (refine z_draw (id := 6) [] (lin [0, 4, 8, 12, 20, 24, 28, 17, 34, 36, 40]) ?_) | (apply_assumption -exfalso -symm))); all_goals (try refine unhalt ?_))
    all_goals first | (exfalso; omega) | ((refine tc_ret (y_ret ?_)); simp [oneOf])
set_option maxRecDepth 100000 in
set_option maxHeartbeats 4000000 in
theorem isload_fn (gl : List (Nat × List D)) (c : I.Cmd) : FnE Tryd.prog gl 23 [.d (dCmd c)] [] (fun v H1 => v = .d (.bool (decide (c.k = 1))) ∧ H1 = []) := by
  unfold dCmd
  (refine y_entere Tryd.func23 Tryd.ntmps23 Tryd.results23 fun w M E b0 => ?_; simp only [slots, List.map_cons, List.map_nil, List.zipIdx_cons, List.zipIdx_nil, Nat.reduceAdd])
  ((repeat' (first | (refine z_box (d := 1) 1 ?_) | (refine yyp ?_; (try refine s_bu ?_ ?_ <;> (intro hb; try simp only [decide_eq_true_eq, decide_eq_false_iff_not] at hb))) | (refine yy ?_) | (refine yy2 ?_ ?_ <;> (intro hcmp; try simp only [cmp] at hcmp)) | (refine z_nil [0, 1, 2, 3, 4, 5] ?_) | (refine tc_seq fun K hK => ?_) | (apply_assumption -exfalso -symm))); all_goals (try refine unhalt ?_))
  all_goals
    (refine tc_ret (y_rete ⟨?_, rfl⟩))
    simp only [oneOf, V.d.injEq, D.bool.injEq, true_eq_decide_iff, false_eq_decide_iff]
    omega
set_option maxRecDepth 100000 in
set_option maxHeartbeats 4000000 in
theorem indexLoad_fn (gl : List (Nat × List D)) (a : List I.Cmd) (x : I.Cmd) (b : List I.Cmd) (ha : ∀ c ∈ a, c.k ≠ 1) (hx : x.k = 1) :
    FnD Tryd.prog gl 22 [.d (.list 4 ((a ++ x :: b).map dCmd)), .clo (.func 23) [] []] (fun v => v = .d (.int .i64 (a.length : Nat))) := by
  generalize hL : a ++ x :: b = L
  have hl : a.length < L.length := by rw [← hL, List.length_append, List.length_cons]; omega
  have hax : L[a.length] = x := by simp [← hL]
  have hlt : ∀ k (h : k < L.length), k < a.length → L[k].k ≠ 1 := fun k h hk => by
    have : L[k] = a[k] := by simp only [← hL]; exact List.getElem_append_left hk
    rw [this]
    exact ha _ (List.getElem_mem hk)
  (refine y_enter Tryd.func22 Tryd.ntmps22 Tryd.results22 fun w M => ?_; simp only [slots, List.map_cons, List.map_nil, List.zipIdx_cons, List.zipIdx_nil, Nat.reduceAdd])
  refine tc_small 0 rfl fun hn => ?_
  rw [List.length_map] at hn
  ((repeat' (first | (refine yyp ?_; (try refine s_bu ?_ ?_ <;> (intro hb; try simp only [decide_eq_true_eq, decide_eq_false_iff_not] at hb))) | (refine yy ?_) | (refine yy2 ?_ ?_ <;> (intro hcmp; try simp only [cmp] at hcmp)) | (refine z_nil [0, 1, 4, 5, 6, 7, 8, 9, 16] ?_) | (refine tc_seq fun K hK => ?_) | (apply_assumption -exfalso -symm))); all_goals (try refine unhalt ?_))
  refine y_famx [4, 5, 8, 9, 10, 11, 12, 13, 14, 15, 16, 17, 18] [] (fun y : Nat => [(8, .d (.int .i64 y))]) (fun _ => []) (fun y => y ≤ a.length) (fun y => L.length - y) 0 (Nat.zero_le _)  fun y hy => ?_
  dsimp only [List.cons_append, List.nil_append] at hy ⊢
  have hyl : y < L.length := by omega
  have hf := isload_fn gl L[y]
  have hget : (L.map dCmd)[y]? = some (dCmd L[y]) := by rw [List.getElem?_map, List.getElem?_eq_getElem hyl]; rfl
  rcases Nat.lt_or_ge y a.length with hya | hya
  · rw [decide_eq_false (hlt y hyl hya)] at hf
    ((repeat' (first | (refine tr_at 16 ?_; refine y_callE (hc := hf) ?_; (try refine s_bu ?_ ?_ <;> (intro hb; try simp only [decide_eq_true_eq, decide_eq_false_iff_not] at hb))) | (refine yyp ?_; (try refine s_bu ?_ ?_ <;> (intro hb; try simp only [decide_eq_true_eq, decide_eq_false_iff_not] at hb))) | (refine yy ?_) | (refine yy2 ?_ ?_ <;> (intro hcmp; try simp only [cmp] at hcmp)) | (refine z_nil [0, 1, 4, 5, 6, 7, 8, 9, 16] ?_) | (refine tc_seq fun K hK => ?_) | (apply_assumption -exfalso -symm))); all_goals (try refine unhalt ?_))
    exact ⟨y + 1, by omega, by omega, y_wk⟩
  · have : y = a.length := by omega
    subst this
    rw [hax, decide_eq_true hx] at hf
    rw [hax] at hget
    ((repeat' (first | (refine tr_at 16 ?_; refine y_callE (hc := hf) ?_; (try refine s_bu ?_ ?_ <;> (intro hb; try simp only [decide_eq_true_eq, decide_eq_false_iff_not] at hb))) | (refine yyp ?_; (try refine s_bu ?_ ?_ <;> (intro hb; try simp only [decide_eq_true_eq, decide_eq_false_iff_not] at hb))) | (refine yy ?_) | (refine yy2 ?_ ?_ <;> (intro hcmp; try simp only [cmp] at hcmp)) | (refine z_nil [0, 1, 4, 5, 6, 7, 8, 9, 16] ?_) | (refine tc_seq fun K hK => ?_) | (apply_assumption -exfalso -symm))); all_goals (try refine unhalt ?_))
    (refine tc_ret (y_ret ?_))
    rfl
set_option maxRecDepth 100000 in
set_option maxHeartbeats 8000000 in
theorem pieces_fn (t : To.Topo) (size : Int) (l : List Im.Obj) : FnD Tryd.prog glT 7 [.d (dTopo t), .d (.int .i64 size), .d (.list 4 (l.map dObj))] (fun v => v = .d (.bool true)) := by
  have hgr := great_fn glT l
  cases hg : Im.great l with
  | true =>
    rw [hg] at hgr
    unfold dTopo
    (refine y_enter Tryd.func7 Tryd.ntmps7 Tryd.results7 fun w M => ?_; simp only [slots, List.map_cons, List.map_nil, List.zipIdx_cons, List.zipIdx_nil, Nat.reduceAdd])
    ((repeat' (first | (refine z_box (d := 3) 3 ?_) | (refine z_alloc (d := 17) 17 ?_) | (refine yyp ?_; (try refine s_bu ?_ ?_ <;> (intro hb; try simp only [decide_eq_true_eq, decide_eq_false_iff_not] at hb))) | (refine yy ?_) | (refine yy2 ?_ ?_ <;> (intro hcmp; try simp only [cmp] at hcmp)) | (refine y_call (hc := (hgr)) ?_; (try refine s_bu ?_ ?_ <;> (intro hb; try simp only [decide_eq_true_eq, decide_eq_false_iff_not] at hb))) | (refine y_call (hc := (awake_fn)) ?_; (try refine s_bu ?_ ?_ <;> (intro hb; try simp only [decide_eq_true_eq, decide_eq_false_iff_not] at hb))) | (refine z_nil [0, 1, 2, 3, 6, 7, 8, 9, 11, 12, 13, 16, 17, 19, 20, 21, 22, 24, 34, 43, 44, 45, 53, 60, 61, 62, 63, 121] ?_) | (refine tc_seq fun K hK => ?_) | (apply_assumption -exfalso -symm))); all_goals (try refine unhalt ?_))
    (refine tc_ret (y_ret ?_))
    rfl
  | false =>
    rw [hg] at hgr
    have hl12 := Im.great_len hg
    have hmk := Make_fn t size l (by omega)
    by_cases hc : Im.check t 0 size l = 0
    · have hfine := Im.fine_of hc
      have hmay := hfine.may
      have hmke : Im.makeE t size l = (Im.load t l t.host.node ++ Im.start t size l t.host.node, 0) := by unfold Im.makeE; rw [if_pos hc]
      rw [hmke] at hmk
      have hl1 := Im.tr_len t I.bootB (Im.loadC l) (by decide) 9 t.host.node
      have hl2 := Im.tr_len t [] (Im.runC size l) (by decide) 9 t.host.node
      have hsp := Split_fn t (Im.load t l t.host.node ++ Im.start t size l t.host.node) (by rw [List.length_append]; unfold Im.load Im.start; omega)
      rw [Im.split_make hc] at hsp
      generalize Im.load t l t.host.node ++ Im.start t size l t.host.node = img at hmk hsp
      have hn := hmay.sound.n
      have hcs : ∀ i : Nat, (i : Int) < t.nodes → ((List.range t.nodes.toNat).map fun (i : Nat) => Im.cmds t size l i)[i]? = some (Im.cmds t size l i) := fun i hi => by
        rw [List.getElem?_map, List.getElem?_range (by omega)]; rfl
      have hcl : ((List.range t.nodes.toNat).map fun (i : Nat) => Im.cmds t size l i).length = t.nodes.toNat := by rw [List.length_map, List.length_range]
      generalize ((List.range t.nodes.toNat).map fun (i : Nat) => Im.cmds t size l i) = cs at hsp hcs hcl
      have hcf := Im.cmds_fit hfine
      have hC : ∀ i : Nat, (i : Int) < t.nodes → FnD Tryd.prog glT 20 [.d (dTopo t), .d (.int .i64 (i : Int))] (fun v => v = .tup [.d (.list 1 ((To.kids t (i : Int)).map dInt)), .d (.int .i64 0)]) := fun i hi => by
        have := tchildren_fn glT t (i : Int)
        unfold To.children at this
        rw [if_pos hmay, if_neg (by omega)] at this
        exact this
      have hP : ∀ (i : Nat) k, k ∈ To.kids t (i : Int) → ∃ lk, FnD Tryd.prog glT 21 [.d (dTopo t), .d (.agg [.int .i64 (i : Int), .int .i64 (k : Nat)])] (fun v => v = .tup [.d (.agg [.int .i64 (Im.child t (i : Int) k), .int .i64 lk]), .d (.bool true)]) := fun i k hk => by
        have := tpeer_fn glT t ⟨(i : Int), (k : Nat)⟩
        have hk' := (List.mem_filter.1 hk).2
        unfold To.kid at hk'
        simp only [Bool.and_eq_true] at hk'
        rw [if_pos hmay, hk'.1, decide_eq_true hmay] at this
        exact ⟨_, this⟩
      have hch : ∀ (i : Nat) k, k ∈ To.kids t (i : Int) → Im.check t (Im.child t (i : Int) k) size l = 0 := fun i k hk => by
        obtain ⟨h0, h1⟩ := Im.kids_range hmay hk
        obtain ⟨j, hj, e⟩ := Im.place hmay h0 h1
        rw [← e] at hk ⊢
        obtain ⟨j', _, hj', e'⟩ := Im.child_at hmay hj hk
        have hr := (To.order_good hmay.sound).range _ (List.getElem_mem hj')
        unfold To.inR at hr
        rw [e'] at hr
        unfold Im.check
        rw [if_neg (fun h => h ⟨hmay, hfine.mem, hfine.len, hfine.objs⟩), if_neg (by omega), if_neg (fun h => h hfine.fit)]
      have hLd : ∀ (i : Nat) k, k ∈ To.kids t (i : Int) → FnD Tryd.prog glT 24 [.d (dTopo t), .d (.int .i64 (Im.child t (i : Int) k)), .d (.int .i64 size), .d (.list 4 (l.map dObj))] (fun v => v = .tup [.d (dBytes (Im.load t l (Im.child t (i : Int) k))), .d (.int .i64 0)]) := fun i k hk => by
        have := Load_fn t (Im.child t (i : Int) k) size l (by omega)
        unfold Im.loadE at this
        rw [if_pos (hch i k hk)] at this
        exact this
      have hSt : ∀ (i : Nat) k, k ∈ To.kids t (i : Int) → FnD Tryd.prog glT 25 [.d (dTopo t), .d (.int .i64 (Im.child t (i : Int) k)), .d (.int .i64 size), .d (.list 4 (l.map dObj))] (fun v => v = .tup [.d (dBytes (Im.start t size l (Im.child t (i : Int) k))), .d (.int .i64 0)]) := fun i k hk => by
        have := Start_fn glT t (Im.child t (i : Int) k) size l (by omega)
        unfold Im.startE at this
        rw [if_pos (hch i k hk)] at this
        exact this
      have hkl := fun i : Nat => Im.kids_len t (i : Int)
      have hk4 := fun (i : Nat) k (h : k ∈ To.kids t (i : Int)) => Im.kids_lt h
      have htl := fun (i : Nat) k => Im.tr_len t I.bootB (Im.loadC l) (by decide) 9 (Im.child t (i : Int) k)
      have hts := fun (i : Nat) k => Im.tr_len t [] (Im.runC size l) (by decide) 9 (Im.child t (i : Int) k)
      unfold dTopo at hmk hsp hC hP hLd hSt ⊢
      (refine y_enter Tryd.func7 Tryd.ntmps7 Tryd.results7 fun w M => ?_; simp only [slots, List.map_cons, List.map_nil, List.zipIdx_cons, List.zipIdx_nil, Nat.reduceAdd])
      ((repeat' (first | (refine z_box (d := 3) 3 ?_) | (refine z_alloc (d := 17) 17 ?_) | (refine yyp ?_; (try refine s_bu ?_ ?_ <;> (intro hb; try simp only [decide_eq_true_eq, decide_eq_false_iff_not] at hb))) | (refine yy ?_) | (refine yy2 ?_ ?_ <;> (intro hcmp; try simp only [cmp] at hcmp)) | (refine y_call (hc := (hgr)) ?_; (try refine s_bu ?_ ?_ <;> (intro hb; try simp only [decide_eq_true_eq, decide_eq_false_iff_not] at hb))) | (refine y_call (hc := (hmk)) ?_) | (refine y_call (hc := (hsp)) ?_) | (refine z_nil [0, 1, 2, 3, 6, 7, 8, 9, 11, 12, 13, 16, 17, 19, 20, 21, 22, 24, 34, 43, 44, 45, 53, 60, 61, 62, 63, 121] ?_) | (refine tc_seq fun K hK => ?_) | (apply_assumption -exfalso -symm))); all_goals (try refine unhalt ?_))
      refine y_famx [6, 11, 12, 13, 14, 16, 17, 18, 19, 20, 21, 22, 44, 45, 46, 47, 48, 49, 50, 51, 52, 53, 54, 55, 56, 57, 58, 59, 60, 61, 62, 63, 64, 65, 66, 67, 68, 69, 70, 71, 72, 73, 74, 75, 76, 77, 78, 79, 80, 81, 82, 83, 84, 85, 86, 87, 88, 89, 90, 91, 92, 93, 94, 95, 96, 97, 98, 99, 100, 101, 102, 103, 104, 105, 106, 107, 108, 109, 110, 111, 112, 113, 114, 115, 116, 117, 118, 119, 120, 121, 122, 123] [] (fun i : Nat => [(44, .d (.int .i64 i))]) (fun _ => []) (fun i => i ≤ cs.length) (fun i => cs.length - i) 0 (Nat.zero_le _)  fun i hi => ?_
      dsimp only [List.cons_append, List.nil_append] at hi ⊢
      rcases Nat.lt_or_ge i cs.length with hil | hil
      · have hin : (i : Int) < t.nodes := by omega
        obtain ⟨a, r, hcut, ha, hfw⟩ := Im.cmds_cut (t := t) (size := size) (l := l) hmay (i : Int)
        have hcsi := hcs i hin
        have hprog := (hcf.prog (i : Int)).1
        rw [hcut] at hcsi hprog
        have hidx := indexLoad_fn glT a (Im.loadC l (i : Int)) r ha rfl
        generalize Im.loadC l (i : Int) = x at hcsi hprog hidx hfw
        have hget2 : (cs.map dOut)[i]? = some (.list 4 ((a ++ x :: r).map dCmd)) := by rw [List.getElem?_map, hcsi]; rfl
        have hCi := hC i hin
        have hPi := hP i
        have hLi := hLd i
        have hSi := hSt i
        have hkli := hkl i
        have hk4i := hk4 i
        have htli := htl i
        have htsi := hts i
        have hcutA : ∀ k ∈ To.kids t (i : Int), FnD Tryd.prog glT 26 [.d (.list 4 ((((a ++ x :: r).map dCmd).drop 0).take (a.length - 0))), .d (.int .i64 (k : Nat)), .d (dBytes (Im.load t l (Im.child t (i : Int) k)))] (fun v => v = .d (.bool true)) := fun k hk => by
          have := cut_fn glT a k (hk4i k hk) _ (fun c hc => hprog c (List.mem_append_left _ hc)) (hfw k hk).1 (by have := htli k; unfold Im.load; omega)
          exact FnD.at this (by rw [slice_lo, List.take_left' rfl])
        have hcutB : ∀ k ∈ To.kids t (i : Int), FnD Tryd.prog glT 26 [.d (.list 4 ((((a ++ x :: r).map dCmd).drop a.length).take (((a ++ x :: r).map dCmd).length - a.length))), .d (.int .i64 (k : Nat)), .d (dBytes (Im.start t size l (Im.child t (i : Int) k)))] (fun v => v = .d (.bool true)) := fun k hk => by
          have := cut_fn glT (x :: r) k (hk4i k hk) _ (fun c hc => hprog c (List.mem_append_right _ hc)) (hfw k hk).2 (by have := htsi k; unfold Im.start; omega)
          exact FnD.at this (by rw [slice_all, List.drop_left' rfl])
        have hal : a.length < ((a ++ x :: r).map dCmd).length := by rw [List.length_map, List.length_append, List.length_cons]; omega
        generalize (a ++ x :: r).map dCmd = Ld at *
        generalize To.kids t (i : Int) = ks at *
        ((repeat' (first | (refine z_box (d := 3) 3 ?_) | (refine z_alloc (d := 17) 17 ?_) | (refine yyp ?_; (try refine s_bu ?_ ?_ <;> (intro hb; try simp only [decide_eq_true_eq, decide_eq_false_iff_not] at hb))) | (refine yy ?_) | (refine yy2 ?_ ?_ <;> (intro hcmp; try simp only [cmp] at hcmp)) | (refine y_call (hc := (hidx)) ?_) | (refine y_call (hc := (hCi)) ?_) | (refine z_nil [0, 1, 2, 3, 6, 7, 8, 9, 11, 12, 13, 16, 17, 19, 20, 21, 22, 24, 34, 43, 44, 45, 53, 60, 61, 62, 63, 121] ?_) | (refine tc_seq fun K hK => ?_) | (apply_assumption -exfalso -symm))); all_goals (try refine unhalt ?_))
        refine y_famx [6, 16, 17, 18, 19, 20, 21, 22, 62, 63, 64, 65, 66, 67, 68, 69, 70, 71, 72, 73, 74, 75, 76, 77, 78, 79, 80, 81, 82, 83, 84, 85, 86, 87, 88, 89, 90, 91, 92, 93, 94, 95, 96, 97, 98, 99, 100, 101, 102, 103, 104, 105, 106, 107, 108, 109, 110, 111, 112, 113, 114, 115, 116, 117, 118, 119, 120, 121, 122] [] (fun j : Nat => [(62, .d (.int .i64 j))]) (fun _ => []) (fun j => j ≤ ks.length) (fun j => ks.length - j) 0 (Nat.zero_le _)  fun j hj => ?_
        dsimp only [List.cons_append, List.nil_append] at hj ⊢
        rcases Nat.lt_or_ge j ks.length with hjl | hjl
        · have hkm := List.getElem_mem hjl
          obtain ⟨lk, hPk⟩ := hPi _ hkm
          have hLk := hLi _ hkm
          have hSk := hSi _ hkm
          have hA := hcutA _ hkm
          have hB := hcutB _ hkm
          have hgetk : (ks.map dInt)[j]? = some (.int .i64 (ks[j] : Nat)) := by rw [List.getElem?_map, List.getElem?_eq_getElem hjl]; rfl
          generalize ks[j] = q at *
          ((repeat' (first | (refine z_box (d := 3) 3 ?_) | (refine z_alloc (d := 17) 17 ?_) | (refine tr_at 107 ?_; refine z_call (hc := hA) ?_; rintro _ rfl) | (refine tr_at 119 ?_; refine z_call (hc := hB) ?_; rintro _ rfl) | (refine yyp ?_; (try refine s_bu ?_ ?_ <;> (intro hb; try simp only [decide_eq_true_eq, decide_eq_false_iff_not] at hb))) | (refine yy ?_) | (refine yy2 ?_ ?_ <;> (intro hcmp; try simp only [cmp] at hcmp)) | (refine y_call (hc := (hPk)) ?_) | (refine y_call (hc := (hLk)) ?_) | (refine y_call (hc := (hSk)) ?_) | (refine z_nil [0, 1, 2, 3, 6, 7, 8, 9, 11, 12, 13, 16, 17, 19, 20, 21, 22, 24, 34, 43, 44, 45, 53, 60, 61, 62, 63, 121] ?_) | (refine tc_seq fun K hK => ?_) | (apply_assumption -exfalso -symm))); all_goals (try refine unhalt ?_))
          exact ⟨j + 1, by omega, by omega, y_wk⟩
        · ((repeat' (first | (refine z_box (d := 3) 3 ?_) | (refine z_alloc (d := 17) 17 ?_) | (refine yyp ?_; (try refine s_bu ?_ ?_ <;> (intro hb; try simp only [decide_eq_true_eq, decide_eq_false_iff_not] at hb))) | (refine yy ?_) | (refine yy2 ?_ ?_ <;> (intro hcmp; try simp only [cmp] at hcmp)) | (refine z_nil [0, 1, 2, 3, 6, 7, 8, 9, 11, 12, 13, 16, 17, 19, 20, 21, 22, 24, 34, 43, 44, 45, 53, 60, 61, 62, 63, 121] ?_) | (refine tc_seq fun K hK => ?_) | (apply_assumption -exfalso -symm))); all_goals (try refine unhalt ?_))
          exact ⟨i + 1, by omega, by omega, y_wk⟩
      · ((repeat' (first | (refine z_box (d := 3) 3 ?_) | (refine z_alloc (d := 17) 17 ?_) | (refine yyp ?_; (try refine s_bu ?_ ?_ <;> (intro hb; try simp only [decide_eq_true_eq, decide_eq_false_iff_not] at hb))) | (refine yy ?_) | (refine yy2 ?_ ?_ <;> (intro hcmp; try simp only [cmp] at hcmp)) | (refine y_call (hc := (awake_fn)) ?_; (try refine s_bu ?_ ?_ <;> (intro hb; try simp only [decide_eq_true_eq, decide_eq_false_iff_not] at hb))) | (refine z_nil [0, 1, 2, 3, 6, 7, 8, 9, 11, 12, 13, 16, 17, 19, 20, 21, 22, 24, 34, 43, 44, 45, 53, 60, 61, 62, 63, 121] ?_) | (refine tc_seq fun K hK => ?_) | (apply_assumption -exfalso -symm))); all_goals (try refine unhalt ?_))
        (refine tc_ret (y_ret ?_))
        rfl
    · have hmke : Im.makeE t size l = ([], Im.check t 0 size l) := by unfold Im.makeE; rw [if_neg hc]
      rw [hmke] at hmk
      unfold dTopo at hmk ⊢
      (refine y_enter Tryd.func7 Tryd.ntmps7 Tryd.results7 fun w M => ?_; simp only [slots, List.map_cons, List.map_nil, List.zipIdx_cons, List.zipIdx_nil, Nat.reduceAdd])
      ((repeat' (first | (refine z_box (d := 3) 3 ?_) | (refine z_alloc (d := 17) 17 ?_) | (refine yyp ?_; (try refine s_bu ?_ ?_ <;> (intro hb; try simp only [decide_eq_true_eq, decide_eq_false_iff_not] at hb))) | (refine yy ?_) | (refine yy2 ?_ ?_ <;> (intro hcmp; try simp only [cmp] at hcmp)) | (refine y_call (hc := (hgr)) ?_; (try refine s_bu ?_ ?_ <;> (intro hb; try simp only [decide_eq_true_eq, decide_eq_false_iff_not] at hb))) | (refine y_call (hc := (awake_fn)) ?_; (try refine s_bu ?_ ?_ <;> (intro hb; try simp only [decide_eq_true_eq, decide_eq_false_iff_not] at hb))) | (refine y_call (hc := (hmk)) ?_) | (refine z_nil [0, 1, 2, 3, 6, 7, 8, 9, 11, 12, 13, 16, 17, 19, 20, 21, 22, 24, 34, 43, 44, 45, 53, 60, 61, 62, 63, 121] ?_) | (refine tc_seq fun K hK => ?_) | (apply_assumption -exfalso -symm))); all_goals (try refine unhalt ?_))
      all_goals first | (exfalso; omega) | ((refine tc_ret (y_ret ?_)); rfl)
end Go.Proofs.YtcblefmjacofgaaDoor
