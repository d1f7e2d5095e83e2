/- Parts: F5, E2, E3, E4, E5, F6, D45, D46, D42. -/
import Derived.Test.YtjhbglklcddekaaGreatDoorQ18
import Derived.Test.YtjhbglklcddekaaGreatDoorQ14
import Derived.Test.YtjhbglklcddekaaGreatDoorQ17
import Derived.ChangeKeysEq
set_option linter.all false
set_option maxRecDepth 100000
set_option maxHeartbeats 16000000
namespace Go.Proofs.YtjhbglklcddekaaGreatDoor
open Go.RowKit Go.Proofs.Tryz
section
def qf5_0 : List Nat := [0, 2, 3, 4, 5, 6, 14, 15]
def qf5_1 : List Nat := [0, 1, 3, 4, 5, 6, 7, 24, 32, 33, 34, 57]
def qf5_2 : Plan := lin [1, 8, 5, 12]
def qf5_3 : Plan := lin [16, 20, 24, 32, 1, 4, 8, 13, 29, 36, 41, 44, 48, 52, 58, 63, 64]
namespace To
def treeL (t : Topo) : List Int := (order t).foldl (fun l p => l.set p.node.toNat p.link) (List.replicate t.nodes.toNat 0)
theorem Joins.sound {t : Topo} (h : Joins t) : Sound t := sound_of h.1 h.2.1 h.2.2.1 h.2.2.2.1
end To
def dL (n : Int) : D := .int .i64 n
def foundV (l : List To.Port) : List V := (List.range 8).map fun (j : Nat) => .d (.bool (l.any fun x => x.node == (j : Int)))
theorem foundV_len (l : List To.Port) : (foundV l).length = 8 := by simp [foundV]
theorem found_get (l : List To.Port) (n : Int) (h0 : 0 ≤ n) (h8 : n < 8) : (foundV l)[0 + n.toNat * 1]? = some (.d (.bool (l.any fun x => x.node == n))) := by
  have : n.toNat < 8 := by omega
  simp only [foundV, Nat.zero_add, Nat.mul_one]
  rw [List.getElem?_map, List.getElem?_range this]
  simp only [Option.map_some]
  rw [Int.toNat_of_nonneg h0]
theorem found_set (l : List To.Port) (q : To.Port) (h0 : 0 ≤ q.node) (h8 : q.node < 8) : (foundV l).set (0 + q.node.toNat * 1) (.d (.bool true)) = foundV (l ++ [q]) := by
  apply List.ext_getElem?
  intro j
  simp only [foundV, Nat.zero_add, Nat.mul_one, List.getElem?_set, List.getElem?_map, List.length_map, List.length_range]
  by_cases hj : j < 8
  · rw [List.getElem?_range hj]
    simp only [Option.map_some, List.any_append, List.any_cons, List.any_nil, Bool.or_false]
    by_cases e : q.node.toNat = j
    · subst e
      rw [if_pos rfl, if_pos (by omega)]
      have : (q.node == ((q.node.toNat : Nat) : Int)) = true := by rw [Int.toNat_of_nonneg h0]; simp
      rw [this, Bool.or_true]
    · rw [if_neg e]
      have : (q.node == (j : Int)) = false := by
        cases hb : q.node == (j : Int) with
        | false => rfl
        | true => have := eq_of_beq hb; omega
      rw [this, Bool.or_false]
  · rw [List.getElem?_eq_none (by simp; omega)]
    by_cases e : q.node.toNat = j
    · omega
    · rw [if_neg e]; rfl
theorem any_all (l : List To.Port) (n : Int) : (l.all fun x => x.node != n) = !(l.any fun x => x.node == n) := by
  induction l with
  | nil => rfl
  | cons x l ih => rw [List.all_cons, List.any_cons, Bool.not_or, ih]; rfl
namespace To
theorem look_peer {t : Topo} {p q : Port} (h : lookP (pairs t.wires) p = some q) : peer t.wires p = some q := by rw [← lookP_pairs]; exact h
theorem look_rng {t : Topo} (hs : Sound t) {p q : Port} (h : lookP (pairs t.wires) p = some q) : 0 ≤ q.node ∧ q.node < 8 ∧ q.node < t.nodes := by
  have := peer_range hs.wires (look_peer h)
  have := hs.n
  unfold inR at *
  omega
theorem meet_new {ws : List Wire} {l : List Port} {p q : Port} (h : peer ws p = some q) (hb : (l.any fun x => x.node == q.node) = false) : meet ws l p = l ++ [q] := by
  unfold meet
  rw [h]
  dsimp only
  rw [any_all, hb]
  rfl
theorem meet_old {ws : List Wire} {l : List Port} {p q : Port} (h : peer ws p = some q) (hb : (l.any fun x => x.node == q.node) = true) : meet ws l p = l := by
  unfold meet
  rw [h]
  dsimp only
  rw [any_all, hb]
  rfl
theorem meet_none {ws : List Wire} {l : List Port} {p : Port} (h : peer ws p = none) : meet ws l p = l := by
  unfold meet
  rw [h]
def treeK (n : Nat) (l : List Port) : List Int := l.foldl (fun l p => l.set p.node.toNat p.link) (List.replicate n 0)
theorem treeK_len (n : Nat) (l : List Port) : (treeK n l).length = n := by
  unfold treeK
  have : ∀ (l : List Port) (a : List Int), (l.foldl (fun l p => l.set p.node.toNat p.link) a).length = a.length := by
    intro l
    induction l with
    | nil => intro a; rfl
    | cons x l ih => intro a; rw [List.foldl_cons, ih, List.length_set]
  rw [this, List.length_replicate]
theorem treeK_snoc (n : Nat) (l : List Port) (p : Port) : treeK n (l ++ [p]) = (treeK n l).set p.node.toNat p.link := by
  unfold treeK
  rw [List.foldl_append]
  rfl
end To
theorem dL_set (l : List Int) (i : Nat) (x : Int) : (l.map dL).set i (.int .i64 x) = (l.set i x).map dL := by
  rw [List.map_set]; rfl
theorem drop_head {xs : List D} {l : List To.Port} {p i : Nat} (h : xs.drop p = (l.drop i).map dPort) (hi : i < l.length) : xs[p]? = some (dPort l[i]) := by
  have := congrArg (fun l => l[0]?) h
  simp only [List.getElem?_drop, List.getElem?_map, Nat.add_zero] at this
  rw [this, List.getElem?_eq_getElem hi]
  rfl
theorem drop_step {xs : List D} {l : List To.Port} {p i : Nat} (h : xs.drop p = (l.drop i).map dPort) : xs.drop (p + 1) = (l.drop (i + 1)).map dPort := by
  have := congrArg (fun l => l.drop 1) h
  simpa only [List.drop_drop, ← List.map_drop] using this
theorem drop_lens {xs : List D} {l : List To.Port} {p i : Nat} (h : xs.drop p = (l.drop i).map dPort) : xs.length - p = l.length - i := by
  have := congrArg List.length h
  simpa using this
attribute [local irreducible] TR TC
theorem tree_fn (gl : List (Nat × List D)) (t : To.Topo) (hj : To.Joins t) : FnD prog gl 129 [.d (dGraph t)] (fun v => v = .tup [.d (.list 1 ((To.treeL t).map dL)), .d (.int .i64 (To.order t).length)]) := by
  have hs := hj.sound
  have hn0 := hs.n.1
  have hn8 := hs.n.2
  have hh := hs.host
  unfold To.inR at hh
  obtain ⟨hh0, hh1⟩ := hh
  unfold dGraph
  (refine y_enter func129 ntmps129 results129 fun w M => ?_)
  ((repeat' first | refine tr_at 12 ?_; (refine z_make 12 ?_) | refine tr_at 4 ?_; (refine z_alloc 4 ?_) | refine tr_at 5 ?_; (refine z_alloc 5 ?_) | refine tr_at 14 ?_; (refine tr_keep [0, 2, 3, 4, 5, 6, 13, 14, 15] ?_); refine y_inline func154 ntmps154 results154 fun tm sy => ?_; simp only [slots, shift, zipPs, List.nil_append, List.cons_append, List.append_nil, List.map_cons, List.map_nil, List.zipIdx_cons, List.zipIdx_nil, Nat.reduceAdd]; refine halt ?_ | refine yyp ?_; try refine s_bu ?_ ?_ <;> intro hb | refine yy ?_ | refine at_nil ?_; refine z_nil qf5_0 ?_ | refine tc_seq fun K hK => ?_ | refine tc_at 6 ?_; refine z_draw [] qf5_2 ?_ | apply_assumption -exfalso -symm); all_goals try refine unhalt ?_)
  (repeat' first | refine tr_at 1 ?_; (refine z_box 1001 ?_) | refine yyp ?_; try refine s_bu ?_ ?_ <;> intro hb | refine yy ?_ | refine at_nil ?_; refine z_nil [0, 1, 2, 3] ?_ | refine tc_seq fun K hK => ?_ | apply_assumption -exfalso -symm)
  (refine tc_ret (y_reti ?_))
  simp only [oneOf]
  (repeat' first | refine at_nil ?_; refine z_nil qf5_0 ?_)
  (repeat' first | refine yy ?_ | refine tc_seq fun K hK => ?_ | refine tc_at 6 ?_; refine z_draw [] qf5_2 ?_ | apply_assumption -exfalso -symm)
  refine tc_keep [14, 5, 4] ?_
  (refine tc_range rfl rfl rfl func171 rfl ntmps171 results171 rfl rfl (by (repeat (first | exact Nub.nil _ | apply Nub.skip rfl | apply Nub.keep rfl)); fail_if_success intros) fun tm fn0 sy D0 htm hnt hlow => ?_; simp only [slots, shift, zipPs, List.nil_append, List.cons_append, List.append_nil, List.map_cons, List.map_nil, List.zipIdx_cons, List.zipIdx_nil, Nat.reduceAdd])
  ((repeat' first | refine tr_at 3 ?_; (refine z_alloc 2003 ?_) | refine tc_at 2 ?_; refine halt ?_ | refine yyp ?_; try refine s_bu ?_ ?_ <;> intro hb | refine yy ?_ | refine at_nil ?_; refine z_nil qf5_1 ?_ | refine tc_seq fun K hK => ?_ | refine tc_at 9 ?_; refine z_draw [15] qf5_3 ?_ | apply_assumption -exfalso -symm); all_goals try refine unhalt ?_)
  rw [show ([V.d (.bool false), .d (.bool false), .d (.bool false), .d (.bool false), .d (.bool false), .d (.bool false), .d (.bool false), .d (.bool false)].set (0 + t.host.node.toNat * 1) (constV (.bool true))) = foundV [t.host] from found_set [] t.host hh0 (by omega)]
  (repeat' first | refine tr_at 21 ?_; (refine z_lit 2021 ?_) | refine yyp ?_; try refine s_bu ?_ ?_ <;> intro hb | refine yy ?_ | refine at_nil ?_; refine z_nil qf5_1 ?_ | refine tc_seq fun K hK => ?_ | refine tc_at 9 ?_; refine z_draw [15] qf5_3 ?_ | apply_assumption -exfalso -symm)
  refine tc_suf (t := 4) (n := 2021) (k := 0) rfl rfl ?_
  refine tc_fam (ι := Nat × List To.Port × List D × Nat × Nat) (fun x => ⟨[(4, .suf 2021 x.2.2.2.2 x.2.2.2.1), (3, .ptr 2003 0), (1, .ptr 1001 0), (0, .clo (.yield (D0 + 1)) [] []), (100005, .ptr 5 0), (100004, .ptr 4 0), (100014, .clo (.func 171) [] [.ptr 1001 0])],
      [(4, .box [.own 12 0]), (12, .row 3 1 false ((To.treeK t.nodes.toNat (x.2.1.take x.1)).map dL) 0), (5, .box [.d (.int .i64 x.1)]), (1001, .box [.d (dGraph t)]), (2003, .box (foundV x.2.1)), (2021, .row 80 2 true x.2.2.1 x.2.2.2.2)], gl⟩)
    (fun x => x.1 ≤ x.2.1.length ∧ To.Good t.nodes x.2.1 ∧ To.order t = To.bfs t.wires (9 - x.1) x.1 x.2.1 ∧ x.2.2.2.1 ≤ x.2.2.1.length ∧ x.2.2.1.drop x.2.2.2.1 = (x.2.1.drop x.1).map dPort ∧ x.2.2.1.length ≤ x.2.1.length) (fun x => 9 - x.1)
    (0, [t.host], [dPort t.host], 0, 0) ⟨by simp, ⟨by simp, fun p hp => by simp at hp; subst hp; exact hs.host⟩, rfl, by simp, rfl, by simp⟩ ?_ fun ⟨i, l, xs, p, ver⟩ ⟨hi, hg, ho, hp, hd, hx⟩ => ?_
  · dsimp only
    rw [show (To.treeK t.nodes.toNat ([t.host].take 0)).map dL = List.replicate t.nodes.toNat (D.int .i64 0) by simp [To.treeK, dL]]
    exact y_wk
  dsimp only at hi hg ho hp hd hx ⊢
  have hl8 := hg.len hn8 (by omega)
  have hlen := drop_lens hd
  rcases Nat.lt_or_ge i l.length with hil | hil
  · have hpx := drop_head hd hil
    have hr := hg.range _ (List.getElem_mem hil)
    unfold To.inR at hr
    obtain ⟨hr0, hr1⟩ := hr
    have htl := To.treeK_len t.nodes.toNat (l.take i)
    ((repeat' first | refine tr_at 31 ?_; (refine tr_keep [0, 1, 3, 4, 5, 6, 7, 24, 27, 30, 31, 32, 33, 34, 57] ?_); (refine s_yield (envc := [(4, .ptr 4 0), (5, .ptr 5 0)]) htm hnt hlow rfl rfl (by (repeat (first | exact Evs.nil | apply Evs.cons rfl rfl)); fail_if_success intros) rfl rfl (by decide) (by (repeat (first | exact Nub.nil _ | apply Nub.skip rfl | apply Nub.keep rfl)); fail_if_success intros) (by simp only [shift, List.map_cons, List.map_nil, Nat.reduceAdd]; (repeat (first | exact Sub.nil | apply Sub.cons rfl)); fail_if_success intros) rfl (ltd rfl) rfl fun tm1 sy1 => ?_; simp only [slots, shift, zipPs, List.nil_append, List.cons_append, List.append_nil, List.map_cons, List.map_nil, List.zipIdx_cons, List.zipIdx_nil, Nat.reduceAdd]; refine halt ?_) | refine yyp ?_; try refine s_bu ?_ ?_ <;> intro hb | refine yy ?_ | refine at_nil ?_; refine z_nil qf5_1 ?_ | refine tc_seq fun K hK => ?_ | refine tc_at 9 ?_; refine z_draw [15] qf5_3 ?_ | apply_assumption -exfalso -symm); all_goals try refine unhalt ?_)
    (repeat' first | refine tr_at 6 ?_; (refine z_alloc 6 ?_) | refine yy ?_ | refine at_nil ?_; refine z_nil qf5_0 ?_ | refine tc_seq fun K hK => ?_ | refine tc_at 6 ?_; refine z_draw [] qf5_2 ?_ | apply_assumption -exfalso -symm)
    (refine EndsA.mk rfl ?_)
    (repeat' first | refine yyp ?_; try refine s_bu ?_ ?_ <;> intro hb | refine yy ?_ | refine at_nil ?_; refine z_nil qf5_0 ?_ | refine tc_seq fun K hK => ?_ | refine tc_at 6 ?_; refine z_draw [] qf5_2 ?_ | apply_assumption -exfalso -symm)
    (refine y_endy ?_)
    (repeat' first | refine yyp ?_; try refine s_bu ?_ ?_ <;> intro hb | refine at_nil ?_; refine z_nil qf5_1 ?_)
    (repeat' first | refine yyp ?_; try refine s_bu ?_ ?_ <;> intro hb | refine yy ?_ | refine at_nil ?_; refine z_nil qf5_1 ?_ | refine tc_seq fun K hK => ?_ | refine tc_at 9 ?_; refine z_draw [15] qf5_3 ?_ | apply_assumption -exfalso -symm)
    refine tc_fam (ι := Nat × List To.Port × List D × Nat × Nat) (fun x => ⟨[(33, .d (.int .i64 x.1)), (4, .suf 2021 x.2.2.2.2 x.2.2.2.1), (3, .ptr 2003 0), (1, .ptr 1001 0), (0, .clo (.yield (D0 + 1)) [] []), (100005, .ptr 5 0), (100004, .ptr 4 0), (100014, .clo (.func 171) [] [.ptr 1001 0])],
        [(4, .box [.own 12 0]), (12, .row 3 1 false ((To.treeK t.nodes.toNat (l.take (i + 1))).map dL) 0), (5, .box [.d (.int .i64 (i + 1 : Nat))]), (1001, .box [.d (dGraph t)]), (2003, .box (foundV x.2.1)), (2021, .row 80 2 true x.2.2.1 x.2.2.2.2)], gl⟩)
      (fun x => x.1 ≤ 4 ∧ To.Good t.nodes x.2.1 ∧ (∃ m, x.2.1 = l ++ m) ∧ To.visit t.wires l l[i].node 0 = To.visit t.wires x.2.1 l[i].node x.1 ∧ x.2.2.2.1 ≤ x.2.2.1.length ∧ x.2.2.1.drop x.2.2.2.1 = (x.2.1.drop i).map dPort ∧ x.2.2.1.length ≤ x.2.1.length) (fun x => 4 - x.1)
      (0, l, xs, p, ver) ⟨by simp, hg, ⟨[], by simp⟩, rfl, hp, hd, hx⟩ ?_ fun ⟨k, l2, xs2, p2, ver2⟩ ⟨hk, hg2, hm2, hv, hp2, hd2, hx2⟩ => ?_
    · dsimp only
      rw [dL_set, ← To.treeK_snoc, get_take l hil]
      exact y_wk
    dsimp only at hk hg2 hm2 hv hp2 hd2 hx2 ⊢
    have hl28 := hg2.len hn8 (by omega)
    have hlen2 := drop_lens hd2
    have hil2 : i < l2.length := by obtain ⟨m, rfl⟩ := hm2; simp only [List.length_append]; omega
    have he2 : l2[i] = l[i] := by obtain ⟨m, rfl⟩ := hm2; exact List.getElem_append_left hil
    have hpx2 := drop_head hd2 hil2
    have hfl := foundV_len l2
    ((repeat' first | refine tr_at 47 ?_; refine s_lookup_port rfl rfl rfl rfl (ltd rfl) rfl rfl (fun q hq => ?_) (fun hq => ?_) <;> try (have hqr := To.look_rng hs hq; obtain ⟨hq0, hq8, hq9⟩ := hqr; have hfq := found_get l2 q.node hq0 hq8) | refine tr_at 6 ?_; (refine z_alloc 2006 ?_) | refine tr_at 26 ?_; (refine z_p (w_slice_suf (l := 1)) ?_) | refine tc_at 12 ?_; refine halt ?_ | refine yyp ?_; try refine s_bu ?_ ?_ <;> intro hb | refine yy ?_ | refine yy2 ?_ ?_ <;> intro hcmp | refine at_nil ?_; refine z_nil qf5_1 ?_ | refine tc_seq fun K hK => ?_ | refine tc_at 9 ?_; refine z_draw [15] qf5_3 ?_ | apply_assumption -exfalso -symm); all_goals try refine unhalt ?_)
    · refine ⟨(k + 1, l2, xs2, p2, ver2), ⟨by dsimp only; omega, hg2, hm2, ?_, hp2, hd2, hx2⟩, by dsimp only; omega, y_wk⟩
      dsimp only
      rw [hv, To.visit_step _ _ _ _ (by omega), ← he2, To.meet_old (To.look_peer hq) hb]
    · rw [show (foundV l2).set (0 + q.node.toNat * 1) (constV (.bool true)) = foundV (l2 ++ [q]) from found_set l2 q hq0 hq8]
      (repeat' first | refine tr_at 63 ?_; (refine z_lit 2063 ?_) | refine yyp ?_; try refine s_bu ?_ ?_ <;> intro hb | refine yy ?_ | (refine at_append ?_; first | (refine z_append (fun kv => ?_)) | (refine z_append_suf (fun sx sp kv hsx hsp hsl => ?_))) | refine at_nil ?_; refine z_nil qf5_1 ?_ | refine tc_seq fun K hK => ?_ | refine tc_at 9 ?_; refine z_draw [15] qf5_3 ?_ | apply_assumption -exfalso -symm)
      refine ⟨(k + 1, l2 ++ [q], sx, sp, kv), ⟨by dsimp only; omega, ?_, ?_, ?_, hsp, ?_, ?_⟩, by dsimp only; omega, y_wk⟩
      · dsimp only
        rw [← To.meet_new (To.look_peer hq) (by simpa using hb)]
        exact hg2.meet hs.wires _
      · obtain ⟨m, rfl⟩ := hm2
        exact ⟨m ++ [q], by simp⟩
      · dsimp only
        rw [hv, To.visit_step _ _ _ _ (by omega), ← he2, To.meet_new (To.look_peer hq) (by simpa using hb)]
      · dsimp only
        rw [hsx, hd2, List.drop_append_of_le_length (by omega), List.map_append]
        rfl
      · dsimp only
        simp only [List.length_cons, List.length_nil, List.length_append] at hsl ⊢
        omega
    · refine ⟨(k + 1, l2, xs2, p2, ver2), ⟨by dsimp only; omega, hg2, hm2, ?_, hp2, hd2, hx2⟩, by dsimp only; omega, y_wk⟩
      dsimp only
      rw [hv, To.visit_step _ _ _ _ (by omega), ← he2, To.meet_none (by rw [← To.lookP_pairs]; exact hq)]
    · have hk4 : k = 4 := by omega
      subst hk4
      have ht2 : l2.take (i + 1) = l.take (i + 1) := by obtain ⟨m, rfl⟩ := hm2; exact List.take_append_of_le_length (by omega)
      refine ⟨(i + 1, l2, xs2, p2 + 1, ver2), ⟨by dsimp only; omega, hg2, ?_, by dsimp only; omega, drop_step hd2, hx2⟩, by dsimp only; omega, ?_⟩
      · dsimp only
        rw [ho, show 9 - i = (9 - (i + 1)) + 1 by omega, To.bfs_step _ _ _ _ hil, hv]
        rfl
      · dsimp only
        rw [ht2]
        exact y_wk
  · have hil3 : i = l.length := by omega
    subst hil3
    have hol : To.order t = l := by rw [ho, To.bfs_done _ _ _ _ (by omega)]
    (repeat' first | refine yyp ?_; try refine s_bu ?_ ?_ <;> intro hb | refine yy ?_ | refine at_nil ?_; refine z_nil qf5_1 ?_ | refine tc_seq fun K hK => ?_ | refine tc_at 9 ?_; refine z_draw [15] qf5_3 ?_ | apply_assumption -exfalso -symm)
    (refine y_endi ?_)
    ((repeat' first | refine tc_at 6 ?_; refine halt ?_ | refine tc_seq fun K hK => ?_ | apply_assumption -exfalso -symm); all_goals try refine unhalt ?_)
    refine tc_share 12 rfl ?_
    (repeat' first | refine yyp ?_; try refine s_bu ?_ ?_ <;> intro hb | refine at_nil ?_; refine z_nil qf5_0 ?_ | refine tc_seq fun K hK => ?_ | refine tc_at 6 ?_; refine z_draw [] qf5_2 ?_ | apply_assumption -exfalso -symm)
    (refine tc_ret (y_ret ?_))
    simp only [oneOf]
    rw [List.take_length, hol]
    unfold To.treeL
    rw [hol]
    rfl
end
section
end
section
end
section
end
section
end
section
theorem To.may_joins (t : To.Topo) : To.May t ↔ To.Joins t ∧ ((To.order t).length : Int) = t.nodes := by
  unfold To.May To.Joins
  constructor
  · rintro ⟨h1, h2, h3, h4, h5, h6, h7⟩; exact ⟨⟨h1, h2, h3, h4, h5, h6⟩, h7⟩
  · rintro ⟨⟨h1, h2, h3, h4, h5, h6⟩, h7⟩; exact ⟨h1, h2, h3, h4, h5, h6, h7⟩
theorem join_yes (gl : List (Nat × List D)) (t : To.Topo) (hj : To.Joins t) : FnD prog gl 128 [.d (dTopo t)] (fun v => v = .tup [.d (dGraph t), .d (.bool true)]) := by
  have := join_fn gl t
  unfold vJoin at this
  rwa [if_pos hj] at this
theorem join_no (gl : List (Nat × List D)) (t : To.Topo) (hj : ¬ To.Joins t) : FnD prog gl 128 [.d (dTopo t)] (fun v => v = .tup [.d (.raw (.pointer none)), .d (.bool false)]) := by
  have := join_fn gl t
  unfold vJoin at this
  rwa [if_neg hj] at this
attribute [local irreducible] TR TC
theorem valid_yes (gl : List (Nat × List D)) (t : To.Topo) (hj : To.Joins t) : FnD prog gl 95 [.d (dTopo t)] (fun v => v = .tup [.d (dGraph t), .d (.list 1 ((To.treeL t).map dL)), .d (.bool (decide (To.May t)))]) := by
  have hm := To.may_joins t
  unfold dTopo
  (refine y_enter func95 ntmps95 results95 fun w M => ?_)
  (repeat' first | refine tr_at 1 ?_; (refine z_box 1 ?_) | refine yyp ?_; try refine s_bu ?_ ?_ <;> intro hb | refine yy ?_ | refine yy2 ?_ ?_ <;> intro hcmp | refine at_call 128 ?_; refine y_call (hc := (join_yes gl t hj)) ?_ | refine at_call 129 ?_; refine y_call (hc := (tree_fn gl t hj)) ?_ | refine at_nil ?_; refine z_nil [0, 1, 2, 3, 4, 5, 6, 7, 8, 15] ?_ | refine tc_seq fun K hK => ?_ | refine tc_at 5 ?_; refine z_draw [] (lin [0, 4, 8, 12, 24, 28, 17, 20, 32]) ?_ | apply_assumption -exfalso -symm)
  all_goals
    (refine tc_ret (y_ret ?_))
    simp only [oneOf, V.tup.injEq, List.cons.injEq, V.d.injEq, D.bool.injEq, true_and, and_true, true_eq_decide_iff, false_eq_decide_iff]
    rw [hm]
    first | exact ⟨hj, by omega⟩ | exact fun h => absurd h.2 (by omega)
theorem valid_no (gl : List (Nat × List D)) (t : To.Topo) (hj : ¬ To.Joins t) : FnD prog gl 95 [.d (dTopo t)] (fun v => v = .tup [.d (.raw (.pointer none)), .d (.list 1 []), .d (.bool false)]) := by
  unfold dTopo
  (refine y_enter func95 ntmps95 results95 fun w M => ?_)
  (repeat' first | refine tr_at 1 ?_; (refine z_box 1 ?_) | refine yyp ?_; try refine s_bu ?_ ?_ <;> intro hb | refine yy ?_ | refine at_call 128 ?_; refine y_call (hc := (join_no gl t hj)) ?_ | refine at_nil ?_; refine z_nil [0, 1, 2, 3, 4, 5, 6, 7, 8, 15] ?_ | refine tc_seq fun K hK => ?_ | refine tc_at 5 ?_; refine z_draw [] (lin [0, 4, 8, 12, 24, 28, 17, 20, 32]) ?_ | apply_assumption -exfalso -symm)
  (refine tc_ret (y_ret ?_))
  rfl
theorem tmay_fn (gl : List (Nat × List D)) (t : To.Topo) : FnD prog gl 65 [.d (dTopo t)] (fun v => v = .d (.bool (decide (To.May t)))) := by
  unfold dTopo
  by_cases hj : To.Joins t
  · (refine y_enter func65 ntmps65 results65 fun w M => ?_)
    (repeat' first | refine tr_at 1 ?_; (refine z_box 1 ?_) | refine yyp ?_; try refine s_bu ?_ ?_ <;> intro hb | refine yy ?_ | refine at_call 95 ?_; refine y_call (hc := (valid_yes gl t hj)) ?_ | refine at_nil ?_; refine z_nil [0, 1, 2, 3, 4, 5, 6] ?_ | refine tc_seq fun K hK => ?_ | apply_assumption -exfalso -symm)
    all_goals
      (refine tc_ret (y_ret ?_))
      simp [oneOf, *]
  · have hm : ¬ To.May t := fun h => hj ((To.may_joins t).1 h).1
    (refine y_enter func65 ntmps65 results65 fun w M => ?_)
    (repeat' first | refine tr_at 1 ?_; (refine z_box 1 ?_) | refine yyp ?_; try refine s_bu ?_ ?_ <;> intro hb | refine yy ?_ | refine at_call 95 ?_; refine y_call (hc := (valid_no gl t hj)) ?_ | refine at_nil ?_; refine z_nil [0, 1, 2, 3, 4, 5, 6] ?_ | refine tc_seq fun K hK => ?_ | apply_assumption -exfalso -symm)
    (refine tc_ret (y_ret ?_))
    simp [oneOf, *]
namespace To
end To
end
section
section
variable {E : Set} {S : Sd} {Q : Exit → Sd → Prop} {ops : Array Oper} {draw : Bool} {rest : Todo} {way : Way3}
theorem tr_callP {d : Nat} {r : V} {o : Oper} (hdst : o.dst = some d) (hd : d < E.C.nt) (hg : S.gd ops o = some true) (hdf : isDefer o = false) (hw : way.loud = true)
    (hrun : ∀ β a w, StB E.C β S a w → ∃ f us, (execOp a.eval o).run E.P w = .ok (.enter f us) w ∧ Calls E.P f us w fun e w' => ∃ x, e = .returned x ∧ Grows w w' ∧ RepV w' (Mut E.C.M0 β S.H) β S.H r x)
    (h : TR E draw ops Q rest (S.put d r)) : TR E draw ops Q (.step o way rest) S := fun a w hS => by
  have hS0 := hS
  have key : ∀ w1, Grows w w1 → ∀ K : Act → World → Prop, (∀ a2 w2, Grows w1 w2 → St E.C (S.put d r) a2 w2 → K a2 w2) → o.wp E.P a w1 K (Qof E.C Q) := fun w1 g K hK => by
    obtain ⟨β, hB⟩ := hS.later g
    obtain ⟨f, us, h1, h2⟩ := hrun β a w1 hB
    unfold Oper.wp
    rw [h1, Oper.upon_enter]
    refine h2.mono ?_
    rintro e w2 ⟨x, rfl, g2, hv⟩
    rw [hdst]
    exact hK _ _ g2 ⟨β, (hB.later g2).put hd hv⟩
  cases draw with
  | true =>
    dsimp only
    cases way with
    | pure => cases hw
    | quiet => cases hw
    | grow =>
      simp only [wpMix3]
      intro n
      rw [Sd.gd_sound hS0 hg, if_pos rfl]
      exact key n.w n.grows _ fun a2 w2 g2 hs2 => ⟨g2, h _ _ hs2⟩
    | bar =>
      simp only [wpMix3]
      intro n
      rw [Sd.gd_sound hS0 hg, if_pos rfl]
      exact key n.w n.grows _ fun a2 w2 _ hs2 => h _ _ hs2
  | false => exact listIn_of_wp hS0 hg hdf fun K hK => key w (Grows.refl w) K fun a2 w2 _ hs2 => hK _ _ (h _ _ hs2)
end
end
section
theorem modify_get {α : Type} (a : Array α) (b : Nat) (f : α → α) (k : Nat) : (a.modify b f)[k]? = if b = k then a[k]?.map f else a[k]? := by
  rw [Array.getElem?_modify]
def World.marked (w : World) (b m : Nat) : World := w.freeze ⟨b, m, none⟩ 1
theorem marked_get {w : World} {b m : Nat} {cur : Array Value} {e : TypeId} (h : w.heap[b]? = some (.cells cur e (0, 0))) (k : Nat) : (World.marked w b m).heap[k]? = if b = k then some (.cells cur e (m, m + 1)) else w.heap[k]? := by
  unfold World.marked World.freeze
  rw [if_neg (by decide)]
  dsimp only
  rw [modify_get]
  split
  · rename_i e; subst e; rw [h]; rfl
  · rfl
theorem marked_cell {w : World} {b m : Nat} {cur : Array Value} {e : TypeId} (h : w.heap[b]? = some (.cells cur e (0, 0))) (p : Addr) : (World.marked w b m).cell? p = w.cell? p := by
  unfold World.cell?
  rw [marked_get h]
  by_cases hb : b = p.block
  · rw [if_pos hb, ← hb, h]
  · rw [if_neg hb]
theorem run_conv_mark {P : Program} {t e : TypeId} (ht : P.underlying t = some (.slice e)) (he : P.underlying e = some (.int .u8)) {w : World} {b : Nat} {cur : Array Value} {e' : TypeId} (h : w.heap[b]? = some (.cells cur e' (0, 0))) (n c : Nat) :
    (convert t t (.slice (some ⟨b, 0, none⟩) n c)).run P w = .ok (.slice (some ⟨b, 0, none⟩) n c) (World.marked w b cur.size) := by
  have hsh : w.shape? b = some (e', cur.size) := by unfold World.shape?; rw [h]
  simp [convert, run_underlying ht, run_underlying he, markStringish, hsh, World.marked]
theorem t_mark {E : Set} {env : List (Nat × V)} {H H' : List (Nat × Ob)} {gl : List (Nat × List D)} {dst : Option Tmp} {ty : TypeId} {pos : String} {af : Array Edge} {gd : Option (Nat × Bool)} {t e e' n k : Nat} {x : Operand} {d0 : D} {xs : List D} (ht : E.P.underlying t = some (.slice e)) (he : E.P.underlying e = some (.int .u8))
    (hx : Sd.ev ⟨env, H, gl⟩ x = some (.own n k)) (hox : okOp x = true) (hl : look n H = some (.row e' 1 true (d0 :: xs) k)) (hdr : Drop [n] H H') (hN : (E.C.N.all fun n => (look n H').isSome) = true) (hno : look n H' = none) :
    TurnV E ⟨env, H, gl⟩ ⟨dst, .convert t t x, ty, pos, af, gd⟩ ⟨env, H', gl⟩ (.d (.list 1 (d0 :: xs))) := TurnV.mk fun β a w h => by
  have h0 : a.eval x = (β n).v := h.ev hx hox e' 1 true _ hl
  obtain ⟨ys, h1, h2⟩ := h.obs n _ hl
  obtain ⟨h3, h4⟩ := h1
  rcases h4 with ⟨_, h4⟩ | ⟨g, cap, cur, h4, _, h5, h6, h7, h8, h9⟩
  · cases h4
  have hbn : own (β n) (.row e' 1 true (d0 :: xs) k) g := .inl (by rw [h4]; rfl)
  have hk0 : ∀ m ob, look m H' = some ob → look m H = some ob := fun m ob hm => hdr.look hm
  have hcell : ∀ p, (World.marked w g cur.size).cell? p = w.cell? p := fun p => marked_cell h5 p
  have hget : ∀ b, b ≠ g → (World.marked w g cur.size).heap[b]? = w.heap[b]? := fun b hb => by rw [marked_get h5, if_neg (Ne.symm hb)]
  have hsz : (World.marked w g cur.size).heap.size = w.heap.size := by
    unfold World.marked World.freeze
    rw [if_neg (by decide)]
    simp
  have hmut : Mut E.C.M0 β H g ((d0 :: xs).length * 1) := .inr ⟨n, _, hl, hbn, .inr (Nat.le_refl _)⟩
  have hsub : ∀ b o, Mut E.C.M0 β H' b o → Mut E.C.M0 β H b o := fun b o hm => by
    rcases hm with hm | ⟨m, ob, q1, q2, q3⟩
    · exact .inl hm
    · exact .inr ⟨m, ob, hk0 m ob q1, q2, q3⟩
  have kp : Keeps w (Mut E.C.M0 β H) (World.marked w g cur.size) (Mut E.C.M0 β H') := ⟨fun b o y hm hc => ⟨fun q => hm (hsub b o q), by rw [hcell]; exact hc⟩, fun b ob hs hm hb => ⟨fun o q => hm o (hsub b o q), by
    rw [hget b (fun e => by subst e; exact hm _ hmut)]
    exact hb⟩⟩
  have hH : ∀ m e'' sz' sh' xs' k', look m H' = some (.row e'' sz' sh' xs' k') → ∃ sh' xs', look m H = some (.row e'' sz' sh' xs' k') := fun m e'' sz' sh' xs' k' hm => ⟨sh', xs', hk0 m _ hm⟩
  have hap : ∀ m ob, look m H' = some ob → ∀ b, own (β m) ob b → b ≠ g := fun m ob hm b hb e => by
    have hmn : m ≠ n := by rintro rfl; rw [hno] at hm; cases hm
    subst e
    exact h.apart m n b ob _ hmn (hk0 m ob hm) hl hb hbn
  have hfree : ∀ o, ¬ Mut E.C.M0 β H' g o := fun o hm => by
    rcases hm with hm | ⟨m, ob, q1, q2, _⟩
    · exact h.out n _ g o hl hbn hm
    · exact hap m ob q1 g q2 rfl
  have hcg : w.heap[g]? = some (.cells cur e' (0, 0)) := h5
  refine ⟨.slice (some ⟨g, 0, none⟩) (d0 :: xs).length cap, World.marked w g cur.size, β, ?_, ?_, ?_⟩
  · have hr := run_conv_mark ht he h5 (d0 :: xs).length cap
    simp only [execOp, h0, h4, Sem.run_bind, hr, Result.andThen_ok, Sem.run_pure]
  · refine ⟨h.size, h.small, ?_, ?_, ?_, ?_, ?_, ?_, ?_, ?_, ?_, h.low, h.fix, fun m hm => List.all_eq_true.1 hN m hm⟩
    · obtain ⟨Ds, q1, q2, q3⟩ := h.defers
      refine ⟨Ds, q1, q2, fun D hD => ⟨?_, (q3 D hD).2⟩⟩
      rw [hget D (fun e => by subst e; have := (q3 D hD).1; rw [hcg] at this; cases this)]
      exact (q3 D hD).1
    · intro p hp
      refine ⟨?_, (h.sys p hp).2⟩
      rw [hget p.1 (fun e => by have q := h.sys p hp; rw [e, hcg] at q; have q1 := q.1; simp only [Option.some.injEq] at q1; have q2 := q.2.1; rw [← q1] at q2; cases q2)]
      exact (h.sys p hp).1
    · intro t v hv
      obtain ⟨y, q1, q2⟩ := h.env t v hv
      exact ⟨y, q1, RepV.keep kp (fun _ => rfl) hH _ _ q2⟩
    · intro m ob hm
      exact RepO.keep kp (fun b hb => hget b (hap m ob hm b hb)) (fun vs hL => RepL.keep kp (fun _ => rfl) hH _ _ hL) (h.obs m ob (hk0 m ob hm))
    · exact fun m m' b ob ob' hne q1 q2 => h.apart m m' b ob ob' hne (hk0 m ob q1) (hk0 m' ob' q2)
    · exact fun m ob b q1 q2 => h.place m ob b (hk0 m ob q1) q2
    · exact fun g' cs hg => (h.glob g' cs hg).keep kp
    · have hf := h.frame
      refine ⟨hf.os, hf.tape, hf.output, ?_, fun q hq hqe => ?_⟩
      · rw [hsz]
        exact hf.size
      · rw [hget q (fun e => by
          subst e
          rcases h.place n _ q hl hbn with hp | hp
          · exact hqe hp
          · omega)]
        exact hf.block q hq hqe
    · exact fun m ob b o q1 q2 => h.out m ob b o (hk0 m ob q1) q2
  · refine ⟨some ⟨g, 0, none⟩, cap, ys, rfl, h6, h7, (fun h => by cases h), RepE.keep kp _ _ _ h2, fun j y hy => ⟨g, 0, rfl, hfree _, ?_⟩⟩
    rw [hcell, Nat.zero_add]
    have h10 : cur.toList[j]? = some y := by
      rw [← h9, List.getElem?_take] at hy
      split at hy
      · exact hy
      · cases hy
    exact box_cell (vs := cur.toList) (by rw [Array.toArray_toList]; exact h5) h10
section
variable {E : Set} {Q : Exit → Sd → Prop} {ops : Array Oper} {draw : Bool} {rest : Todo} {way : Way3} {ty : TypeId} {pos : String} {af : Array Edge} {gd : Option (Nat × Bool)}
variable {env : List (Nat × V)} {H : List (Nat × Ob)} {gl : List (Nat × List D)} {d : Nat}
theorem y_mark {t e e' n k : Nat} {x : Operand} {d0 : D} {xs : List D} {H' : List (Nat × Ob)} (ht : E.P.underlying t = some (.slice e)) (he : E.P.underlying e = some (.int .u8)) (h : TR E draw ops Q rest ⟨(d, .d (.list 1 (d0 :: xs))) :: env, H', gl⟩)
    (hx : Sd.ev ⟨env, H, gl⟩ x = some (.own n k) := by exact rfl) (hox : okOp x = true := by exact rfl) (hl : look n H = some (.row e' 1 true (d0 :: xs) k) := by exact rfl) (hdr : Drop [n] H H' := by (repeat (first | exact Drop.nil | apply Drop.drop rfl | apply Drop.take rfl)); fail_if_success intros) (hN : (E.C.N.all fun n => (look n H').isSome) = true := by rfl) (hno : look n H' = none := by rfl)
    (hd : d < E.C.nt := by exact ltd rfl) (hg : Sd.gd ⟨env, H, gl⟩ ops ⟨some d, .convert t t x, ty, pos, af, gd⟩ = some true := by exact rfl) (hw : isBar draw way = true := by exact rfl) : TR E draw ops Q (.step ⟨some d, .convert t t x, ty, pos, af, gd⟩ way rest) ⟨env, H, gl⟩ :=
  tr_turnV (t_mark ht he hx hox hl hdr hN hno) rfl hd hg rfl hw h
end
end
section
def leavesFA (P : Program) (rec : TypeId → Option (List Nat)) : Nat → List Field → Option (List Nat)
  | _, [] => some []
  | off, f :: fs => if f.name == "_" || f.offset != off then none else match rec f.type, P.info? f.type with
    | some l, some i => if i.size == l.length then (leavesFA P rec (off + l.length) fs).map (l ++ ·) else none
    | _, _ => none
def leavesA (P : Program) : Nat → TypeId → Option (List Nat)
  | 0, _ => none
  | d + 1, t => match P.underlying t with
    | some .bool => some [0]
    | some (.int _) => some [1]
    | some .string => some [2]
    | some (.struct fs) => if P.stoodInHeld t then none else leavesFA P (leavesA P d) 0 fs.toList
    | some (.array n e) => match leavesA P d e, P.info? e with
      | some l, some i => if i.size == l.length then some (List.replicate n l).flatten else none
      | _, _ => none
    | _ => none
def eqOkA (P : Program) (t : Nat) (ls : List Nat) : Bool := (match P.underlying t with | some (.struct _) => true | some (.array _ _) => true | _ => false) && leavesA P 8 t == some ls && !P.eqGuardType P.depth t
class TEqA (P : Program) (t : Nat) (ls : outParam (List Nat)) : Prop where
  ok : eqOkA P t ls = true
section
variable {P : Program}
theorem part_arr {t : TypeId} {n e : Nat} (hu : P.underlying t = some (.array n e)) {i : TypeInfo} (hi : P.info? t = some i) {pre us post : List Value} {off : Nat} (ho : pre.length = off) (hn : us.length = i.size) (w : World) :
    (part t (pre ++ us ++ post).toArray off).run P w = .ok (.agg us.toArray) w := by
  have he : ((pre ++ us ++ post).toArray.extract off (off + i.size)) = us.toArray := by
    simp [List.extract_eq_take_drop, ← ho, hn]
  simp only [part, Sem.run_bind, isAgg_yes hu (.inr ⟨n, e, rfl⟩), Result.andThen_ok, if_true, run_size hi, Sem.run_pure, he]
theorem leavesA_eq : ∀ (d D : Nat) (t : TypeId) (ls : List Nat), d ≤ D → leavesA P d t = some ls → ∀ (i : TypeInfo), P.info? t = some i → i.size = ls.length → ∀ (ds es : List Go.Proofs.YtjhbglklcddekaaGreatDoor.D) (p : Prop), EqC ls ds es p → ∀ (pre post pre' post' : List Value) (off : Nat), pre.length = off → pre'.length = off →
    ∃ a c b, (∀ w, (part t (pre ++ ds.map leafV ++ post).toArray off).run P w = .ok a w) ∧ (∀ w, (part t (pre' ++ es.map leafV ++ post').toArray off).run P w = .ok c w) ∧ (∀ w, (Op.equalIn D t a c).run P w = .ok b w) ∧ (b = true) = p ∧ ((∃ fs, P.underlying t = some (.struct fs)) ∨ (∃ n e, P.underlying t = some (.array n e)) → a = .agg (ds.map leafV).toArray ∧ c = .agg (es.map leafV).toArray) := by
  intro d
  induction d with
  | zero => intro D t ls _ h; simp [leavesA] at h
  | succ d ih =>
    intro D t ls hD h i hi hn ds es p hE pre post pre' post' off ho ho'
    obtain ⟨D, rfl⟩ : ∃ D', D = D' + 1 := ⟨D - 1, by omega⟩
    obtain ⟨hl1, hl2⟩ := hE.length
    have get : ∀ (pre post : List Value) (v : Value) (l : List Value), pre.length = off → l = [v] → (pre ++ l ++ post)[off]? = some v := fun pre post v l h1 h2 => by subst h1; subst h2; simp
    unfold leavesA at h
    split at h
    · rename_i hu
      cases h
      obtain ⟨x, y, rfl, rfl, rfl⟩ := hE.inv0
      refine ⟨_, _, x == y, fun w => part_cell hu (by simp) (by simp) (get _ _ (.bool x) _ ho rfl) w, fun w => part_cell hu (by simp) (by simp) (get _ _ (.bool y) _ ho' rfl) w, fun w => run_equalIn_bool' w D t x y hu, ?_, fun hf => ?_⟩
      · simp
      · rcases hf with ⟨_, hf⟩ | ⟨_, _, hf⟩ <;> (rw [hu] at hf; cases hf)
    · rename_i k hu
      cases h
      obtain ⟨k', x, y, rfl, rfl, rfl⟩ := hE.inv1
      refine ⟨_, _, x == y, fun w => part_cell hu (by simp) (by simp) (get _ _ (.int k' x) _ ho rfl) w, fun w => part_cell hu (by simp) (by simp) (get _ _ (.int k' y) _ ho' rfl) w, fun w => run_equalIn_int w D t k' k x y hu, ?_, fun hf => ?_⟩
      · simp
      · rcases hf with ⟨_, hf⟩ | ⟨_, _, hf⟩ <;> (rw [hu] at hf; cases hf)
    · rename_i hu
      cases h
      obtain ⟨x, y, rfl, rfl, rfl⟩ := hE.inv2
      refine ⟨_, _, x.toList == y.toList, fun w => part_cell hu (by simp) (by simp) (get _ _ (.string x) _ ho rfl) w, fun w => part_cell hu (by simp) (by simp) (get _ _ (.string y) _ ho' rfl) w, fun w => run_equalIn_string w D t x y hu, ?_, fun hf => ?_⟩
      · by_cases h : x = y
        · rw [bytes_beq x y (b := true) (propext ⟨fun _ => h, fun _ => rfl⟩)]; simp [h]
        · rw [bytes_beq x y (b := false) (propext ⟨(fun h' => by cases h'), fun h' => absurd h' h⟩)]; simp [h]
      · rcases hf with ⟨_, hf⟩ | ⟨_, _, hf⟩ <;> (rw [hu] at hf; cases hf)
    · rename_i fs hu
      split at h
      · cases h
      · rename_i hst
        have hst : P.stoodInHeld t = false := by simpa using hst
        have hfo : P.fieldsOf t = fs := by unfold Program.fieldsOf; rw [hu]
        have fields : ∀ (fl : List Field) (off : Nat) (ls : List Nat), leavesFA P (leavesA P d) off fl = some ls → ∀ (ds es : List Go.Proofs.YtjhbglklcddekaaGreatDoor.D) (p : Prop), EqC ls ds es p → ∀ (pre pre' : List Value), pre.length = off → pre'.length = off →
            ∃ b, (∀ w, (Op.eqFields D (pre ++ ds.map leafV).toArray (pre' ++ es.map leafV).toArray fl).run P w = .ok b w) ∧ (b = true) = p := by
          intro fl
          induction fl with
          | nil =>
            intro off ls h ds es p hE pre pre' _ _
            simp only [leavesFA, Option.some.injEq] at h
            subst h
            cases hE
            exact ⟨true, fun w => rfl, by simp⟩
          | cons f fl ih2 =>
            intro off ls h ds es p hE pre pre' ho ho'
            simp only [leavesFA] at h
            split at h
            · cases h
            · rename_i hf
              simp only [Bool.or_eq_true, beq_iff_eq, bne_iff_ne, ne_eq, not_or, Decidable.not_not] at hf
              split at h
              · rename_i l i' hl hi'
                split at h
                · rename_i hsz
                  simp only [beq_iff_eq] at hsz
                  obtain ⟨ls', h', rfl⟩ := Option.map_eq_some_iff.1 h
                  obtain ⟨d1, d2, e1, e2, p1, p2, rfl, rfl, h1, h2, rfl⟩ := hE.split l
                  obtain ⟨q1, q2⟩ := h1.length
                  obtain ⟨a, c, b, k1, k2, k3, k4, _⟩ := ih D f.type l (by omega) hl i' hi' hsz d1 e1 p1 h1 pre (d2.map leafV) pre' (e2.map leafV) off ho ho'
                  obtain ⟨b2, k5, k6⟩ := ih2 (off + l.length) ls' h' d2 e2 p2 h2 (pre ++ d1.map leafV) (pre' ++ e1.map leafV) (by simp; omega) (by simp; omega)
                  refine ⟨b && b2, fun w => ?_, ?_⟩
                  · have e1' : (pre ++ (d1 ++ d2).map leafV) = pre ++ d1.map leafV ++ d2.map leafV := by simp
                    have e2' : (pre' ++ (e1 ++ e2).map leafV) = pre' ++ e1.map leafV ++ e2.map leafV := by simp
                    rw [e1', e2']
                    simp only [Op.eqFields, hf.1, ne_eq, not_false_eq_true, if_true, hf.2, Sem.run_bind, k1, k2, k3, Result.andThen_ok]
                    cases b with
                    | false => rfl
                    | true => simp only [Bool.not_true, Bool.false_eq_true, if_false, Bool.true_and]; exact k5 w
                  · rw [← k4, ← k6]
                    simp
                · cases h
              · cases h
        obtain ⟨b, k1, k2⟩ := fields fs.toList 0 ls h ds es p hE [] [] rfl rfl
        refine ⟨.agg (ds.map leafV).toArray, .agg (es.map leafV).toArray, b, fun w => part_agg hu hi ho (by simp; omega) w, fun w => part_agg hu hi ho' (by simp; omega) w, fun w => ?_, k2, fun _ => ⟨rfl, rfl⟩⟩
        rw [run_equalIn_struct w D t _ _ (by rw [hfo]; exact hu) hst, hfo]
        exact k1 w
    · rename_i n e hu
      split at h
      · rename_i l i' hl hi'
        split at h
        · rename_i hsz
          simp only [beq_iff_eq] at hsz
          cases h
          have hce : P.cellsOf e = l.length := by simp [Program.cellsOf, hi', hsz]
          have items : ∀ (m j : Nat) (ds es : List Go.Proofs.YtjhbglklcddekaaGreatDoor.D) (p : Prop), EqC (List.replicate m l).flatten ds es p → ∀ (pre pre' : List Value), pre.length = j * l.length → pre'.length = j * l.length →
              ∃ b, (∀ w, (Op.eqItems D e (P.cellsOf e) (pre ++ ds.map leafV).toArray (pre' ++ es.map leafV).toArray (List.range' j m)).run P w = .ok b w) ∧ (b = true) = p := by
            intro m
            induction m with
            | zero =>
              intro j ds es p hE pre pre' _ _
              simp only [List.replicate_zero, List.flatten_nil] at hE
              cases hE
              exact ⟨true, fun w => by simp [Op.eqItems], by simp⟩
            | succ m ih2 =>
              intro j ds es p hE pre pre' ho ho'
              rw [List.replicate_succ, List.flatten_cons] at hE
              obtain ⟨d1, d2, e1, e2, p1, p2, rfl, rfl, h1, h2, rfl⟩ := hE.split l
              obtain ⟨q1, q2⟩ := h1.length
              obtain ⟨a, c, b, k1, k2, k3, k4, _⟩ := ih D e l (by omega) hl i' hi' hsz d1 e1 p1 h1 pre (d2.map leafV) pre' (e2.map leafV) (j * l.length) ho ho'
              obtain ⟨b2, k5, k6⟩ := ih2 (j + 1) d2 e2 p2 h2 (pre ++ d1.map leafV) (pre' ++ e1.map leafV) (by simp [Nat.add_mul]; omega) (by simp [Nat.add_mul]; omega)
              refine ⟨b && b2, fun w => ?_, ?_⟩
              · have e1' : (pre ++ (d1 ++ d2).map leafV) = pre ++ d1.map leafV ++ d2.map leafV := by simp
                have e2' : (pre' ++ (e1 ++ e2).map leafV) = pre' ++ e1.map leafV ++ e2.map leafV := by simp
                rw [e1', e2', List.range'_succ]
                simp only [Op.eqItems, Sem.run_bind, hce, k1, k2, k3, Result.andThen_ok]
                cases b with
                | false => simp
                | true =>
                  have := k5 w
                  rw [hce] at this
                  simpa using this
              · rw [← k4, ← k6]
                simp
          obtain ⟨b, k1, k2⟩ := items n 0 ds es p hE [] [] (by simp) (by simp)
          refine ⟨.agg (ds.map leafV).toArray, .agg (es.map leafV).toArray, b, fun w => part_arr hu hi ho (by simp; omega) w, fun w => part_arr hu hi ho' (by simp; omega) w, fun w => ?_, k2, fun _ => ⟨rfl, rfl⟩⟩
          rw [run_equalIn_array w D _ _ hu hi', List.range_eq_range']
          exact k1 w
        · cases h
      · cases h
    · cases h
theorem eq_aggA {t : Nat} {ls : List Nat} (h : TEqA P t ls) [hs : TAgg P t ls.length] {ds es : List D} {p : Prop} (hE : EqC ls ds es p) : ∃ b, (b = true) = p ∧ ∀ w, (Op.equalIn 10000 t (.agg (ds.map leafV).toArray) (.agg (es.map leafV).toArray)).run P w = .ok b w := by
  have h1 := h.ok
  unfold eqOkA at h1
  simp only [Bool.and_eq_true, beq_iff_eq, Bool.not_eq_true'] at h1
  obtain ⟨⟨h2, h3⟩, h4⟩ := h1
  obtain ⟨d, i, hu, hd, hi, hsz⟩ := agg_parts hs
  obtain ⟨a, c, b, _, _, k3, k4, k5⟩ := leavesA_eq 8 10000 t ls (by omega) h3 i hi hsz ds es p hE [] [] [] [] 0 rfl rfl
  obtain ⟨rfl, rfl⟩ := k5 (by
    split at h2
    · rename_i fs hu'; exact .inl ⟨fs, hu'⟩
    · rename_i n e hu'; exact .inr ⟨n, e, hu'⟩
    · cases h2)
  exact ⟨b, k4, k3⟩
end
section
variable {E : Set} {S : Sd} {dst : Option Tmp} {ty : TypeId} {pos : String} {af : Array Edge} {gd : Option (Nat × Bool)}
theorem q_aggA_eq {t : Nat} {yt : TypeId} {x y : Operand} {ls : List Nat} {ds es : List D} {p : Prop} [ht : TEqA E.P t ls] [hs : TAgg E.P t ls.length] (hx : S.ev x = some (.d (.agg ds))) (hy : S.ev y = some (.d (.agg es))) (hox : okOp x = true) (hoy : okOp y = true) (hE : EqC ls ds es p) (hp : p) :
    Swift E S ⟨dst, .binOp .eql t x y yt, ty, pos, af, gd⟩ (.d (.bool true)) := by
  obtain ⟨b, h1, h2⟩ := eq_aggA (P := E.P) (t := t) ht hE
  have hm : E.P.eqGuardType E.P.depth t = false := by
    have := ht.ok
    unfold eqOkA at this
    simp only [Bool.and_eq_true, Bool.not_eq_true'] at this
    exact this.2
  have hb : b = true := by rw [h1]; exact hp
  subst hb
  refine Swift.mk fun β a w h => ⟨.bool true, fun w' _ => ?_, rfl⟩
  obtain ⟨us, e1, r1⟩ := h.ev hx hox
  obtain ⟨vs, e2, r2⟩ := h.ev hy hoy
  rw [(hE.rep (w := w) (M := Mut E.C.M0 β S.H)).1 us r1] at e1
  rw [(hE.rep (w := w) (M := Mut E.C.M0 β S.H)).2 vs r2] at e2
  simp only [execOp, e1, e2, Sem.run_bind, run_eqGuard_agg w' _ t x y _ _ hm, Result.andThen_ok, run_eql_struct, run_neq_struct, h2 w', Sem.run_pure]
end
end
end Go.Proofs.YtjhbglklcddekaaGreatDoor
