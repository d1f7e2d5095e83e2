/- Parts: F2, F5, E2, E3, E4, E5, F6, D45, D46. -/
import Derived.Test.YtjhbglklcddekaaGreatDoorV14
import Derived.Test.YtjhbglklcddekaaGreatDoorV11
import Derived.Test.YtjhbglklcddekaaGreatDoorV13
set_option linter.all false
set_option maxRecDepth 100000
set_option maxHeartbeats 16000000
namespace Go.Proofs.YtjhbglklcddekaaGreatDoor
open Go.RowKit Go.Proofs.Tryz
section
def qf2_0 : List Nat := [0, 1, 2, 3, 4, 6, 8, 10, 32, 38, 39, 40, 41, 106]
def qf2_1 : Plan := lin [0, 4, 8, 16, 13, 21, 25, 28, 32, 36, 42, 47, 48]
theorem miss_of {l : List (To.Port × To.Port)} {n m : Int} (h : To.lookP l ⟨n, m⟩ = none) : D.agg [.int .i64 n, .int .i64 m] ∉ dKeys l := fun hm => lookP_none h (mem_keys.1 hm)
theorem miss_more {l : List (To.Port × To.Port)} {n m n' m' : Int} (h : To.lookP l ⟨n', m'⟩ = none) (hne : ¬ n = n') : D.agg [.int .i64 n', .int .i64 m'] ∉ dKeys l ++ [D.agg [.int .i64 n, .int .i64 m]] := fun hm => by
  rcases List.mem_append.1 hm with hm | hm
  · exact miss_of h hm
  · rw [List.mem_singleton] at hm
    simp only [D.agg.injEq, List.cons.injEq, D.int.injEq, true_and] at hm
    exact hne hm.1.symm
theorem keys_take (ws : List To.Wire) (k : Nat) (h : k < ws.length) : dKeys (To.pairs (ws.take (k + 1))) = dKeys (To.pairs (ws.take k)) ++ [D.agg [.int .i64 ws[k].a.node, .int .i64 ws[k].a.link]] ++ [D.agg [.int .i64 ws[k].b.node, .int .i64 ws[k].b.link]] := by
  rw [To.pairs_take ws k h]
  simp [dKeys, dPort]
theorem vals_take (ws : List To.Wire) (k : Nat) (h : k < ws.length) : dVals (To.pairs (ws.take (k + 1))) = dVals (To.pairs (ws.take k)) ++ [D.agg [.int .i64 ws[k].b.node, .int .i64 ws[k].b.link]] ++ [D.agg [.int .i64 ws[k].a.node, .int .i64 ws[k].a.link]] := by
  rw [To.pairs_take ws k h]
  simp [dVals, dPort]
theorem port_same {p q : To.Port} (h : p.node = q.node ∧ p.link = q.link ∧ True) : p = q := by
  cases p; cases q
  simp only at h
  rw [h.1, h.2.1]
theorem port_ne {p q : To.Port} (h : ¬ (p.node = q.node ∧ p.link = q.link ∧ True)) : p ≠ q := fun e => h (by rw [e]; exact ⟨rfl, rfl, trivial⟩)
open Classical in
noncomputable def vJoin (t : To.Topo) : V := if To.Joins t then .tup [.d (dGraph t), .d (.bool true)] else .tup [.d (.raw (.pointer none)), .d (.bool false)]
attribute [local irreducible] TR TC
theorem join_fn (gl : List (Nat × List D)) (t : To.Topo) : FnD prog gl 128 [.d (dTopo t)] (fun v => v = vJoin t) := by
  have hbad : (1 ≤ t.nodes ∧ t.nodes ≤ 8 ∧ t.wires.length ≤ 32 ∧ To.okPort t.nodes t.host → False) → vJoin t = .tup [.d (.raw (.pointer none)), .d (.bool false)] := fun h => by
    unfold vJoin
    rw [if_neg (fun hj => h (by obtain ⟨h1, h2, h3, h4, _⟩ := (To.joins_iff t).1 hj; exact ⟨h1, h2, h3, h4⟩))]
  have hlate : ∀ k (h : k < t.wires.length), ¬ To.Fits t (t.wires.take k) t.wires[k] → vJoin t = .tup [.d (.raw (.pointer none)), .d (.bool false)] := fun k hk h => by
    unfold vJoin
    rw [if_neg (fun hj => h (((To.joins_iff t).1 hj).2.2.2.2 k hk hk))]
  unfold dTopo
  (refine y_enter func128 ntmps128 results128 fun w M => ?_)
  (repeat' first | refine tr_at 1 ?_; (refine z_box 1 ?_) | refine tr_at 14 ?_; (first | refine yyp ?_; try refine s_bu ?_ ?_ <;> intro hb | refine yy2 ?_ ?_ <;> intro hcmp); all_goals try refine z_sh true 14 32 qf2_0 ?_ | refine tr_at 19 ?_; (first | refine yyp ?_; try refine s_bu ?_ ?_ <;> intro hb | refine yy2 ?_ ?_ <;> intro hcmp); all_goals try refine z_sh true 19 32 qf2_0 ?_ | refine tr_at 25 ?_; (first | refine yyp ?_; try refine s_bu ?_ ?_ <;> intro hb | refine yy2 ?_ ?_ <;> intro hcmp); all_goals try refine z_sh true 25 32 qf2_0 ?_ | refine tr_at 34 ?_; (refine z_makeMap 34 ?_) | refine tr_at 36 ?_; (refine z_box 36 ?_) | refine yyp ?_; try refine s_bu ?_ ?_ <;> intro hb | refine yy ?_ | refine yy2 ?_ ?_ <;> intro hcmp | refine at_call 153 ?_; refine y_call (hc := (exists_fn gl _ _ _)) ?_; try refine s_bu ?_ ?_ <;> intro hb | refine at_nil ?_; refine z_nil qf2_0 ?_ | refine tc_seq fun K hK => ?_ | refine tc_at 7 ?_; refine z_draw [11] qf2_1 ?_ | refine tc_at 8 ?_; refine z_draw [11] qf2_1 ?_ | refine tc_draw (id := 11) [16, 18, 19, 21] (.step 0 .pure (.step 1 .pure (.step 2 .pure (.step 4 .pure (.step 6 .pure (.step 7 .pure (.step 8 .pure (.step 10 .pure (.step 12 .pure (.step 14 .pure (.step 3 .quiet (.step 5 .quiet (.step 9 .quiet (.tail [(11, .firm), (13, .firm), (15, .firm), (16, .keep), (17, .pure), (18, .keep), (19, .keep), (20, .pure), (21, .keep)])))))))))))))) mixed (by kernel_rfl) (by kernel_rfl) rfl (by decide) (by kernel_rfl) (by kernel_rfl) (by (repeat (first | exact noPanic_ends | exact noPanic_endsE | exact noPanic_endsI | exact noPanic_endsY | exact noPanic_endsA | (with_reducible apply noPanic_then) | (with_reducible apply noPanic_block))); fail_if_success intros) ?_; all_goals ((refine z_p w_move ?_)); all_goals ((first | (refine z_p w_nil_box ?_) | (refine z_p w_nil_ref ?_))); all_goals ((first | (refine z_p w_field_box ?_) | (refine z_p w_field_ref ?_) | (refine z_p w_field_el ?_))); all_goals ((first | (refine z_p w_field_box ?_) | (refine z_p w_field_ref ?_) | (refine z_p w_field_el ?_))); all_goals ((refine z_p w_move ?_)); all_goals ((first | (refine z_p w_nil_box ?_) | (refine z_p w_nil_ref ?_))); all_goals ((first | (refine z_p w_field_box ?_) | (refine z_p w_field_ref ?_) | (refine z_p w_field_el ?_))); all_goals ((first | (refine z_p w_field_box ?_) | (refine z_p w_field_ref ?_) | (refine z_p w_field_el ?_))); all_goals ((first | (refine z_p w_field_box ?_) | (refine z_p w_field_ref ?_) | (refine z_p w_field_el ?_))); all_goals ((first | (refine z_p w_field_box ?_) | (refine z_p w_field_ref ?_) | (refine z_p w_field_el ?_))); all_goals ((first | (refine z_q w_load_box ?_) | (refine z_q w_load_ref ?_) | (refine z_q w_load_el ?_) | (refine z_q w_load_boxz ?_))); all_goals ((first | (refine z_q w_load_boxs ?_) | (refine z_q w_load_refs ?_) | (refine z_q w_load_el_all ?_) | (refine z_q w_load_els ?_))); all_goals ((first | (refine z_q w_load_box ?_) | (refine z_q w_load_ref ?_) | (refine z_q w_load_el ?_) | (refine z_q w_load_boxz ?_))); all_goals (refine tr_tail ?_); all_goals (refine tj_load ?_); all_goals (refine tj_load ?_); all_goals (refine tj_load ?_); all_goals (refine tj_entry rfl rfl rfl rfl rfl rfl rfl rfl rfl (by first | exact ToD.d _ | exact ToD.nils _ | exact ToD.own rfl) (by first | exact Comp.int .. | exact Comp.str .. | exact Comp.agg (by (repeat (first | exact EqC.nil | apply EqC.int | apply EqC.bool | apply EqC.str)); fail_if_success intros)) (ltd rfl) (ltd rfl) rfl rfl rfl (by (assumption)) (by (assumption)) rfl ?_); all_goals (refine tj_entry rfl rfl rfl rfl rfl rfl rfl rfl rfl (by first | exact ToD.d _ | exact ToD.nils _ | exact ToD.own rfl) (by first | exact Comp.int .. | exact Comp.str .. | exact Comp.agg (by (repeat (first | exact EqC.nil | apply EqC.int | apply EqC.bool | apply EqC.str)); fail_if_success intros)) (ltd rfl) (ltd rfl) rfl rfl rfl (by (assumption)) (by (assumption)) rfl ?_); all_goals (refine tj_nil ?_); all_goals (refine z_nil qf2_0 ?_) | apply_assumption -exfalso -symm)
  · (refine tc_ret (y_ret ?_))
    rw [hbad (by intro h; omega)]; rfl
  · (refine tc_ret (y_ret ?_))
    rw [hbad (by intro h; omega)]; rfl
  · (refine tc_ret (y_ret ?_))
    rw [hbad (by intro h; omega)]; rfl
  · refine tc_fam (fun k : Nat => ⟨[(40, .d (.int .i64 k)), (39, .d (.int .i64 t.wires.length)), (38, .d (.list 4 (t.wires.map dWire))), (4, .ptr 36 0), (1, .ptr 1 0)],
        [(36, .box [.d (.int .i64 t.nodes), .d (.list 4 (t.wires.map dWire)), .d (.int .i64 t.host.node), .d (.int .i64 t.host.link), .map 34]), (34, .map (dKeys (To.pairs (t.wires.take k))) (dVals (To.pairs (t.wires.take k)))), (1, .box [.d (.int .i64 t.nodes), .d (.list 4 (t.wires.map dWire)), .d (.int .i64 t.host.node), .d (.int .i64 t.host.link)])], gl⟩)
      (fun k => k ≤ t.wires.length ∧ To.Some t k) (fun k => t.wires.length - k) 0 ⟨Nat.zero_le _, fun j _ h => absurd h (by omega)⟩ y_wk fun k ⟨hk, hp⟩ => ?_
    (repeat' first | refine tr_at 6 ?_; (refine z_alloc 6 ?_) | refine tr_at 51 ?_; refine s_lookup_portm rfl rfl rfl rfl rfl (ltd rfl) rfl rfl (fun q hq => ?_) (fun hq => ?_) | refine tr_at 7 ?_; (refine z_alloc 7 ?_) | refine tr_at 61 ?_; refine s_lookup_portm rfl rfl rfl rfl rfl (ltd rfl) rfl rfl (fun q hq => ?_) (fun hq => ?_) | refine tr_at 9 ?_; (refine z_alloc 9 ?_) | refine tr_at 65 ?_; (first | refine yyp ?_; try refine s_bu ?_ ?_ <;> intro hb | refine yy2 ?_ ?_ <;> intro hcmp); all_goals try refine z_sh true 65 106 qf2_0 ?_ | refine tr_at 68 ?_; (first | refine yyp ?_; try refine s_bu ?_ ?_ <;> intro hb | refine yy2 ?_ ?_ <;> intro hcmp); all_goals try refine z_sh true 68 106 qf2_0 ?_ | refine tr_at 77 ?_; (first | refine yyp ?_; try refine s_bu ?_ ?_ <;> intro hb | refine yy2 ?_ ?_ <;> intro hcmp); all_goals try refine z_sh true 77 106 qf2_0 ?_ | refine tr_at 84 ?_; (first | refine yyp ?_; try refine s_bu ?_ ?_ <;> intro hb | refine yy2 ?_ ?_ <;> intro hcmp); all_goals try refine z_sh true 84 106 qf2_0 ?_ | refine tr_at 91 ?_; (first | refine yyp ?_; try refine s_bu ?_ ?_ <;> intro hb | refine yy2 ?_ ?_ <;> intro hcmp); all_goals try refine z_sh true 91 106 qf2_0 ?_ | refine tr_at 99 ?_; (first | refine yyp ?_; try refine s_bu ?_ ?_ <;> intro hb | refine yy2 ?_ ?_ <;> intro hcmp); all_goals try refine z_sh true 99 106 qf2_0 ?_ | refine yyp ?_; try refine s_bu ?_ ?_ <;> intro hb | refine yy ?_ | refine yy2 ?_ ?_ <;> intro hcmp | refine at_call 153 ?_; refine y_call (hc := (exists_fn gl _ _ _)) ?_; try refine s_bu ?_ ?_ <;> intro hb | refine at_nil ?_; refine z_nil qf2_0 ?_ | refine tc_seq fun K hK => ?_ | refine tc_at 7 ?_; refine z_draw [11] qf2_1 ?_ | refine tc_at 8 ?_; refine z_draw [11] qf2_1 ?_ | refine tc_draw (id := 11) [16, 18, 19, 21] (.step 0 .pure (.step 1 .pure (.step 2 .pure (.step 4 .pure (.step 6 .pure (.step 7 .pure (.step 8 .pure (.step 10 .pure (.step 12 .pure (.step 14 .pure (.step 3 .quiet (.step 5 .quiet (.step 9 .quiet (.tail [(11, .firm), (13, .firm), (15, .firm), (16, .keep), (17, .pure), (18, .keep), (19, .keep), (20, .pure), (21, .keep)])))))))))))))) mixed (by kernel_rfl) (by kernel_rfl) rfl (by decide) (by kernel_rfl) (by kernel_rfl) (by (repeat (first | exact noPanic_ends | exact noPanic_endsE | exact noPanic_endsI | exact noPanic_endsY | exact noPanic_endsA | (with_reducible apply noPanic_then) | (with_reducible apply noPanic_block))); fail_if_success intros) ?_; all_goals ((refine z_p w_move ?_)); all_goals ((first | (refine z_p w_nil_box ?_) | (refine z_p w_nil_ref ?_))); all_goals ((first | (refine z_p w_field_box ?_) | (refine z_p w_field_ref ?_) | (refine z_p w_field_el ?_))); all_goals ((first | (refine z_p w_field_box ?_) | (refine z_p w_field_ref ?_) | (refine z_p w_field_el ?_))); all_goals ((refine z_p w_move ?_)); all_goals ((first | (refine z_p w_nil_box ?_) | (refine z_p w_nil_ref ?_))); all_goals ((first | (refine z_p w_field_box ?_) | (refine z_p w_field_ref ?_) | (refine z_p w_field_el ?_))); all_goals ((first | (refine z_p w_field_box ?_) | (refine z_p w_field_ref ?_) | (refine z_p w_field_el ?_))); all_goals ((first | (refine z_p w_field_box ?_) | (refine z_p w_field_ref ?_) | (refine z_p w_field_el ?_))); all_goals ((first | (refine z_p w_field_box ?_) | (refine z_p w_field_ref ?_) | (refine z_p w_field_el ?_))); all_goals ((first | (refine z_q w_load_box ?_) | (refine z_q w_load_ref ?_) | (refine z_q w_load_el ?_) | (refine z_q w_load_boxz ?_))); all_goals ((first | (refine z_q w_load_boxs ?_) | (refine z_q w_load_refs ?_) | (refine z_q w_load_el_all ?_) | (refine z_q w_load_els ?_))); all_goals ((first | (refine z_q w_load_box ?_) | (refine z_q w_load_ref ?_) | (refine z_q w_load_el ?_) | (refine z_q w_load_boxz ?_))); all_goals (refine tr_tail ?_); all_goals (refine tj_load ?_); all_goals (refine tj_load ?_); all_goals (refine tj_load ?_); all_goals (refine tj_entry rfl rfl rfl rfl rfl rfl rfl rfl rfl (by first | exact ToD.d _ | exact ToD.nils _ | exact ToD.own rfl) (by first | exact Comp.int .. | exact Comp.str .. | exact Comp.agg (by (repeat (first | exact EqC.nil | apply EqC.int | apply EqC.bool | apply EqC.str)); fail_if_success intros)) (ltd rfl) (ltd rfl) rfl rfl rfl (by (first | exact keys_comp' _ _ _ | exact keys_more _ _ _ _ _)) (by (first | exact miss_of (by assumption) | exact miss_more (by assumption) (by assumption))) rfl ?_); all_goals (refine tj_entry rfl rfl rfl rfl rfl rfl rfl rfl rfl (by first | exact ToD.d _ | exact ToD.nils _ | exact ToD.own rfl) (by first | exact Comp.int .. | exact Comp.str .. | exact Comp.agg (by (repeat (first | exact EqC.nil | apply EqC.int | apply EqC.bool | apply EqC.str)); fail_if_success intros)) (ltd rfl) (ltd rfl) rfl rfl rfl (by (first | exact keys_comp' _ _ _ | exact keys_more _ _ _ _ _)) (by (first | exact miss_of (by assumption) | exact miss_more (by assumption) (by assumption))) rfl ?_); all_goals (refine tj_nil ?_); all_goals (refine z_nil qf2_0 ?_) | apply_assumption -exfalso -symm)
    all_goals first
      | (obtain rfl : k = t.wires.length := by omega
         refine tc_freeze (t := 2) (env' := [(3, .d (.bool true))]) (H' := []) rfl rfl (.cons (.d _) (.cons (.d _) (.cons (.d _) (.cons (.d _) (.map rfl .nil))))) rfl (by (repeat (first | exact Sub.nil | apply Sub.cons rfl)); fail_if_success intros) (by (repeat (first | exact Sub.nil | apply Sub.cons rfl)); fail_if_success intros) rfl rfl ?_
         (refine tc_ret (y_ret ?_))
         unfold vJoin
         rw [if_pos ((To.joins_iff t).2 ⟨by omega, by omega, by omega, by assumption, hp⟩)]
         simp only [List.take_length]
         rfl)
      | ((refine tc_ret (y_ret ?_))
         rw [hlate k (by omega) (fun hf => by
           obtain ⟨f1, f2, f3, f4, f5, f6, f7⟩ := hf
           first
             | exact f1 (lookP_some (p := t.wires[k].a) (by assumption))
             | exact f2 (lookP_some (p := t.wires[k].b) (by assumption))
             | exact f3 (by assumption)
             | exact f4 (port_same (by assumption))
             | exact f5 (port_same (by assumption))
             | exact absurd f6 (by assumption)
             | exact absurd f7 (by assumption))]
         rfl)
      | (have hlt : k < t.wires.length := by omega
         refine ⟨k + 1, ⟨by omega, fun j hj hjk => ?_⟩, by omega, ?_⟩
         · rcases Nat.lt_or_ge j k with h | h
           · exact hp j hj h
           · obtain rfl : j = k := by omega
             exact ⟨lookP_none (p := t.wires[j].a) (by assumption), lookP_none (p := t.wires[j].b) (by assumption), by assumption, port_ne (by assumption), port_ne (by assumption), by assumption, by assumption⟩
         · rw [keys_take _ _ hlt, vals_take _ _ hlt]
           exact y_wk)
  · (refine tc_ret (y_ret ?_))
    rw [hbad (fun h => hb (by have := h.2.2.2; exact this))]; rfl
end
section
def qf5_0 : List Nat := [0, 2, 3, 4, 5, 6, 14, 15]
def qf5_1 : List Nat := [0, 1, 3, 4, 5, 6, 7, 24, 32, 33, 34, 57]
def qf5_2 : Plan := lin [1, 8, 5, 12]
def qf5_3 : Plan := lin [16, 20, 24, 32, 1, 4, 8, 13, 29, 36, 41, 44, 48, 52, 58, 63, 64]
namespace To
def treeL (t : Topo) : List Int := (order t).foldl (fun l p => l.set p.node.toNat p.link) (List.replicate t.nodes.toNat 0)
theorem Joins.sound {t : Topo} (h : Joins t) : Sound t := sound_of h.1 h.2.1 h.2.2.1 h.2.2.2.1
end To
def dL (n : Int) : D := .int .i64 n
def foundV (l : List To.Port) : List V := (List.range 8).map fun (j : Nat) => .d (.bool (l.any fun x => x.node == (j : Int)))
theorem foundV_len (l : List To.Port) : (foundV l).length = 8 := by simp [foundV]
theorem found_get (l : List To.Port) (n : Int) (h0 : 0 ≤ n) (h8 : n < 8) : (foundV l)[0 + n.toNat * 1]? = some (.d (.bool (l.any fun x => x.node == n))) := by
  have : n.toNat < 8 := by omega
  simp only [foundV, Nat.zero_add, Nat.mul_one]
  rw [List.getElem?_map, List.getElem?_range this]
  simp only [Option.map_some]
  rw [Int.toNat_of_nonneg h0]
theorem found_set (l : List To.Port) (q : To.Port) (h0 : 0 ≤ q.node) (h8 : q.node < 8) : (foundV l).set (0 + q.node.toNat * 1) (.d (.bool true)) = foundV (l ++ [q]) := by
  apply List.ext_getElem?
  intro j
  simp only [foundV, Nat.zero_add, Nat.mul_one, List.getElem?_set, List.getElem?_map, List.length_map, List.length_range]
  by_cases hj : j < 8
  · rw [List.getElem?_range hj]
    simp only [Option.map_some, List.any_append, List.any_cons, List.any_nil, Bool.or_false]
    by_cases e : q.node.toNat = j
    · subst e
      rw [if_pos rfl, if_pos (by omega)]
      have : (q.node == ((q.node.toNat : Nat) : Int)) = true := by rw [Int.toNat_of_nonneg h0]; simp
      rw [this, Bool.or_true]
    · rw [if_neg e]
      have : (q.node == (j : Int)) = false := by
        cases hb : q.node == (j : Int) with
        | false => rfl
        | true => have := eq_of_beq hb; omega
      rw [this, Bool.or_false]
  · rw [List.getElem?_eq_none (by simp; omega)]
    by_cases e : q.node.toNat = j
    · omega
    · rw [if_neg e]; rfl
theorem any_all (l : List To.Port) (n : Int) : (l.all fun x => x.node != n) = !(l.any fun x => x.node == n) := by
  induction l with
  | nil => rfl
  | cons x l ih => rw [List.all_cons, List.any_cons, Bool.not_or, ih]; rfl
namespace To
theorem look_peer {t : Topo} {p q : Port} (h : lookP (pairs t.wires) p = some q) : peer t.wires p = some q := by rw [← lookP_pairs]; exact h
theorem look_rng {t : Topo} (hs : Sound t) {p q : Port} (h : lookP (pairs t.wires) p = some q) : 0 ≤ q.node ∧ q.node < 8 ∧ q.node < t.nodes := by
  have := peer_range hs.wires (look_peer h)
  have := hs.n
  unfold inR at *
  omega
theorem meet_new {ws : List Wire} {l : List Port} {p q : Port} (h : peer ws p = some q) (hb : (l.any fun x => x.node == q.node) = false) : meet ws l p = l ++ [q] := by
  unfold meet
  rw [h]
  dsimp only
  rw [any_all, hb]
  rfl
theorem meet_old {ws : List Wire} {l : List Port} {p q : Port} (h : peer ws p = some q) (hb : (l.any fun x => x.node == q.node) = true) : meet ws l p = l := by
  unfold meet
  rw [h]
  dsimp only
  rw [any_all, hb]
  rfl
theorem meet_none {ws : List Wire} {l : List Port} {p : Port} (h : peer ws p = none) : meet ws l p = l := by
  unfold meet
  rw [h]
def treeK (n : Nat) (l : List Port) : List Int := l.foldl (fun l p => l.set p.node.toNat p.link) (List.replicate n 0)
theorem treeK_len (n : Nat) (l : List Port) : (treeK n l).length = n := by
  unfold treeK
  have : ∀ (l : List Port) (a : List Int), (l.foldl (fun l p => l.set p.node.toNat p.link) a).length = a.length := by
    intro l
    induction l with
    | nil => intro a; rfl
    | cons x l ih => intro a; rw [List.foldl_cons, ih, List.length_set]
  rw [this, List.length_replicate]
theorem treeK_snoc (n : Nat) (l : List Port) (p : Port) : treeK n (l ++ [p]) = (treeK n l).set p.node.toNat p.link := by
  unfold treeK
  rw [List.foldl_append]
  rfl
end To
theorem dL_set (l : List Int) (i : Nat) (x : Int) : (l.map dL).set i (.int .i64 x) = (l.set i x).map dL := by
  rw [List.map_set]; rfl
theorem drop_head {xs : List D} {l : List To.Port} {p i : Nat} (h : xs.drop p = (l.drop i).map dPort) (hi : i < l.length) : xs[p]? = some (dPort l[i]) := by
  have := congrArg (fun l => l[0]?) h
  simp only [List.getElem?_drop, List.getElem?_map, Nat.add_zero] at this
  rw [this, List.getElem?_eq_getElem hi]
  rfl
theorem drop_step {xs : List D} {l : List To.Port} {p i : Nat} (h : xs.drop p = (l.drop i).map dPort) : xs.drop (p + 1) = (l.drop (i + 1)).map dPort := by
  have := congrArg (fun l => l.drop 1) h
  simpa only [List.drop_drop, ← List.map_drop] using this
theorem drop_lens {xs : List D} {l : List To.Port} {p i : Nat} (h : xs.drop p = (l.drop i).map dPort) : xs.length - p = l.length - i := by
  have := congrArg List.length h
  simpa using this
attribute [local irreducible] TR TC
theorem tree_fn (gl : List (Nat × List D)) (t : To.Topo) (hj : To.Joins t) : FnD prog gl 129 [.d (dGraph t)] (fun v => v = .tup [.d (.list 1 ((To.treeL t).map dL)), .d (.int .i64 (To.order t).length)]) := by
  have hs := hj.sound
  have hn0 := hs.n.1
  have hn8 := hs.n.2
  have hh := hs.host
  unfold To.inR at hh
  obtain ⟨hh0, hh1⟩ := hh
  unfold dGraph
  (refine y_enter func129 ntmps129 results129 fun w M => ?_)
  ((repeat' first | refine tr_at 12 ?_; (refine z_make 12 ?_) | refine tr_at 4 ?_; (refine z_alloc 4 ?_) | refine tr_at 5 ?_; (refine z_alloc 5 ?_) | refine tr_at 14 ?_; (refine tr_keep [0, 2, 3, 4, 5, 6, 13, 14, 15] ?_); refine y_inline func154 ntmps154 results154 fun tm sy => ?_; simp only [slots, shift, zipPs, List.nil_append, List.cons_append, List.append_nil, List.map_cons, List.map_nil, List.zipIdx_cons, List.zipIdx_nil, Nat.reduceAdd]; refine halt ?_ | refine yyp ?_; try refine s_bu ?_ ?_ <;> intro hb | refine yy ?_ | refine at_nil ?_; refine z_nil qf5_0 ?_ | refine tc_seq fun K hK => ?_ | refine tc_at 6 ?_; refine z_draw [] qf5_2 ?_ | apply_assumption -exfalso -symm); all_goals try refine unhalt ?_)
  (repeat' first | refine tr_at 1 ?_; (refine z_box 1001 ?_) | refine yyp ?_; try refine s_bu ?_ ?_ <;> intro hb | refine yy ?_ | refine at_nil ?_; refine z_nil [0, 1, 2, 3] ?_ | refine tc_seq fun K hK => ?_ | apply_assumption -exfalso -symm)
  (refine tc_ret (y_reti ?_))
  simp only [oneOf]
  (repeat' first | refine at_nil ?_; refine z_nil qf5_0 ?_)
  (repeat' first | refine yy ?_ | refine tc_seq fun K hK => ?_ | refine tc_at 6 ?_; refine z_draw [] qf5_2 ?_ | apply_assumption -exfalso -symm)
  refine tc_keep [14, 5, 4] ?_
  (refine tc_range rfl rfl rfl func171 rfl ntmps171 results171 rfl rfl (by (repeat (first | exact Nub.nil _ | apply Nub.skip rfl | apply Nub.keep rfl)); fail_if_success intros) fun tm fn0 sy D0 htm hnt hlow => ?_; simp only [slots, shift, zipPs, List.nil_append, List.cons_append, List.append_nil, List.map_cons, List.map_nil, List.zipIdx_cons, List.zipIdx_nil, Nat.reduceAdd])
  ((repeat' first | refine tr_at 3 ?_; (refine z_alloc 2003 ?_) | refine tc_at 2 ?_; refine halt ?_ | refine yyp ?_; try refine s_bu ?_ ?_ <;> intro hb | refine yy ?_ | refine at_nil ?_; refine z_nil qf5_1 ?_ | refine tc_seq fun K hK => ?_ | refine tc_at 9 ?_; refine z_draw [15] qf5_3 ?_ | apply_assumption -exfalso -symm); all_goals try refine unhalt ?_)
  rw [show ([V.d (.bool false), .d (.bool false), .d (.bool false), .d (.bool false), .d (.bool false), .d (.bool false), .d (.bool false), .d (.bool false)].set (0 + t.host.node.toNat * 1) (constV (.bool true))) = foundV [t.host] from found_set [] t.host hh0 (by omega)]
  (repeat' first | refine tr_at 21 ?_; (refine z_lit 2021 ?_) | refine yyp ?_; try refine s_bu ?_ ?_ <;> intro hb | refine yy ?_ | refine at_nil ?_; refine z_nil qf5_1 ?_ | refine tc_seq fun K hK => ?_ | refine tc_at 9 ?_; refine z_draw [15] qf5_3 ?_ | apply_assumption -exfalso -symm)
  refine tc_suf (t := 4) (n := 2021) (k := 0) rfl rfl ?_
  refine tc_fam (ι := Nat × List To.Port × List D × Nat × Nat) (fun x => ⟨[(4, .suf 2021 x.2.2.2.2 x.2.2.2.1), (3, .ptr 2003 0), (1, .ptr 1001 0), (0, .clo (.yield (D0 + 1)) [] []), (100005, .ptr 5 0), (100004, .ptr 4 0), (100014, .clo (.func 171) [] [.ptr 1001 0])],
      [(4, .box [.own 12 0]), (12, .row 3 1 false ((To.treeK t.nodes.toNat (x.2.1.take x.1)).map dL) 0), (5, .box [.d (.int .i64 x.1)]), (1001, .box [.d (dGraph t)]), (2003, .box (foundV x.2.1)), (2021, .row 80 2 true x.2.2.1 x.2.2.2.2)], gl⟩)
    (fun x => x.1 ≤ x.2.1.length ∧ To.Good t.nodes x.2.1 ∧ To.order t = To.bfs t.wires (9 - x.1) x.1 x.2.1 ∧ x.2.2.2.1 ≤ x.2.2.1.length ∧ x.2.2.1.drop x.2.2.2.1 = (x.2.1.drop x.1).map dPort ∧ x.2.2.1.length ≤ x.2.1.length) (fun x => 9 - x.1)
    (0, [t.host], [dPort t.host], 0, 0) ⟨by simp, ⟨by simp, fun p hp => by simp at hp; subst hp; exact hs.host⟩, rfl, by simp, rfl, by simp⟩ ?_ fun ⟨i, l, xs, p, ver⟩ ⟨hi, hg, ho, hp, hd, hx⟩ => ?_
  · dsimp only
    rw [show (To.treeK t.nodes.toNat ([t.host].take 0)).map dL = List.replicate t.nodes.toNat (D.int .i64 0) by simp [To.treeK, dL]]
    exact y_wk
  dsimp only at hi hg ho hp hd hx ⊢
  have hl8 := hg.len hn8 (by omega)
  have hlen := drop_lens hd
  rcases Nat.lt_or_ge i l.length with hil | hil
  · have hpx := drop_head hd hil
    have hr := hg.range _ (List.getElem_mem hil)
    unfold To.inR at hr
    obtain ⟨hr0, hr1⟩ := hr
    have htl := To.treeK_len t.nodes.toNat (l.take i)
    ((repeat' first | refine tr_at 31 ?_; (refine tr_keep [0, 1, 3, 4, 5, 6, 7, 24, 27, 30, 31, 32, 33, 34, 57] ?_); (refine s_yield (envc := [(4, .ptr 4 0), (5, .ptr 5 0)]) htm hnt hlow rfl rfl (by (repeat (first | exact Evs.nil | apply Evs.cons rfl rfl)); fail_if_success intros) rfl rfl (by decide) (by (repeat (first | exact Nub.nil _ | apply Nub.skip rfl | apply Nub.keep rfl)); fail_if_success intros) (by simp only [shift, List.map_cons, List.map_nil, Nat.reduceAdd]; (repeat (first | exact Sub.nil | apply Sub.cons rfl)); fail_if_success intros) rfl (ltd rfl) rfl fun tm1 sy1 => ?_; simp only [slots, shift, zipPs, List.nil_append, List.cons_append, List.append_nil, List.map_cons, List.map_nil, List.zipIdx_cons, List.zipIdx_nil, Nat.reduceAdd]; refine halt ?_) | refine yyp ?_; try refine s_bu ?_ ?_ <;> intro hb | refine yy ?_ | refine at_nil ?_; refine z_nil qf5_1 ?_ | refine tc_seq fun K hK => ?_ | refine tc_at 9 ?_; refine z_draw [15] qf5_3 ?_ | apply_assumption -exfalso -symm); all_goals try refine unhalt ?_)
    (repeat' first | refine tr_at 6 ?_; (refine z_alloc 6 ?_) | refine yy ?_ | refine at_nil ?_; refine z_nil qf5_0 ?_ | refine tc_seq fun K hK => ?_ | refine tc_at 6 ?_; refine z_draw [] qf5_2 ?_ | apply_assumption -exfalso -symm)
    (refine EndsA.mk rfl ?_)
    (repeat' first | refine yyp ?_; try refine s_bu ?_ ?_ <;> intro hb | refine yy ?_ | refine at_nil ?_; refine z_nil qf5_0 ?_ | refine tc_seq fun K hK => ?_ | refine tc_at 6 ?_; refine z_draw [] qf5_2 ?_ | apply_assumption -exfalso -symm)
    (refine y_endy ?_)
    (repeat' first | refine yyp ?_; try refine s_bu ?_ ?_ <;> intro hb | refine at_nil ?_; refine z_nil qf5_1 ?_)
    (repeat' first | refine yyp ?_; try refine s_bu ?_ ?_ <;> intro hb | refine yy ?_ | refine at_nil ?_; refine z_nil qf5_1 ?_ | refine tc_seq fun K hK => ?_ | refine tc_at 9 ?_; refine z_draw [15] qf5_3 ?_ | apply_assumption -exfalso -symm)
    refine tc_fam (ι := Nat × List To.Port × List D × Nat × Nat) (fun x => ⟨[(33, .d (.int .i64 x.1)), (4, .suf 2021 x.2.2.2.2 x.2.2.2.1), (3, .ptr 2003 0), (1, .ptr 1001 0), (0, .clo (.yield (D0 + 1)) [] []), (100005, .ptr 5 0), (100004, .ptr 4 0), (100014, .clo (.func 171) [] [.ptr 1001 0])],
        [(4, .box [.own 12 0]), (12, .row 3 1 false ((To.treeK t.nodes.toNat (l.take (i + 1))).map dL) 0), (5, .box [.d (.int .i64 (i + 1 : Nat))]), (1001, .box [.d (dGraph t)]), (2003, .box (foundV x.2.1)), (2021, .row 80 2 true x.2.2.1 x.2.2.2.2)], gl⟩)
      (fun x => x.1 ≤ 4 ∧ To.Good t.nodes x.2.1 ∧ (∃ m, x.2.1 = l ++ m) ∧ To.visit t.wires l l[i].node 0 = To.visit t.wires x.2.1 l[i].node x.1 ∧ x.2.2.2.1 ≤ x.2.2.1.length ∧ x.2.2.1.drop x.2.2.2.1 = (x.2.1.drop i).map dPort ∧ x.2.2.1.length ≤ x.2.1.length) (fun x => 4 - x.1)
      (0, l, xs, p, ver) ⟨by simp, hg, ⟨[], by simp⟩, rfl, hp, hd, hx⟩ ?_ fun ⟨k, l2, xs2, p2, ver2⟩ ⟨hk, hg2, hm2, hv, hp2, hd2, hx2⟩ => ?_
    · dsimp only
      rw [dL_set, ← To.treeK_snoc, get_take l hil]
      exact y_wk
    dsimp only at hk hg2 hm2 hv hp2 hd2 hx2 ⊢
    have hl28 := hg2.len hn8 (by omega)
    have hlen2 := drop_lens hd2
    have hil2 : i < l2.length := by obtain ⟨m, rfl⟩ := hm2; simp only [List.length_append]; omega
    have he2 : l2[i] = l[i] := by obtain ⟨m, rfl⟩ := hm2; exact List.getElem_append_left hil
    have hpx2 := drop_head hd2 hil2
    have hfl := foundV_len l2
    ((repeat' first | refine tr_at 47 ?_; refine s_lookup_port rfl rfl rfl rfl (ltd rfl) rfl rfl (fun q hq => ?_) (fun hq => ?_) <;> try (have hqr := To.look_rng hs hq; obtain ⟨hq0, hq8, hq9⟩ := hqr; have hfq := found_get l2 q.node hq0 hq8) | refine tr_at 6 ?_; (refine z_alloc 2006 ?_) | refine tr_at 26 ?_; (refine z_p (w_slice_suf (l := 1)) ?_) | refine tc_at 12 ?_; refine halt ?_ | refine yyp ?_; try refine s_bu ?_ ?_ <;> intro hb | refine yy ?_ | refine yy2 ?_ ?_ <;> intro hcmp | refine at_nil ?_; refine z_nil qf5_1 ?_ | refine tc_seq fun K hK => ?_ | refine tc_at 9 ?_; refine z_draw [15] qf5_3 ?_ | apply_assumption -exfalso -symm); all_goals try refine unhalt ?_)
    · refine ⟨(k + 1, l2, xs2, p2, ver2), ⟨by dsimp only; omega, hg2, hm2, ?_, hp2, hd2, hx2⟩, by dsimp only; omega, y_wk⟩
      dsimp only
      rw [hv, To.visit_step _ _ _ _ (by omega), ← he2, To.meet_old (To.look_peer hq) hb]
    · rw [show (foundV l2).set (0 + q.node.toNat * 1) (constV (.bool true)) = foundV (l2 ++ [q]) from found_set l2 q hq0 hq8]
      (repeat' first | refine tr_at 63 ?_; (refine z_lit 2063 ?_) | refine yyp ?_; try refine s_bu ?_ ?_ <;> intro hb | refine yy ?_ | (refine at_append ?_; first | (refine z_append (fun kv => ?_)) | (refine z_append_suf (fun sx sp kv hsx hsp hsl => ?_))) | refine at_nil ?_; refine z_nil qf5_1 ?_ | refine tc_seq fun K hK => ?_ | refine tc_at 9 ?_; refine z_draw [15] qf5_3 ?_ | apply_assumption -exfalso -symm)
      refine ⟨(k + 1, l2 ++ [q], sx, sp, kv), ⟨by dsimp only; omega, ?_, ?_, ?_, hsp, ?_, ?_⟩, by dsimp only; omega, y_wk⟩
      · dsimp only
        rw [← To.meet_new (To.look_peer hq) (by simpa using hb)]
        exact hg2.meet hs.wires _
      · obtain ⟨m, rfl⟩ := hm2
        exact ⟨m ++ [q], by simp⟩
      · dsimp only
        rw [hv, To.visit_step _ _ _ _ (by omega), ← he2, To.meet_new (To.look_peer hq) (by simpa using hb)]
      · dsimp only
        rw [hsx, hd2, List.drop_append_of_le_length (by omega), List.map_append]
        rfl
      · dsimp only
        simp only [List.length_cons, List.length_nil, List.length_append] at hsl ⊢
        omega
    · refine ⟨(k + 1, l2, xs2, p2, ver2), ⟨by dsimp only; omega, hg2, hm2, ?_, hp2, hd2, hx2⟩, by dsimp only; omega, y_wk⟩
      dsimp only
      rw [hv, To.visit_step _ _ _ _ (by omega), ← he2, To.meet_none (by rw [← To.lookP_pairs]; exact hq)]
    · have hk4 : k = 4 := by omega
      subst hk4
      have ht2 : l2.take (i + 1) = l.take (i + 1) := by obtain ⟨m, rfl⟩ := hm2; exact List.take_append_of_le_length (by omega)
      refine ⟨(i + 1, l2, xs2, p2 + 1, ver2), ⟨by dsimp only; omega, hg2, ?_, by dsimp only; omega, drop_step hd2, hx2⟩, by dsimp only; omega, ?_⟩
      · dsimp only
        rw [ho, show 9 - i = (9 - (i + 1)) + 1 by omega, To.bfs_step _ _ _ _ hil, hv]
        rfl
      · dsimp only
        rw [ht2]
        exact y_wk
  · have hil3 : i = l.length := by omega
    subst hil3
    have hol : To.order t = l := by rw [ho, To.bfs_done _ _ _ _ (by omega)]
    (repeat' first | refine yyp ?_; try refine s_bu ?_ ?_ <;> intro hb | refine yy ?_ | refine at_nil ?_; refine z_nil qf5_1 ?_ | refine tc_seq fun K hK => ?_ | refine tc_at 9 ?_; refine z_draw [15] qf5_3 ?_ | apply_assumption -exfalso -symm)
    (refine y_endi ?_)
    ((repeat' first | refine tc_at 6 ?_; refine halt ?_ | refine tc_seq fun K hK => ?_ | apply_assumption -exfalso -symm); all_goals try refine unhalt ?_)
    refine tc_share 12 rfl ?_
    (repeat' first | refine yyp ?_; try refine s_bu ?_ ?_ <;> intro hb | refine at_nil ?_; refine z_nil qf5_0 ?_ | refine tc_seq fun K hK => ?_ | refine tc_at 6 ?_; refine z_draw [] qf5_2 ?_ | apply_assumption -exfalso -symm)
    (refine tc_ret (y_ret ?_))
    simp only [oneOf]
    rw [List.take_length, hol]
    unfold To.treeL
    rw [hol]
    rfl
end
section
end
section
end
section
end
section
end
section
theorem To.may_joins (t : To.Topo) : To.May t ↔ To.Joins t ∧ ((To.order t).length : Int) = t.nodes := by
  unfold To.May To.Joins
  constructor
  · rintro ⟨h1, h2, h3, h4, h5, h6, h7⟩; exact ⟨⟨h1, h2, h3, h4, h5, h6⟩, h7⟩
  · rintro ⟨⟨h1, h2, h3, h4, h5, h6⟩, h7⟩; exact ⟨h1, h2, h3, h4, h5, h6, h7⟩
theorem join_yes (gl : List (Nat × List D)) (t : To.Topo) (hj : To.Joins t) : FnD prog gl 128 [.d (dTopo t)] (fun v => v = .tup [.d (dGraph t), .d (.bool true)]) := by
  have := join_fn gl t
  unfold vJoin at this
  rwa [if_pos hj] at this
theorem join_no (gl : List (Nat × List D)) (t : To.Topo) (hj : ¬ To.Joins t) : FnD prog gl 128 [.d (dTopo t)] (fun v => v = .tup [.d (.raw (.pointer none)), .d (.bool false)]) := by
  have := join_fn gl t
  unfold vJoin at this
  rwa [if_neg hj] at this
attribute [local irreducible] TR TC
theorem valid_yes (gl : List (Nat × List D)) (t : To.Topo) (hj : To.Joins t) : FnD prog gl 95 [.d (dTopo t)] (fun v => v = .tup [.d (dGraph t), .d (.list 1 ((To.treeL t).map dL)), .d (.bool (decide (To.May t)))]) := by
  have hm := To.may_joins t
  unfold dTopo
  (refine y_enter func95 ntmps95 results95 fun w M => ?_)
  (repeat' first | refine tr_at 1 ?_; (refine z_box 1 ?_) | refine yyp ?_; try refine s_bu ?_ ?_ <;> intro hb | refine yy ?_ | refine yy2 ?_ ?_ <;> intro hcmp | refine at_call 128 ?_; refine y_call (hc := (join_yes gl t hj)) ?_ | refine at_call 129 ?_; refine y_call (hc := (tree_fn gl t hj)) ?_ | refine at_nil ?_; refine z_nil [0, 1, 2, 3, 4, 5, 6, 7, 8, 15] ?_ | refine tc_seq fun K hK => ?_ | refine tc_at 5 ?_; refine z_draw [] (lin [0, 4, 8, 12, 24, 28, 17, 20, 32]) ?_ | apply_assumption -exfalso -symm)
  all_goals
    (refine tc_ret (y_ret ?_))
    simp only [oneOf, V.tup.injEq, List.cons.injEq, V.d.injEq, D.bool.injEq, true_and, and_true, true_eq_decide_iff, false_eq_decide_iff]
    rw [hm]
    first | exact ⟨hj, by omega⟩ | exact fun h => absurd h.2 (by omega)
theorem valid_no (gl : List (Nat × List D)) (t : To.Topo) (hj : ¬ To.Joins t) : FnD prog gl 95 [.d (dTopo t)] (fun v => v = .tup [.d (.raw (.pointer none)), .d (.list 1 []), .d (.bool false)]) := by
  unfold dTopo
  (refine y_enter func95 ntmps95 results95 fun w M => ?_)
  (repeat' first | refine tr_at 1 ?_; (refine z_box 1 ?_) | refine yyp ?_; try refine s_bu ?_ ?_ <;> intro hb | refine yy ?_ | refine at_call 128 ?_; refine y_call (hc := (join_no gl t hj)) ?_ | refine at_nil ?_; refine z_nil [0, 1, 2, 3, 4, 5, 6, 7, 8, 15] ?_ | refine tc_seq fun K hK => ?_ | refine tc_at 5 ?_; refine z_draw [] (lin [0, 4, 8, 12, 24, 28, 17, 20, 32]) ?_ | apply_assumption -exfalso -symm)
  (refine tc_ret (y_ret ?_))
  rfl
theorem tmay_fn (gl : List (Nat × List D)) (t : To.Topo) : FnD prog gl 65 [.d (dTopo t)] (fun v => v = .d (.bool (decide (To.May t)))) := by
  unfold dTopo
  by_cases hj : To.Joins t
  · (refine y_enter func65 ntmps65 results65 fun w M => ?_)
    (repeat' first | refine tr_at 1 ?_; (refine z_box 1 ?_) | refine yyp ?_; try refine s_bu ?_ ?_ <;> intro hb | refine yy ?_ | refine at_call 95 ?_; refine y_call (hc := (valid_yes gl t hj)) ?_ | refine at_nil ?_; refine z_nil [0, 1, 2, 3, 4, 5, 6] ?_ | refine tc_seq fun K hK => ?_ | apply_assumption -exfalso -symm)
    all_goals
      (refine tc_ret (y_ret ?_))
      simp [oneOf, *]
  · have hm : ¬ To.May t := fun h => hj ((To.may_joins t).1 h).1
    (refine y_enter func65 ntmps65 results65 fun w M => ?_)
    (repeat' first | refine tr_at 1 ?_; (refine z_box 1 ?_) | refine yyp ?_; try refine s_bu ?_ ?_ <;> intro hb | refine yy ?_ | refine at_call 95 ?_; refine y_call (hc := (valid_no gl t hj)) ?_ | refine at_nil ?_; refine z_nil [0, 1, 2, 3, 4, 5, 6] ?_ | refine tc_seq fun K hK => ?_ | apply_assumption -exfalso -symm)
    (refine tc_ret (y_ret ?_))
    simp [oneOf, *]
namespace To
end To
end
section
section
variable {E : Set} {S : Sd} {Q : Exit → Sd → Prop} {ops : Array Oper} {draw : Bool} {rest : Todo} {way : Way3}
theorem tr_callP {d : Nat} {r : V} {o : Oper} (hdst : o.dst = some d) (hd : d < E.C.nt) (hg : S.gd ops o = some true) (hdf : isDefer o = false) (hw : way.loud = true)
    (hrun : ∀ β a w, StB E.C β S a w → ∃ f us, (execOp a.eval o).run E.P w = .ok (.enter f us) w ∧ Calls E.P f us w fun e w' => ∃ x, e = .returned x ∧ Grows w w' ∧ RepV w' (Mut E.C.M0 β S.H) β S.H r x)
    (h : TR E draw ops Q rest (S.put d r)) : TR E draw ops Q (.step o way rest) S := fun a w hS => by
  have hS0 := hS
  have key : ∀ w1, Grows w w1 → ∀ K : Act → World → Prop, (∀ a2 w2, Grows w1 w2 → St E.C (S.put d r) a2 w2 → K a2 w2) → o.wp E.P a w1 K (Qof E.C Q) := fun w1 g K hK => by
    obtain ⟨β, hB⟩ := hS.later g
    obtain ⟨f, us, h1, h2⟩ := hrun β a w1 hB
    unfold Oper.wp
    rw [h1, Oper.upon_enter]
    refine h2.mono ?_
    rintro e w2 ⟨x, rfl, g2, hv⟩
    rw [hdst]
    exact hK _ _ g2 ⟨β, (hB.later g2).put hd hv⟩
  cases draw with
  | true =>
    dsimp only
    cases way with
    | pure => cases hw
    | quiet => cases hw
    | grow =>
      simp only [wpMix3]
      intro n
      rw [Sd.gd_sound hS0 hg, if_pos rfl]
      exact key n.w n.grows _ fun a2 w2 g2 hs2 => ⟨g2, h _ _ hs2⟩
    | bar =>
      simp only [wpMix3]
      intro n
      rw [Sd.gd_sound hS0 hg, if_pos rfl]
      exact key n.w n.grows _ fun a2 w2 _ hs2 => h _ _ hs2
  | false => exact listIn_of_wp hS0 hg hdf fun K hK => key w (Grows.refl w) K fun a2 w2 _ hs2 => hK _ _ (h _ _ hs2)
end
end
section
theorem modify_get {α : Type} (a : Array α) (b : Nat) (f : α → α) (k : Nat) : (a.modify b f)[k]? = if b = k then a[k]?.map f else a[k]? := by
  rw [Array.getElem?_modify]
def World.marked (w : World) (b m : Nat) : World := w.freeze ⟨b, m, none⟩ 1
theorem marked_get {w : World} {b m : Nat} {cur : Array Value} {e : TypeId} (h : w.heap[b]? = some (.cells cur e (0, 0))) (k : Nat) : (World.marked w b m).heap[k]? = if b = k then some (.cells cur e (m, m + 1)) else w.heap[k]? := by
  unfold World.marked World.freeze
  rw [if_neg (by decide)]
  dsimp only
  rw [modify_get]
  split
  · rename_i e; subst e; rw [h]; rfl
  · rfl
theorem marked_cell {w : World} {b m : Nat} {cur : Array Value} {e : TypeId} (h : w.heap[b]? = some (.cells cur e (0, 0))) (p : Addr) : (World.marked w b m).cell? p = w.cell? p := by
  unfold World.cell?
  rw [marked_get h]
  by_cases hb : b = p.block
  · rw [if_pos hb, ← hb, h]
  · rw [if_neg hb]
theorem run_conv_mark {P : Program} {t e : TypeId} (ht : P.underlying t = some (.slice e)) (he : P.underlying e = some (.int .u8)) {w : World} {b : Nat} {cur : Array Value} {e' : TypeId} (h : w.heap[b]? = some (.cells cur e' (0, 0))) (n c : Nat) :
    (convert t t (.slice (some ⟨b, 0, none⟩) n c)).run P w = .ok (.slice (some ⟨b, 0, none⟩) n c) (World.marked w b cur.size) := by
  have hsh : w.shape? b = some (e', cur.size) := by unfold World.shape?; rw [h]
  simp [convert, run_underlying ht, run_underlying he, markStringish, hsh, World.marked]
theorem t_mark {E : Set} {env : List (Nat × V)} {H H' : List (Nat × Ob)} {gl : List (Nat × List D)} {dst : Option Tmp} {ty : TypeId} {pos : String} {af : Array Edge} {gd : Option (Nat × Bool)} {t e e' n k : Nat} {x : Operand} {d0 : D} {xs : List D} (ht : E.P.underlying t = some (.slice e)) (he : E.P.underlying e = some (.int .u8))
    (hx : Sd.ev ⟨env, H, gl⟩ x = some (.own n k)) (hox : okOp x = true) (hl : look n H = some (.row e' 1 true (d0 :: xs) k)) (hdr : Drop [n] H H') (hN : (E.C.N.all fun n => (look n H').isSome) = true) (hno : look n H' = none) :
    TurnV E ⟨env, H, gl⟩ ⟨dst, .convert t t x, ty, pos, af, gd⟩ ⟨env, H', gl⟩ (.d (.list 1 (d0 :: xs))) := TurnV.mk fun β a w h => by
  have h0 : a.eval x = (β n).v := h.ev hx hox e' 1 true _ hl
  obtain ⟨ys, h1, h2⟩ := h.obs n _ hl
  obtain ⟨h3, h4⟩ := h1
  rcases h4 with ⟨_, h4⟩ | ⟨g, cap, cur, h4, _, h5, h6, h7, h8, h9⟩
  · cases h4
  have hbn : own (β n) (.row e' 1 true (d0 :: xs) k) g := .inl (by rw [h4]; rfl)
  have hk0 : ∀ m ob, look m H' = some ob → look m H = some ob := fun m ob hm => hdr.look hm
  have hcell : ∀ p, (World.marked w g cur.size).cell? p = w.cell? p := fun p => marked_cell h5 p
  have hget : ∀ b, b ≠ g → (World.marked w g cur.size).heap[b]? = w.heap[b]? := fun b hb => by rw [marked_get h5, if_neg (Ne.symm hb)]
  have hsz : (World.marked w g cur.size).heap.size = w.heap.size := by
    unfold World.marked World.freeze
    rw [if_neg (by decide)]
    simp
  have hmut : Mut E.C.M0 β H g ((d0 :: xs).length * 1) := .inr ⟨n, _, hl, hbn, .inr (Nat.le_refl _)⟩
  have hsub : ∀ b o, Mut E.C.M0 β H' b o → Mut E.C.M0 β H b o := fun b o hm => by
    rcases hm with hm | ⟨m, ob, q1, q2, q3⟩
    · exact .inl hm
    · exact .inr ⟨m, ob, hk0 m ob q1, q2, q3⟩
  have kp : Keeps w (Mut E.C.M0 β H) (World.marked w g cur.size) (Mut E.C.M0 β H') := ⟨fun b o y hm hc => ⟨fun q => hm (hsub b o q), by rw [hcell]; exact hc⟩, fun b ob hs hm hb => ⟨fun o q => hm o (hsub b o q), by
    rw [hget b (fun e => by subst e; exact hm _ hmut)]
    exact hb⟩⟩
  have hH : ∀ m e'' sz' sh' xs' k', look m H' = some (.row e'' sz' sh' xs' k') → ∃ sh' xs', look m H = some (.row e'' sz' sh' xs' k') := fun m e'' sz' sh' xs' k' hm => ⟨sh', xs', hk0 m _ hm⟩
  have hap : ∀ m ob, look m H' = some ob → ∀ b, own (β m) ob b → b ≠ g := fun m ob hm b hb e => by
    have hmn : m ≠ n := by rintro rfl; rw [hno] at hm; cases hm
    subst e
    exact h.apart m n b ob _ hmn (hk0 m ob hm) hl hb hbn
  have hfree : ∀ o, ¬ Mut E.C.M0 β H' g o := fun o hm => by
    rcases hm with hm | ⟨m, ob, q1, q2, _⟩
    · exact h.out n _ g o hl hbn hm
    · exact hap m ob q1 g q2 rfl
  have hcg : w.heap[g]? = some (.cells cur e' (0, 0)) := h5
  refine ⟨.slice (some ⟨g, 0, none⟩) (d0 :: xs).length cap, World.marked w g cur.size, β, ?_, ?_, ?_⟩
  · have hr := run_conv_mark ht he h5 (d0 :: xs).length cap
    simp only [execOp, h0, h4, Sem.run_bind, hr, Result.andThen_ok, Sem.run_pure]
  · refine ⟨h.size, h.small, ?_, ?_, ?_, ?_, ?_, ?_, ?_, ?_, ?_, h.low, h.fix, fun m hm => List.all_eq_true.1 hN m hm⟩
    · obtain ⟨Ds, q1, q2, q3⟩ := h.defers
      refine ⟨Ds, q1, q2, fun D hD => ⟨?_, (q3 D hD).2⟩⟩
      rw [hget D (fun e => by subst e; have := (q3 D hD).1; rw [hcg] at this; cases this)]
      exact (q3 D hD).1
    · intro p hp
      refine ⟨?_, (h.sys p hp).2⟩
      rw [hget p.1 (fun e => by have q := h.sys p hp; rw [e, hcg] at q; have q1 := q.1; simp only [Option.some.injEq] at q1; have q2 := q.2.1; rw [← q1] at q2; cases q2)]
      exact (h.sys p hp).1
    · intro t v hv
      obtain ⟨y, q1, q2⟩ := h.env t v hv
      exact ⟨y, q1, RepV.keep kp (fun _ => rfl) hH _ _ q2⟩
    · intro m ob hm
      exact RepO.keep kp (fun b hb => hget b (hap m ob hm b hb)) (fun vs hL => RepL.keep kp (fun _ => rfl) hH _ _ hL) (h.obs m ob (hk0 m ob hm))
    · exact fun m m' b ob ob' hne q1 q2 => h.apart m m' b ob ob' hne (hk0 m ob q1) (hk0 m' ob' q2)
    · exact fun m ob b q1 q2 => h.place m ob b (hk0 m ob q1) q2
    · exact fun g' cs hg => (h.glob g' cs hg).keep kp
    · have hf := h.frame
      refine ⟨hf.os, hf.tape, hf.output, ?_, fun q hq hqe => ?_⟩
      · rw [hsz]
        exact hf.size
      · rw [hget q (fun e => by
          subst e
          rcases h.place n _ q hl hbn with hp | hp
          · exact hqe hp
          · omega)]
        exact hf.block q hq hqe
    · exact fun m ob b o q1 q2 => h.out m ob b o (hk0 m ob q1) q2
  · refine ⟨some ⟨g, 0, none⟩, cap, ys, rfl, h6, h7, (fun h => by cases h), RepE.keep kp _ _ _ h2, fun j y hy => ⟨g, 0, rfl, hfree _, ?_⟩⟩
    rw [hcell, Nat.zero_add]
    have h10 : cur.toList[j]? = some y := by
      rw [← h9, List.getElem?_take] at hy
      split at hy
      · exact hy
      · cases hy
    exact box_cell (vs := cur.toList) (by rw [Array.toArray_toList]; exact h5) h10
section
variable {E : Set} {Q : Exit → Sd → Prop} {ops : Array Oper} {draw : Bool} {rest : Todo} {way : Way3} {ty : TypeId} {pos : String} {af : Array Edge} {gd : Option (Nat × Bool)}
variable {env : List (Nat × V)} {H : List (Nat × Ob)} {gl : List (Nat × List D)} {d : Nat}
theorem y_mark {t e e' n k : Nat} {x : Operand} {d0 : D} {xs : List D} {H' : List (Nat × Ob)} (ht : E.P.underlying t = some (.slice e)) (he : E.P.underlying e = some (.int .u8)) (h : TR E draw ops Q rest ⟨(d, .d (.list 1 (d0 :: xs))) :: env, H', gl⟩)
    (hx : Sd.ev ⟨env, H, gl⟩ x = some (.own n k) := by exact rfl) (hox : okOp x = true := by exact rfl) (hl : look n H = some (.row e' 1 true (d0 :: xs) k) := by exact rfl) (hdr : Drop [n] H H' := by (repeat (first | exact Drop.nil | apply Drop.drop rfl | apply Drop.take rfl)); fail_if_success intros) (hN : (E.C.N.all fun n => (look n H').isSome) = true := by rfl) (hno : look n H' = none := by rfl)
    (hd : d < E.C.nt := by exact ltd rfl) (hg : Sd.gd ⟨env, H, gl⟩ ops ⟨some d, .convert t t x, ty, pos, af, gd⟩ = some true := by exact rfl) (hw : isBar draw way = true := by exact rfl) : TR E draw ops Q (.step ⟨some d, .convert t t x, ty, pos, af, gd⟩ way rest) ⟨env, H, gl⟩ :=
  tr_turnV (t_mark ht he hx hox hl hdr hN hno) rfl hd hg rfl hw h
end
end
end Go.Proofs.YtjhbglklcddekaaGreatDoor
