/- Parts: F0, E1, F1, E2, E3, E4, E5. -/
import Derived.Test.YtcblefmjacofgaaGreatDoorA5
import Derived.Test.YtcblefmjacofgaaGreatDoorTA
set_option linter.all false
set_option linter.unusedVariables false
set_option linter.unusedSimpArgs false
namespace Go.Proofs.YtcblefmjacofgaaGreatDoor
open Go.RowKit
namespace To
def pairs (ws : List Wire) : List (Port × Port) := ws.flatMap fun w => [(w.a, w.b), (w.b, w.a)]
def Joins (t : Topo) : Prop := 1 ≤ t.nodes ∧ t.nodes ≤ 8 ∧ t.wires.length ≤ 32 ∧ (∀ p ∈ ports t, okPort t.nodes p) ∧ (ports t).Nodup ∧ (∀ w ∈ t.wires, w.a.node ≠ w.b.node)
def Fits (t : Topo) (ws : List Wire) (w : Wire) : Prop := w.a ∉ (pairs ws).map Prod.fst ∧ w.b ∉ (pairs ws).map Prod.fst ∧ w.a.node ≠ w.b.node ∧ w.a ≠ t.host ∧ w.b ≠ t.host ∧ okPort t.nodes w.a ∧ okPort t.nodes w.b
def Some (t : Topo) (k : Nat) : Prop := ∀ j (h : j < t.wires.length), j < k → Fits t (t.wires.take j) t.wires[j]
theorem keys_eq (ws : List Wire) : (pairs ws).map Prod.fst = ws.flatMap fun w => [w.a, w.b] := by
  induction ws with
  | nil => rfl
  | cons w ws ih => simp only [pairs, List.flatMap_cons, List.map_append] at ih ⊢; rw [ih]; rfl
theorem pairs_take (ws : List Wire) (k : Nat) (h : k < ws.length) : pairs (ws.take (k + 1)) = pairs (ws.take k) ++ [(ws[k].a, ws[k].b), (ws[k].b, ws[k].a)] := by
  unfold pairs
  rw [← get_take _ h, List.flatMap_append]
  rfl
theorem some_nodup (t : Topo) (k : Nat) (hk : k ≤ t.wires.length) (h : Some t k) : (t.host :: (pairs (t.wires.take k)).map Prod.fst).Nodup := by
  induction k with
  | zero => simp [pairs]
  | succ k ih =>
    have h1 := ih (by omega) (fun j hj hlt => h j hj (by omega))
    have h2 := h k (by omega) (by omega)
    obtain ⟨q1, q2, q3, q4, q5, _⟩ := h2
    rw [pairs_take _ _ (by omega)]
    simp only [List.map_append, List.map_cons, List.map_nil]
    have hne : t.wires[k].a ≠ t.wires[k].b := fun e => q3 (by rw [e])
    rw [← List.cons_append, List.nodup_append]
    refine ⟨h1, by simp [hne], fun x hx y hy => ?_⟩
    simp only [List.mem_cons, List.not_mem_nil, or_false] at hx hy
    rintro rfl
    rcases hx with rfl | hx
    · rcases hy with e | e
      · exact q4 e.symm
      · exact q5 e.symm
    · rcases hy with rfl | rfl
      · exact q1 hx
      · exact q2 hx
theorem joins_iff (t : Topo) : Joins t ↔ 1 ≤ t.nodes ∧ t.nodes ≤ 8 ∧ t.wires.length ≤ 32 ∧ okPort t.nodes t.host ∧ Some t t.wires.length := by
  have hp : ports t = t.host :: (pairs t.wires).map Prod.fst := by rw [keys_eq]; rfl
  constructor
  · rintro ⟨h1, h2, h3, h4, h5, h6⟩
    refine ⟨h1, h2, h3, h4 _ (by rw [hp]; simp), fun j hj _ => ?_⟩
    rw [hp] at h5
    have hm : ∀ p, p ∈ (pairs (t.wires.take j)).map Prod.fst → p ∈ (pairs t.wires).map Prod.fst := fun p hp => by
      rw [keys_eq] at hp ⊢
      rw [List.mem_flatMap] at hp ⊢
      obtain ⟨w, q1, q2⟩ := hp
      exact ⟨w, List.mem_of_mem_take q1, q2⟩
    have hs : (pairs t.wires).map Prod.fst = (pairs (t.wires.take j)).map Prod.fst ++ [t.wires[j].a, t.wires[j].b] ++ (pairs (t.wires.drop (j + 1))).map Prod.fst := by
      conv => lhs; rw [← List.take_append_drop j t.wires, List.drop_eq_getElem_cons hj]
      rw [keys_eq, keys_eq, keys_eq, List.flatMap_append, List.flatMap_cons, List.append_assoc]
    rw [hs] at h5
    have hw : t.wires[j] ∈ t.wires := List.getElem_mem hj
    have ha : t.wires[j].a ∈ ports t := by rw [hp, hs]; simp
    have hb : t.wires[j].b ∈ ports t := by rw [hp, hs]; simp
    obtain ⟨q1, q2⟩ := List.nodup_cons.1 h5
    rw [List.append_assoc, List.nodup_append] at q2
    obtain ⟨_, q3, q4⟩ := q2
    refine ⟨fun h => q4 _ h t.wires[j].a (by simp) rfl, fun h => q4 _ h t.wires[j].b (by simp) rfl, h6 _ hw, fun e => q1 (by rw [← e]; simp), fun e => q1 (by rw [← e]; simp), h4 _ ha, h4 _ hb⟩
  · rintro ⟨h1, h2, h3, h4, h5⟩
    refine ⟨h1, h2, h3, fun p hpm => ?_, ?_, fun w hw => ?_⟩
    · rw [hp, keys_eq] at hpm
      rcases List.mem_cons.1 hpm with rfl | hpm
      · exact h4
      · obtain ⟨w, q1, q2⟩ := List.mem_flatMap.1 hpm
        obtain ⟨j, hj, rfl⟩ := List.mem_iff_getElem.1 q1
        have := h5 j hj hj
        simp only [List.mem_cons, List.not_mem_nil, or_false] at q2
        rcases q2 with rfl | rfl
        · exact this.2.2.2.2.2.1
        · exact this.2.2.2.2.2.2
    · have := some_nodup t t.wires.length (Nat.le_refl _) h5
      rw [List.take_length] at this
      rw [hp]
      exact this
    · obtain ⟨j, hj, rfl⟩ := List.mem_iff_getElem.1 hw
      exact (h5 j hj hj).2.2.1
end To
def dKeys (l : List (To.Port × To.Port)) : List D := l.map fun x => dPort x.1
def dVals (l : List (To.Port × To.Port)) : List D := l.map fun x => dPort x.2
def dGraph (t : To.Topo) : D := .ref [.int .i64 t.nodes, .list 4 (t.wires.map dWire), .int .i64 t.host.node, .int .i64 t.host.link, .map (dKeys (To.pairs t.wires)) (dVals (To.pairs t.wires))] 0
theorem keys_comp' (n k : Int) (l : List (To.Port × To.Port)) : ∀ y ∈ dKeys l, Comp (.agg [1, 1]) (.agg [.int .i64 n, .int .i64 k]) y := fun y hy => by
  obtain ⟨x, _, rfl⟩ := List.mem_map.1 hy
  exact .agg (.int (.int .nil))
theorem keys_more (n k : Int) (l : List (To.Port × To.Port)) (n' k' : Int) : ∀ y ∈ dKeys l ++ [D.agg [.int .i64 n', .int .i64 k']], Comp (.agg [1, 1]) (.agg [.int .i64 n, .int .i64 k]) y := fun y hy => by
  rcases List.mem_append.1 hy with hy | hy
  · exact keys_comp' n k l y hy
  · rw [List.mem_singleton.1 hy]
    exact .agg (.int (.int .nil))
theorem dPort_inj {p q : To.Port} (h : dPort p = dPort q) : p = q := by
  cases p; cases q; simp [dPort] at h; simp [h]
theorem mem_keys {p : To.Port} {l : List (To.Port × To.Port)} : dPort p ∈ dKeys l ↔ p ∈ l.map Prod.fst := by
  constructor
  · intro h
    obtain ⟨x, h1, h2⟩ := List.mem_map.1 h
    exact List.mem_map.2 ⟨x, h1, dPort_inj h2⟩
  · intro h
    obtain ⟨x, h1, rfl⟩ := List.mem_map.1 h
    exact List.mem_map.2 ⟨x, h1, rfl⟩
theorem kv_len (l : List (To.Port × To.Port)) : (dVals l).length = (dKeys l).length := by simp [dKeys, dVals]
namespace To
def lookP (l : List (Port × Port)) (p : Port) : Option Port := (l.find? fun x => decide (x.1 = p)).map Prod.snd
theorem lookP_pairs (ws : List Wire) (p : Port) : lookP (pairs ws) p = peer ws p := by
  induction ws with
  | nil => rfl
  | cons w ws ih =>
    have e : pairs (w :: ws) = (w.a, w.b) :: (w.b, w.a) :: pairs ws := rfl
    rw [e]
    unfold lookP at ih ⊢
    unfold peer
    simp only [List.find?_cons]
    by_cases h : w.a = p
    · simp [h]
    · by_cases h' : w.b = p
      · simp [h, h']
      · simp [h, h', ih]
end To
theorem lookP_hit {l : List (To.Port × To.Port)} {p : To.Port} {i : Nat} {z : D} (h1 : (dKeys l)[i]? = some (dPort p)) (h2 : (dVals l)[i]? = some z) (h3 : ∀ j, j < i → (dKeys l)[j]? ≠ some (dPort p)) : ∃ q, To.lookP l p = some q ∧ z = dPort q := by
  induction l generalizing i with
  | nil => simp [dKeys] at h1
  | cons x l ih =>
    cases i with
    | zero =>
      simp only [dKeys, List.map_cons, List.getElem?_cons_zero, Option.some.injEq] at h1
      simp only [dVals, List.map_cons, List.getElem?_cons_zero, Option.some.injEq] at h2
      have := dPort_inj h1
      exact ⟨x.2, by simp [To.lookP, this], h2.symm⟩
    | succ i =>
      have hx : x.1 ≠ p := fun e => h3 0 (by omega) (by simp [dKeys, e])
      obtain ⟨q, q1, q2⟩ := ih (i := i) (by simpa [dKeys] using h1) (by simpa [dVals] using h2) (fun j hj => by have := h3 (j + 1) (by omega); simpa [dKeys] using this)
      refine ⟨q, ?_, q2⟩
      unfold To.lookP at q1 ⊢
      rw [List.find?_cons_of_neg (by simpa using hx)]
      exact q1
theorem lookP_miss {l : List (To.Port × To.Port)} {p : To.Port} (h : dPort p ∉ dKeys l) : To.lookP l p = none := by
  unfold To.lookP
  rw [Option.map_eq_none_iff, List.find?_eq_none]
  intro x hx hp
  exact h (List.mem_map.2 ⟨x, hx, by rw [of_decide_eq_true hp]⟩)
section
variable {E : Set} {Q : Exit → Sd → Prop} {ops : Array Oper} {draw : Bool} {rest : Todo} {way : Way3} {ty : TypeId} {pos : String} {af : Array Edge} {gd : Option (Nat × Bool)}
variable {env : List (Nat × V)} {H : List (Nat × Ob)} {gl : List (Nat × List D)} {d : Nat}
theorem s_lookup_port {t k e : Nat} {x y : Operand} {l : List (To.Port × To.Port)} {n m : Int} [ht : TMap E.P t k e] [hkk : TKey E.P k (.agg [1, 1])] [hz : TZeroV E.P e (.d (.agg [.int .i64 0, .int .i64 0]))] (hx : Sd.ev ⟨env, H, gl⟩ x = some (.d (.map (dKeys l) (dVals l)))) (hox : okOp x = true) (hy : Sd.ev ⟨env, H, gl⟩ y = some (.d (.agg [.int .i64 n, .int .i64 m]))) (hoy : okOp y = true)
    (hd : d < E.C.nt) (hg : Sd.gd ⟨env, H, gl⟩ ops ⟨some d, .lookup t x y true, ty, pos, af, gd⟩ = some true) (hw : way.known = false)
    (h1 : ∀ q : To.Port, To.lookP l ⟨n, m⟩ = some q → TR E draw ops Q rest ⟨(d, .tup [.d (.agg [.int .i64 q.node, .int .i64 q.link]), .d (.bool true)]) :: env, H, gl⟩)
    (h2 : To.lookP l ⟨n, m⟩ = none → TR E draw ops Q rest ⟨(d, .tup [.d (.agg [.int .i64 0, .int .i64 0]), .d (.bool false)]) :: env, H, gl⟩) : TR E draw ops Q (.step ⟨some d, .lookup t x y true, ty, pos, af, gd⟩ way rest) ⟨env, H, gl⟩ := by
  refine s_lookup_d (kk := .agg [1, 1]) hx hox hy hoy (.agg (.int (.int .nil))) hd hg hw (keys_comp' n m l) (kv_len l) (fun i z q1 q2 q3 => ?_) (fun hm => h2 (lookP_miss hm))
  obtain ⟨q, e1, rfl⟩ := lookP_hit (p := ⟨n, m⟩) q1 q2 q3
  exact h1 q e1
theorem s_lookup_portm {t k e b : Nat} {x y : Operand} {l : List (To.Port × To.Port)} {n m : Int} [ht : TMap E.P t k e] [hkk : TKey E.P k (.agg [1, 1])] [hz : TZeroV E.P e (.d (.agg [.int .i64 0, .int .i64 0]))] (hx : Sd.ev ⟨env, H, gl⟩ x = some (.map b)) (hox : okOp x = true) (hl : look b H = some (.map (dKeys l) (dVals l))) (hy : Sd.ev ⟨env, H, gl⟩ y = some (.d (.agg [.int .i64 n, .int .i64 m]))) (hoy : okOp y = true)
    (hd : d < E.C.nt) (hg : Sd.gd ⟨env, H, gl⟩ ops ⟨some d, .lookup t x y true, ty, pos, af, gd⟩ = some true) (hw : way.known = false)
    (h1 : ∀ q : To.Port, To.lookP l ⟨n, m⟩ = some q → TR E draw ops Q rest ⟨(d, .tup [.d (.agg [.int .i64 q.node, .int .i64 q.link]), .d (.bool true)]) :: env, H, gl⟩)
    (h2 : To.lookP l ⟨n, m⟩ = none → TR E draw ops Q rest ⟨(d, .tup [.d (.agg [.int .i64 0, .int .i64 0]), .d (.bool false)]) :: env, H, gl⟩) : TR E draw ops Q (.step ⟨some d, .lookup t x y true, ty, pos, af, gd⟩ way rest) ⟨env, H, gl⟩ := by
  refine s_lookup (kk := .agg [1, 1]) hx hox hl hy hoy (.agg (.int (.int .nil))) hd hg hw (keys_comp' n m l) (kv_len l) (fun i z q1 q2 q3 => ?_) (fun hm => h2 (lookP_miss hm))
  obtain ⟨q, e1, rfl⟩ := lookP_hit (p := ⟨n, m⟩) q1 q2 q3
  exact h1 q e1
end
theorem lookP_none {l : List (To.Port × To.Port)} {p : To.Port} (h : To.lookP l p = none) : p ∉ l.map Prod.fst := by
  unfold To.lookP at h
  rw [Option.map_eq_none_iff, List.find?_eq_none] at h
  intro hm
  obtain ⟨x, hx, rfl⟩ := List.mem_map.1 hm
  exact h x hx (by simp)
theorem lookP_some {l : List (To.Port × To.Port)} {p q : To.Port} (h : To.lookP l p = some q) : p ∈ l.map Prod.fst := by
  unfold To.lookP at h
  obtain ⟨x, h1, h2⟩ := Option.map_eq_some_iff.1 h
  have := List.find?_some h1
  exact List.mem_map.2 ⟨x, List.mem_of_find?_eq_some h1, of_decide_eq_true this⟩
end Go.Proofs.YtcblefmjacofgaaGreatDoor
namespace Go.Proofs.YtcblefmjacofgaaGreatDoor
open Go.RowKit
set_option maxHeartbeats 1000000 in
theorem exists_fn (gl : List (Nat × List D)) (n a b : Int) : FnD Tryz.prog gl 89 [.d (.int .i64 n), .d (.agg [.int .i64 a, .int .i64 b])] (fun v => v = .d (.bool (decide (0 ≤ a ∧ a < n ∧ 0 ≤ b ∧ b < 4)))) := by
  (refine y_enter Tryz.func89 Tryz.ntmps89 Tryz.results89 fun w M => ?_; simp only [slots, List.map_cons, List.map_nil, List.zipIdx_cons, List.zipIdx_nil, Nat.reduceAdd])
  ((repeat' (first | (refine tr_at 3 ?_; (refine z_box 3 ?_)) | (refine yyp ?_; (try refine s_bu ?_ ?_ <;> (intro hb; try simp only [decide_eq_true_eq, decide_eq_false_iff_not] at hb))) | (refine yy ?_) | (refine yy2 ?_ ?_ <;> (intro hcmp; try simp only [cmp] at hcmp)) | (refine at_nil ?_; refine z_nil [0, 1, 3, 4, 5, 6, 7] ?_) | (refine tc_seq fun K hK => ?_) | (apply_assumption -exfalso -symm))); all_goals (try refine unhalt ?_))
  all_goals
    (refine tc_ret (y_ret ?_))
    simp only [oneOf, V.d.injEq, D.bool.injEq, true_eq_decide_iff, false_eq_decide_iff]
    omega
end Go.Proofs.YtcblefmjacofgaaGreatDoor
namespace Go.Proofs.YtcblefmjacofgaaGreatDoor
open Go.RowKit
theorem slice_lo' {α β : Type} (f : α → β) (l : List α) (m : Nat) : ((l.map f).drop 0).take (m - 0) = (l.take m).map f := by
  simp [List.map_take]
theorem slice_hi' {α β : Type} (f : α → β) (l : List α) (m n : Nat) (h : n = l.length) : ((l.map f).drop m).take (n - m) = (l.drop m).map f := by
  subst h
  rw [List.take_of_length_le (by simp), List.map_drop]
theorem FnD.at' {P : Program} {gl : List (Nat × List D)} {f : FuncId} {args args' : List V} {R : V → Prop} (h : FnD P gl f args R) (e : args' = args) : FnD P gl f args' R := e ▸ h
theorem ba_mk {a b : List UInt8} : (ByteArray.mk a.toArray = ByteArray.mk b.toArray) ↔ a = b := by
  constructor
  · intro h; simpa using congrArg (fun x : ByteArray => x.data.toList) h
  · rintro rfl; rfl
attribute [local irreducible] TR TC
set_option maxRecDepth 100000 in
theorem bytes_equal_fn (gl : List (Nat × List D)) (a b : List UInt8) : FnD Tryz.prog gl 8 [.d (dBytes a), .d (dBytes b)] (fun v => v = .d (.bool (decide (a = b)))) := by
  unfold dBytes
  (refine y_enter Tryz.func8 Tryz.ntmps8 Tryz.results8 fun w M => ?_; simp only [slots, List.map_cons, List.map_nil, List.zipIdx_cons, List.zipIdx_nil, Nat.reduceAdd])
  ((repeat' (first | (refine yyp ?_; (try refine s_bu ?_ ?_ <;> (intro hb; try simp only [decide_eq_true_eq, decide_eq_false_iff_not] at hb))) | (refine yy ?_) | (refine yy2 ?_ ?_ <;> (intro hcmp; try simp only [cmp] at hcmp)) | (refine at_nil ?_; refine z_nil [0, 1, 4, 5, 6, 7] ?_) | (refine tc_seq fun K hK => ?_) | (apply_assumption -exfalso -symm))); all_goals (try refine unhalt ?_))
  all_goals
    (refine tc_ret (y_ret ?_))
    simp only [oneOf, V.d.injEq, D.bool.injEq, true_eq_decide_iff, false_eq_decide_iff]
    rw [ba_mk] at hcmp
    exact hcmp
set_option maxRecDepth 100000 in
theorem bytes_hasPrefix_fn (gl : List (Nat × List D)) (a b : List UInt8) : FnD Tryz.prog gl 74 [.d (dBytes a), .d (dBytes b)] (fun v => v = .d (.bool (decide (b <+: a)))) := by
  unfold dBytes
  (refine y_enter Tryz.func74 Tryz.ntmps74 Tryz.results74 fun w M => ?_; simp only [slots, List.map_cons, List.map_nil, List.zipIdx_cons, List.zipIdx_nil, Nat.reduceAdd])
  ((repeat' (first | (refine yyp ?_; (try refine s_bu ?_ ?_ <;> (intro hb; try simp only [decide_eq_true_eq, decide_eq_false_iff_not] at hb))) | (refine yy ?_) | (refine yy2 ?_ ?_ <;> (intro hcmp; try simp only [cmp] at hcmp)) | (refine at_call 8 ?_; refine y_call (hc := (FnD.at' (bytes_equal_fn gl (a.take b.length) b) (by simp only [dBytes, slice_lo', List.length_map]))) ?_; (try refine s_bu ?_ ?_ <;> (intro hb; try simp only [decide_eq_true_eq, decide_eq_false_iff_not] at hb))) | (refine at_nil ?_; refine z_nil [0, 1, 4, 5, 6, 7] ?_) | (refine tc_seq fun K hK => ?_) | (apply_assumption -exfalso -symm))); all_goals (try refine unhalt ?_))
  all_goals
    (refine tc_ret (y_ret ?_))
    simp only [oneOf, V.d.injEq, D.bool.injEq, true_eq_decide_iff, false_eq_decide_iff]
    try simp only [List.length_map] at hcmp
  · exact List.prefix_iff_eq_take.2 (by rw [← hb]; simp)
  · intro h
    exact hb (List.prefix_iff_eq_take.1 h).symm
  · intro h
    have := h.length_le
    omega
def cutPre (a b : List UInt8) : V := if b <+: a then .tup [.d (dBytes (a.drop b.length)), .d (.bool true)] else .tup [.d (dBytes a), .d (.bool false)]
set_option maxRecDepth 100000 in
theorem bytes_cutPrefix_fn (gl : List (Nat × List D)) (a b : List UInt8) : FnD Tryz.prog gl 44 [.d (dBytes a), .d (dBytes b)] (fun v => v = cutPre a b) := by
  unfold dBytes
  (refine y_enter Tryz.func44 Tryz.ntmps44 Tryz.results44 fun w M => ?_; simp only [slots, List.map_cons, List.map_nil, List.zipIdx_cons, List.zipIdx_nil, Nat.reduceAdd])
  ((repeat' (first | (refine yyp ?_; (try refine s_bu ?_ ?_ <;> (intro hb; try simp only [decide_eq_true_eq, decide_eq_false_iff_not] at hb))) | (refine yy ?_) | (refine yy2 ?_ ?_ <;> (intro hcmp; try simp only [cmp] at hcmp)) | (refine at_call 74 ?_; refine y_call (hc := (bytes_hasPrefix_fn gl a b)) ?_; (try refine s_bu ?_ ?_ <;> (intro hb; try simp only [decide_eq_true_eq, decide_eq_false_iff_not] at hb))) | (refine at_nil ?_; refine z_nil [0, 1, 4, 5, 6, 7, 9] ?_) | (refine tc_seq fun K hK => ?_) | (apply_assumption -exfalso -symm))); all_goals (try refine unhalt ?_))
  · have hle := hb.length_le
    ((repeat' (first | (refine yyp ?_; (try refine s_bu ?_ ?_ <;> (intro hb; try simp only [decide_eq_true_eq, decide_eq_false_iff_not] at hb))) | (refine yy ?_) | (refine yy2 ?_ ?_ <;> (intro hcmp; try simp only [cmp] at hcmp)) | (refine at_nil ?_; refine z_nil [0, 1, 4, 5, 6, 7, 9] ?_) | (refine tc_seq fun K hK => ?_) | (apply_assumption -exfalso -symm))); all_goals (try refine unhalt ?_))
    (refine tc_ret (y_ret ?_))
    rw [slice_hi' _ _ _ _ (by simp)]
    simp only [cutPre, if_pos hb, List.length_map, oneOf, dBytes]
  · (refine tc_ret (y_ret ?_))
    simp only [cutPre, if_neg hb, oneOf, dBytes]
def dI (n : Int) : D := .int .i64 n
def idxI : List Int → Int → Int
  | [], _ => -1
  | x :: l, y => if y = x then 0 else if idxI l y < 0 then -1 else idxI l y + 1
theorem idxI_lo (l : List Int) (y : Int) : -1 ≤ idxI l y := by
  induction l with
  | nil => simp [idxI]
  | cons x l ih => unfold idxI; split <;> (try split) <;> omega
theorem idxI_mem (l : List Int) (y : Int) : 0 ≤ idxI l y ↔ y ∈ l := by
  induction l with
  | nil => simp [idxI]
  | cons x l ih =>
    have := idxI_lo l y
    unfold idxI
    by_cases h : y = x
    · simp [h]
    · rw [if_neg h, List.mem_cons, ← ih]
      split <;> constructor <;> intro h' <;> first | omega | (rcases h' with h' | h' <;> omega)
theorem idxI_drop (l : List Int) (y : Int) (k : Nat) (hk : k < l.length) : idxI (l.drop k) y = if y = l[k] then 0 else if idxI (l.drop (k + 1)) y < 0 then -1 else idxI (l.drop (k + 1)) y + 1 := by
  rw [List.drop_eq_getElem_cons hk]
  rfl
set_option maxRecDepth 100000 in
theorem index_int_fn (gl : List (Nat × List D)) (l : List Int) (y : Int) (hn : l.length ≤ 1000000000) : FnD Tryz.prog gl 78 [.d (.list 1 (l.map dI)), .d (.int .i64 y)] (fun v => v = .d (.int .i64 (idxI l y))) := by
  (refine y_enter Tryz.func78 Tryz.ntmps78 Tryz.results78 fun w M => ?_; simp only [slots, List.map_cons, List.map_nil, List.zipIdx_cons, List.zipIdx_nil, Nat.reduceAdd])
  ((repeat' (first | (refine yyp ?_; (try refine s_bu ?_ ?_ <;> (intro hb; try simp only [decide_eq_true_eq, decide_eq_false_iff_not] at hb))) | (refine yy ?_) | (refine yy2 ?_ ?_ <;> (intro hcmp; try simp only [cmp] at hcmp)) | (refine at_nil ?_; refine z_nil [0, 1, 4, 5, 6, 7, 8, 9, 16] ?_) | (refine tc_seq fun K hK => ?_) | (apply_assumption -exfalso -symm))); all_goals (try refine unhalt ?_))
  refine tc_fam (fun k : Nat => ⟨[(8, .d (.int .i64 k)), (7, .d (.int .i64 l.length)), (0, .d (.list 1 (l.map dI))), (1, .d (.int .i64 y))], [], gl⟩)
    (fun k => k ≤ l.length ∧ idxI l y = if idxI (l.drop k) y < 0 then -1 else idxI (l.drop k) y + k) (fun k => l.length - k) 0 ⟨Nat.zero_le _, by have := idxI_lo l y; simp only [List.drop_zero]; split <;> omega⟩ y_wk fun k ⟨hk, hi⟩ => ?_
  have hlo := idxI_lo (l.drop (k + 1)) y
  ((repeat' (first | (refine yyp ?_; (try refine s_bu ?_ ?_ <;> (intro hb; try simp only [decide_eq_true_eq, decide_eq_false_iff_not] at hb))) | (refine yy ?_) | (refine yy2 ?_ ?_ <;> (intro hcmp; try simp only [cmp] at hcmp)) | (refine at_nil ?_; refine z_nil [0, 1, 4, 5, 6, 7, 8, 9, 16] ?_) | (refine tc_seq fun K hK => ?_) | (apply_assumption -exfalso -symm))); all_goals (try refine unhalt ?_))
  · (refine tc_ret (y_ret ?_))
    rw [hi, idxI_drop _ _ _ (by omega), if_pos hcmp]
    simp [oneOf]
  · refine ⟨k + 1, ⟨by omega, ?_⟩, by omega, y_wk⟩
    rw [hi, idxI_drop _ _ _ (by omega), if_neg hcmp]
    split <;> split <;> (try split) <;> omega
  · (refine tc_ret (y_ret ?_))
    have : k = l.length := by omega
    rw [hi, this, List.drop_length]
    simp [oneOf, idxI]
set_option maxRecDepth 100000 in
theorem contains_int_fn (gl : List (Nat × List D)) (l : List Int) (y : Int) (hn : l.length ≤ 1000000000) : FnD Tryz.prog gl 47 [.d (.list 1 (l.map dI)), .d (.int .i64 y)] (fun v => v = .d (.bool (decide (y ∈ l)))) := by
  (refine y_enter Tryz.func47 Tryz.ntmps47 Tryz.results47 fun w M => ?_; simp only [slots, List.map_cons, List.map_nil, List.zipIdx_cons, List.zipIdx_nil, Nat.reduceAdd])
  ((repeat' (first | (refine yyp ?_; (try refine s_bu ?_ ?_ <;> (intro hb; try simp only [decide_eq_true_eq, decide_eq_false_iff_not] at hb))) | (refine yy ?_) | (refine yy2 ?_ ?_ <;> (intro hcmp; try simp only [cmp] at hcmp)) | (refine at_call 78 ?_; refine y_call (hc := (index_int_fn gl l y hn)) ?_) | (refine at_nil ?_; refine z_nil [0, 1, 4, 5, 6, 7] ?_) | (refine tc_seq fun K hK => ?_) | (apply_assumption -exfalso -symm))); all_goals (try refine unhalt ?_))
  all_goals
    (refine tc_ret (y_ret ?_))
    simp only [oneOf, V.d.injEq, D.bool.injEq, true_eq_decide_iff, false_eq_decide_iff]
    rw [← idxI_mem]
    omega
end Go.Proofs.YtcblefmjacofgaaGreatDoor
namespace Go.Proofs.YtcblefmjacofgaaGreatDoor
open Go.RowKit
theorem ref_exists_fn (gl : List (Nat × List D)) (n a b : Int) : FnD Tryz.prog gl 65 [.d (.int .i64 n), .d (.agg [.int .i64 a, .int .i64 b])] (fun v => v = .d (.bool (decide (0 ≤ a ∧ a < n ∧ 0 ≤ b ∧ b < 4)))) := by
  (refine y_enter Tryz.func65 Tryz.ntmps65 Tryz.results65 fun w M => ?_; simp only [slots, List.map_cons, List.map_nil, List.zipIdx_cons, List.zipIdx_nil, Nat.reduceAdd])
  ((repeat' (first | (refine tr_at 3 ?_; (refine z_box 3 ?_)) | (refine yyp ?_; (try refine s_bu ?_ ?_ <;> (intro hb; try simp only [decide_eq_true_eq, decide_eq_false_iff_not] at hb))) | (refine yy ?_) | (refine yy2 ?_ ?_ <;> (intro hcmp; try simp only [cmp] at hcmp)) | (refine at_nil ?_; refine z_nil [0, 1, 3, 4, 5, 6, 7] ?_) | (refine tc_seq fun K hK => ?_) | (apply_assumption -exfalso -symm))); all_goals (try refine unhalt ?_))
  all_goals
    (refine tc_ret (y_ret ?_))
    simp only [oneOf, V.d.injEq, D.bool.injEq, true_eq_decide_iff, false_eq_decide_iff]
    omega
theorem ref_peer_fn (gl : List (Nat × List D)) (t : To.Topo) (p : To.Port) (hn : t.wires.length ≤ 1000000000000) : FnD Tryz.prog gl 85 [.d (dTopo t), .d (dPort p)]
    (fun v => v = .tup [.d (dPort ((To.peer t.wires p).getD ⟨0, 0⟩)), .d (.bool (To.peer t.wires p).isSome)]) := by
  (refine y_enter Tryz.func85 Tryz.ntmps85 Tryz.results85 fun w M => ?_; simp only [slots, List.map_cons, List.map_nil, List.zipIdx_cons, List.zipIdx_nil, Nat.reduceAdd])
  ((repeat' (first | (refine tr_at 2 ?_; (refine z_box 2 ?_)) | (refine tr_at 3 ?_; (refine z_box 3 ?_)) | (refine tr_at 4 ?_; (refine z_alloc 4 ?_)) | (refine tr_at 42 ?_; refine z_p w_buildn ?_) | (refine yyp ?_; (try refine s_bu ?_ ?_ <;> (intro hb; try simp only [decide_eq_true_eq, decide_eq_false_iff_not] at hb))) | (refine yy ?_) | (refine yy2 ?_ ?_ <;> (intro hcmp; try simp only [cmp] at hcmp)) | (refine at_nil ?_; refine z_nil [0, 1, 2, 3, 4, 5, 6, 7, 11, 21, 24, 35] ?_) | (refine tc_seq fun K hK => ?_) | (refine tc_at 4 ?_; refine z_draw [] (lin [0, 8, 5, 12, 16, 21, 25, 28]) ?_) | (refine tc_at 6 ?_; refine z_draw [] (lin [0, 8, 5, 12, 16, 21, 25, 28]) ?_) | (apply_assumption -exfalso -symm))); all_goals (try refine unhalt ?_))
  refine tc_fam (fun k : Nat => ⟨[(6, .d (.int .i64 k)), (2, .ptr 2 0), (3, .ptr 3 0), (4, .ptr 4 0)], [(2, .box [.d (.int .i64 t.nodes), .d (.list 4 (t.wires.map dWire)), .d (.int .i64 t.host.node), .d (.int .i64 t.host.link)]), (3, .box [.d (.int .i64 p.node), .d (.int .i64 p.link)]), (4, .box [.d (.int .i64 0), .d (.int .i64 0)])], gl⟩)
    (fun k => k ≤ t.wires.length ∧ To.peer t.wires p = To.peer (t.wires.drop k) p) (fun k => t.wires.length - k) 0 ⟨Nat.zero_le _, rfl⟩ y_wk fun k ⟨hk, hp⟩ => ?_
  ((repeat' (first | (refine tr_at 2 ?_; (refine z_box 2 ?_)) | (refine tr_at 3 ?_; (refine z_box 3 ?_)) | (refine tr_at 4 ?_; (refine z_alloc 4 ?_)) | (refine tr_at 42 ?_; refine z_p w_buildn ?_) | (refine yyp ?_; (try refine s_bu ?_ ?_ <;> (intro hb; try simp only [decide_eq_true_eq, decide_eq_false_iff_not] at hb))) | (refine yy ?_) | (refine yy2 ?_ ?_ <;> (intro hcmp; try simp only [cmp] at hcmp)) | (refine at_nil ?_; refine z_nil [0, 1, 2, 3, 4, 5, 6, 7, 11, 21, 24, 35] ?_) | (refine tc_seq fun K hK => ?_) | (refine tc_at 4 ?_; refine z_draw [] (lin [0, 8, 5, 12, 16, 21, 25, 28]) ?_) | (refine tc_at 6 ?_; refine z_draw [] (lin [0, 8, 5, 12, 16, 21, 25, 28]) ?_) | (apply_assumption -exfalso -symm))); all_goals (try refine unhalt ?_))
  · (refine tc_ret (y_ret ?_))
    have e := peer_hit t.wires p k (by omega)
    rw [hp, e, if_pos (port_eq.2 hcmp)]
    try rfl
  · (refine tc_ret (y_ret ?_))
    have e := peer_hit t.wires p k (by omega)
    rw [hp, e, if_neg (fun h => ‹¬ _› (port_eq.1 h)), if_pos (port_eq.2 hcmp)]
    try rfl
  · refine ⟨k + 1, ⟨by omega, ?_⟩, by omega, y_wk⟩
    have e := peer_hit t.wires p k (by omega)
    rw [hp, e, if_neg (fun h => ‹¬ (t.wires[k].a.node = _ ∧ _)› (port_eq.1 h)), if_neg (fun h => hcmp (port_eq.1 h))]
  · (refine tc_ret (y_ret ?_))
    obtain rfl : k = t.wires.length := by omega
    rw [hp, List.drop_length]
    try rfl
end Go.Proofs.YtcblefmjacofgaaGreatDoor
namespace Go.Proofs.YtcblefmjacofgaaGreatDoor
open Go.RowKit
attribute [local irreducible] TR TC
set_option maxRecDepth 100000 in
theorem ref_ports_fn (gl : List (Nat × List D)) (t : To.Topo) (hn : t.wires.length ≤ 1000000) : FnD Tryz.prog gl 64 [.d (dTopo t)] (fun v => v = .d (.list 2 ((To.ports t).map dPort))) := by
  (refine y_enter Tryz.func64 Tryz.ntmps64 Tryz.results64 fun w M => ?_; simp only [slots, List.map_cons, List.map_nil, List.zipIdx_cons, List.zipIdx_nil, Nat.reduceAdd])
  ((repeat' (first | (refine tr_at 1 ?_; (refine z_box 1 ?_)) | (refine tr_at 7 ?_; (refine z_lit 7 ?_)) | (refine tr_at 28 ?_; (refine z_lit 28 ?_)) | (refine tr_at 29 ?_; refine z_append0 29 ?_) | (refine yyp ?_; (try refine s_bu ?_ ?_ <;> (intro hb; try simp only [decide_eq_true_eq, decide_eq_false_iff_not] at hb))) | (refine yy ?_) | (refine yy2 ?_ ?_ <;> (intro hcmp; try simp only [cmp] at hcmp)) | (refine at_append ?_; first | (refine z_append (fun kv => ?_)) | (refine z_append_suf (fun sx sp kv hsx hsp hsl => ?_))) | (refine at_nil ?_; refine z_nil [0, 1, 2, 3, 4, 5, 6, 12] ?_) | (refine tc_seq fun K hK => ?_) | (refine tc_at 5 ?_; refine z_draw [14] (lin [0, 4, 12, 28, 36, 9, 16, 20, 25, 33, 40, 44, 49, 54, 59, 60]) ?_) | (apply_assumption -exfalso -symm))); all_goals (try refine unhalt ?_))
  refine tc_fam (ι := Nat × List D × Nat) (fun i => ⟨[(4, .d (.int .i64 i.1)), (1, .ptr 1 0), (3, .own 7 i.2.2)], [(1, .box [.d (.int .i64 t.nodes), .d (.list 4 (t.wires.map dWire)), .d (.int .i64 t.host.node), .d (.int .i64 t.host.link)]), (7, .row 24 2 true i.2.1 i.2.2)], gl⟩)
    (fun i => i.1 ≤ t.wires.length ∧ i.2.1 = (t.host :: (t.wires.take i.1).flatMap fun w => [w.a, w.b]).map dPort) (fun i => t.wires.length - i.1) (0, [dPort t.host], 0) ⟨Nat.zero_le _, rfl⟩ y_wk fun ⟨k, l, ver⟩ ⟨hk, hl⟩ => ?_
  dsimp only at hk hl ⊢
  have hlen : l.length ≤ 1 + 2 * k := by rw [hl, List.length_map, List.length_cons]; exact To.pairs_len _ _
  ((repeat' (first | (refine tr_at 1 ?_; (refine z_box 1 ?_)) | (refine tr_at 7 ?_; (refine z_lit 7 ?_)) | (refine tr_at 28 ?_; (refine z_lit 28 ?_)) | (refine tr_at 29 ?_; refine z_append0 29 ?_) | (refine yyp ?_; (try refine s_bu ?_ ?_ <;> (intro hb; try simp only [decide_eq_true_eq, decide_eq_false_iff_not] at hb))) | (refine yy ?_) | (refine yy2 ?_ ?_ <;> (intro hcmp; try simp only [cmp] at hcmp)) | (refine at_append ?_; first | (refine z_append (fun kv => ?_)) | (refine z_append_suf (fun sx sp kv hsx hsp hsl => ?_))) | (refine at_nil ?_; refine z_nil [0, 1, 2, 3, 4, 5, 6, 12] ?_) | (refine tc_seq fun K hK => ?_) | (refine tc_at 5 ?_; refine z_draw [14] (lin [0, 4, 12, 28, 36, 9, 16, 20, 25, 33, 40, 44, 49, 54, 59, 60]) ?_) | (apply_assumption -exfalso -symm))); all_goals (try refine unhalt ?_))
  · have hk2 : k < t.wires.length := by omega
    refine ⟨(k + 1, l ++ [dPort t.wires[k].a, dPort t.wires[k].b], kv), ⟨by dsimp only; omega, ?_⟩, by dsimp only; omega, y_wk⟩
    dsimp only
    rw [hl, ← get_take t.wires hk2]
    simp only [List.map_cons, List.flatMap_append, List.map_append, List.cons_append]
    rfl
  · (refine tc_ret (y_ret ?_))
    have : k = t.wires.length := by omega
    subst this
    rw [hl, List.take_length]
    rfl
def boxT (t : To.Topo) : Ob := .box [.d (.int .i64 t.nodes), .d (.list 4 (t.wires.map dWire)), .d (.int .i64 t.host.node), .d (.int .i64 t.host.link)]
set_option maxRecDepth 100000 in
set_option maxHeartbeats 2000000 in
theorem ref_order_fn (gl : List (Nat × List D)) (t : To.Topo) (hs : To.Sound t) : FnD Tryz.prog gl 66 [.d (dTopo t)] (fun v => v = .d (.list 2 ((To.order t).map dPort))) := by
  have hwl := hs.len
  (refine y_enter Tryz.func66 Tryz.ntmps66 Tryz.results66 fun w M => ?_; simp only [slots, List.map_cons, List.map_nil, List.zipIdx_cons, List.zipIdx_nil, Nat.reduceAdd])
  ((repeat' (first | (refine tr_at 1 ?_; (refine z_box 1 ?_)) | (refine tr_at 11 ?_; (refine z_lit 11 ?_)) | (refine tr_at 6 ?_; (refine z_alloc 6 ?_)) | (refine tr_at 54 ?_; (refine z_lit 54 ?_)) | (refine tr_at 55 ?_; refine z_append0 55 ?_) | (refine yyp ?_; (try refine s_bu ?_ ?_ <;> (intro hb; try simp only [decide_eq_true_eq, decide_eq_false_iff_not] at hb))) | (refine yy ?_) | (refine yy2 ?_ ?_ <;> (intro hcmp; try simp only [cmp] at hcmp)) | (refine at_append ?_; first | (refine z_append (fun kv => ?_)) | (refine z_append_suf (fun sx sp kv hsx hsp hsl => ?_))) | (refine at_nil ?_; refine z_nil [0, 1, 2, 3, 4, 5, 6, 7, 8, 15, 19, 37, 51] ?_) | (refine tr_two ?_ ?_) | (refine tr_mid ?_ ?_) | (refine tr_or ?_ ?_) | (apply tc_mid (x := .region 8 _ _); focus ((refine tc_at 8 ?_; refine z_draw [13] (linT [4, 8, 12, 16, 24, 1, 21, 28] (.two 8 (lin [36, 40, 44, 50, 55, 56]) 12 (lin [34, 36, 40, 44, 55, 56]))) ?_); (repeat' (first | (refine tr_at 1 ?_; (refine z_box 1 ?_)) | (refine tr_at 11 ?_; (refine z_lit 11 ?_)) | (refine tr_at 6 ?_; (refine z_alloc 6 ?_)) | (refine tr_at 54 ?_; (refine z_lit 54 ?_)) | (refine tr_at 55 ?_; refine z_append0 55 ?_) | (refine yyp ?_) | (refine yy ?_) | (refine yy2 ?_ ?_ <;> (intro hcmp; try simp only [cmp] at hcmp)) | (refine at_append ?_; first | (refine z_append (fun kv => ?_)) | (refine z_append_suf (fun sx sp kv hsx hsp hsl => ?_))) | (refine at_nil ?_; refine z_nil [0, 1, 2, 3, 4, 5, 6, 7, 8, 15, 19, 37, 51] ?_) | (refine tr_two ?_ ?_) | (refine tr_mid ?_ ?_) | (refine tr_or ?_ ?_))); (all_goals first | exact Wk.refl _ _ | exact y_wk); done)) | (refine tc_seq fun K hK => ?_) | (refine tc_at 8 ?_; refine z_draw [13] (linT [4, 8, 12, 16, 24, 1, 21, 28] (.two 8 (lin [36, 40, 44, 50, 55, 56]) 12 (lin [34, 36, 40, 44, 55, 56]))) ?_) | (refine tc_at 12 ?_; refine z_draw [] (lin [0, 4, 8, 12, 16, 20, 28, 25, 33, 36, 40, 44]) ?_) | (apply_assumption -exfalso -symm))); all_goals (try refine unhalt ?_))
  refine tc_fam (ι := Nat × List To.Port × Nat) (fun i => ⟨[(4, .d (.int .i64 i.1)), (1, .ptr 1 0), (3, .own 11 i.2.2)], [(1, .box [.d (.int .i64 t.nodes), .d (.list 4 (t.wires.map dWire)), .d (.int .i64 t.host.node), .d (.int .i64 t.host.link)]), (11, .row 24 2 true (i.2.1.map dPort) i.2.2)], gl⟩)
    (fun i => i.1 ≤ i.2.1.length ∧ To.Good t.nodes i.2.1 ∧ To.order t = To.bfs t.wires (9 - i.1) i.1 i.2.1) (fun i => 9 - i.1) (0, [t.host], 0) ⟨Nat.zero_le _, ⟨by simp, fun p hp => by simp at hp; subst hp; exact hs.host⟩, rfl⟩ y_wk fun ⟨i, l, ver⟩ ⟨hi, hg, ho⟩ => ?_
  dsimp only at hi hg ho ⊢
  have hl8 := hg.len hs.n.2 (by have := hs.n.1; omega)
  ((repeat' (first | (refine tr_at 1 ?_; (refine z_box 1 ?_)) | (refine tr_at 11 ?_; (refine z_lit 11 ?_)) | (refine tr_at 6 ?_; (refine z_alloc 6 ?_)) | (refine tr_at 54 ?_; (refine z_lit 54 ?_)) | (refine tr_at 55 ?_; refine z_append0 55 ?_) | (refine yyp ?_; (try refine s_bu ?_ ?_ <;> (intro hb; try simp only [decide_eq_true_eq, decide_eq_false_iff_not] at hb))) | (refine yy ?_) | (refine yy2 ?_ ?_ <;> (intro hcmp; try simp only [cmp] at hcmp)) | (refine at_append ?_; first | (refine z_append (fun kv => ?_)) | (refine z_append_suf (fun sx sp kv hsx hsp hsl => ?_))) | (refine at_nil ?_; refine z_nil [0, 1, 2, 3, 4, 5, 6, 7, 8, 15, 19, 37, 51] ?_) | (refine tr_two ?_ ?_) | (refine tr_mid ?_ ?_) | (refine tr_or ?_ ?_) | (apply tc_mid (x := .region 8 _ _); focus ((refine tc_at 8 ?_; refine z_draw [13] (linT [4, 8, 12, 16, 24, 1, 21, 28] (.two 8 (lin [36, 40, 44, 50, 55, 56]) 12 (lin [34, 36, 40, 44, 55, 56]))) ?_); (repeat' (first | (refine tr_at 1 ?_; (refine z_box 1 ?_)) | (refine tr_at 11 ?_; (refine z_lit 11 ?_)) | (refine tr_at 6 ?_; (refine z_alloc 6 ?_)) | (refine tr_at 54 ?_; (refine z_lit 54 ?_)) | (refine tr_at 55 ?_; refine z_append0 55 ?_) | (refine yyp ?_) | (refine yy ?_) | (refine yy2 ?_ ?_ <;> (intro hcmp; try simp only [cmp] at hcmp)) | (refine at_append ?_; first | (refine z_append (fun kv => ?_)) | (refine z_append_suf (fun sx sp kv hsx hsp hsl => ?_))) | (refine at_nil ?_; refine z_nil [0, 1, 2, 3, 4, 5, 6, 7, 8, 15, 19, 37, 51] ?_) | (refine tr_two ?_ ?_) | (refine tr_mid ?_ ?_) | (refine tr_or ?_ ?_))); (all_goals first | exact Wk.refl _ _ | exact y_wk); done)) | (refine tc_seq fun K hK => ?_) | (refine tc_at 8 ?_; refine z_draw [13] (linT [4, 8, 12, 16, 24, 1, 21, 28] (.two 8 (lin [36, 40, 44, 50, 55, 56]) 12 (lin [34, 36, 40, 44, 55, 56]))) ?_) | (refine tc_at 12 ?_; refine z_draw [] (lin [0, 4, 8, 12, 16, 20, 28, 25, 33, 36, 40, 44]) ?_) | (apply_assumption -exfalso -symm))); all_goals (try refine unhalt ?_))
  · have hil : i < l.length := by omega
    refine tc_fam (ι := Nat × List To.Port × Nat) (fun j => ⟨[(5, .d (.int .i64 j.1)), (4, .d (.int .i64 i)), (1, .ptr 1 0), (3, .own 11 j.2.2)], [(1, boxT t), (11, .row 24 2 true (j.2.1.map dPort) j.2.2)], gl⟩)
      (fun j => j.1 ≤ 4 ∧ To.Good t.nodes j.2.1 ∧ j.2.1[i]? = some l[i] ∧ To.visit t.wires l l[i].node 0 = To.visit t.wires j.2.1 l[i].node j.1) (fun j => 4 - j.1) (0, l, ver) ⟨Nat.zero_le _, hg, by simp [hil], rfl⟩ y_wk fun ⟨k, l2, ver2⟩ ⟨hk, hg2, hp2, hv⟩ => ?_
    dsimp only at hk hg2 hp2 hv ⊢
    have hl28 := hg2.len hs.n.2 (by have := hs.n.1; omega)
    have hil2 : i < l2.length := (List.getElem?_eq_some_iff.1 hp2).1
    have he2 : l2[i] = l[i] := (List.getElem?_eq_some_iff.1 hp2).2
    ((repeat' (first | (refine tr_at 1 ?_; (refine z_box 1 ?_)) | (refine tr_at 11 ?_; (refine z_lit 11 ?_)) | (refine tr_at 6 ?_; (refine z_alloc 6 ?_)) | (refine tr_at 54 ?_; (refine z_lit 54 ?_)) | (refine tr_at 55 ?_; refine z_append0 55 ?_) | (refine yyp ?_; (try refine s_bu ?_ ?_ <;> (intro hb; try simp only [decide_eq_true_eq, decide_eq_false_iff_not] at hb))) | (refine yy ?_) | (refine yy2 ?_ ?_ <;> (intro hcmp; try simp only [cmp] at hcmp)) | (refine at_call 85 ?_; refine y_call (hc := (ref_peer_fn gl t ⟨(l2[i]'hil2).node, (k : Nat)⟩ (by omega))) ?_) | (refine at_append ?_; first | (refine z_append (fun kv => ?_)) | (refine z_append_suf (fun sx sp kv hsx hsp hsl => ?_))) | (refine at_nil ?_; refine z_nil [0, 1, 2, 3, 4, 5, 6, 7, 8, 15, 19, 37, 51] ?_) | (refine tr_two ?_ ?_) | (refine tr_mid ?_ ?_) | (refine tr_or ?_ ?_) | (apply tc_mid (x := .region 8 _ _); focus ((refine tc_at 8 ?_; refine z_draw [13] (linT [4, 8, 12, 16, 24, 1, 21, 28] (.two 8 (lin [36, 40, 44, 50, 55, 56]) 12 (lin [34, 36, 40, 44, 55, 56]))) ?_); (repeat' (first | (refine tr_at 1 ?_; (refine z_box 1 ?_)) | (refine tr_at 11 ?_; (refine z_lit 11 ?_)) | (refine tr_at 6 ?_; (refine z_alloc 6 ?_)) | (refine tr_at 54 ?_; (refine z_lit 54 ?_)) | (refine tr_at 55 ?_; refine z_append0 55 ?_) | (refine yyp ?_) | (refine yy ?_) | (refine yy2 ?_ ?_ <;> (intro hcmp; try simp only [cmp] at hcmp)) | (refine at_call 85 ?_; refine y_call (hc := (ref_peer_fn gl t ⟨(l2[i]'hil2).node, (k : Nat)⟩ (by omega))) ?_) | (refine at_append ?_; first | (refine z_append (fun kv => ?_)) | (refine z_append_suf (fun sx sp kv hsx hsp hsl => ?_))) | (refine at_nil ?_; refine z_nil [0, 1, 2, 3, 4, 5, 6, 7, 8, 15, 19, 37, 51] ?_) | (refine tr_two ?_ ?_) | (refine tr_mid ?_ ?_) | (refine tr_or ?_ ?_))); (all_goals first | exact Wk.refl _ _ | exact y_wk); done)) | (refine tc_seq fun K hK => ?_) | (refine tc_at 8 ?_; refine z_draw [13] (linT [4, 8, 12, 16, 24, 1, 21, 28] (.two 8 (lin [36, 40, 44, 50, 55, 56]) 12 (lin [34, 36, 40, 44, 55, 56]))) ?_) | (refine tc_at 12 ?_; refine z_draw [] (lin [0, 4, 8, 12, 16, 20, 28, 25, 33, 36, 40, 44]) ?_) | (apply_assumption -exfalso -symm))); all_goals (try refine unhalt ?_))
    · refine tc_fam (ι := Nat × Bool) (fun j => ⟨[(8, .d (.int .i64 j.1)), (7, .d (.bool j.2)), (6, .ptr 6 0), (5, .d (.int .i64 k)), (4, .d (.int .i64 i)), (1, .ptr 1 0), (3, .own 11 ver2)], [(1, boxT t), (11, .row 24 2 true (l2.map dPort) ver2), (6, .box [.d (.int .i64 ((To.peer t.wires ⟨(l2[i]'hil2).node, (k : Nat)⟩).getD ⟨0, 0⟩).node), .d (.int .i64 ((To.peer t.wires ⟨(l2[i]'hil2).node, (k : Nat)⟩).getD ⟨0, 0⟩).link)])], gl⟩) (fun j => j.1 ≤ l2.length ∧ j.2 = ((To.peer t.wires ⟨(l2[i]'hil2).node, (k : Nat)⟩).isSome && (l2.take j.1).all (fun x => x.node != ((To.peer t.wires ⟨(l2[i]'hil2).node, (k : Nat)⟩).getD ⟨0, 0⟩).node))) (fun j => l2.length - j.1) (0, (To.peer t.wires ⟨(l2[i]'hil2).node, (k : Nat)⟩).isSome) ⟨Nat.zero_le _, by simp⟩ y_wk fun ⟨j, b⟩ ⟨hj, hbb⟩ => ?_
      dsimp only at hj hbb ⊢
      cases b
      all_goals
        ((repeat' (first | (refine tr_at 1 ?_; (refine z_box 1 ?_)) | (refine tr_at 11 ?_; (refine z_lit 11 ?_)) | (refine tr_at 6 ?_; (refine z_alloc 6 ?_)) | (refine tr_at 54 ?_; (refine z_lit 54 ?_)) | (refine tr_at 55 ?_; refine z_append0 55 ?_) | (refine yyp ?_; (try refine s_bu ?_ ?_ <;> (intro hb; try simp only [decide_eq_true_eq, decide_eq_false_iff_not] at hb))) | (refine yy ?_) | (refine yy2 ?_ ?_ <;> (intro hcmp; try simp only [cmp] at hcmp)) | (refine at_append ?_; first | (refine z_append (fun kv => ?_)) | (refine z_append_suf (fun sx sp kv hsx hsp hsl => ?_))) | (refine at_nil ?_; refine z_nil [0, 1, 2, 3, 4, 5, 6, 7, 8, 15, 19, 37, 51] ?_) | (refine tr_two ?_ ?_) | (refine tr_mid ?_ ?_) | (refine tr_or ?_ ?_) | (apply tc_mid (x := .region 8 _ _); focus ((refine tc_at 8 ?_; refine z_draw [13] (linT [4, 8, 12, 16, 24, 1, 21, 28] (.two 8 (lin [36, 40, 44, 50, 55, 56]) 12 (lin [34, 36, 40, 44, 55, 56]))) ?_); (repeat' (first | (refine tr_at 1 ?_; (refine z_box 1 ?_)) | (refine tr_at 11 ?_; (refine z_lit 11 ?_)) | (refine tr_at 6 ?_; (refine z_alloc 6 ?_)) | (refine tr_at 54 ?_; (refine z_lit 54 ?_)) | (refine tr_at 55 ?_; refine z_append0 55 ?_) | (refine yyp ?_) | (refine yy ?_) | (refine yy2 ?_ ?_ <;> (intro hcmp; try simp only [cmp] at hcmp)) | (refine at_append ?_; first | (refine z_append (fun kv => ?_)) | (refine z_append_suf (fun sx sp kv hsx hsp hsl => ?_))) | (refine at_nil ?_; refine z_nil [0, 1, 2, 3, 4, 5, 6, 7, 8, 15, 19, 37, 51] ?_) | (refine tr_two ?_ ?_) | (refine tr_mid ?_ ?_) | (refine tr_or ?_ ?_))); (all_goals first | exact Wk.refl _ _ | exact y_wk); done)) | (refine tc_seq fun K hK => ?_) | (refine tc_at 8 ?_; refine z_draw [13] (linT [4, 8, 12, 16, 24, 1, 21, 28] (.two 8 (lin [36, 40, 44, 50, 55, 56]) 12 (lin [34, 36, 40, 44, 55, 56]))) ?_) | (refine tc_at 12 ?_; refine z_draw [] (lin [0, 4, 8, 12, 16, 20, 28, 25, 33, 36, 40, 44]) ?_) | (apply_assumption -exfalso -symm))); all_goals (try refine unhalt ?_))
      · have hjl : j < l2.length := by omega
        refine ⟨(j + 1, false), ⟨by dsimp only; omega, ?_⟩, by dsimp only; omega, y_wk⟩
        dsimp only
        rw [← get_take _ hjl, List.all_append, ← Bool.and_assoc, ← hbb]
        rfl
      · have hjl : j = l2.length := by omega
        subst hjl
        rw [List.take_length] at hbb
        refine ⟨(k + 1, l2, ver2), ⟨by dsimp only; omega, hg2, hp2, ?_⟩, by dsimp only; omega, y_wk⟩
        dsimp only
        rw [hv, To.visit_step _ _ _ _ (by omega), ← he2, To.meet_eq, ← hbb]
        rfl
      · have hjl : j < l2.length := by omega
        refine ⟨(j + 1, true), ⟨by dsimp only; omega, ?_⟩, by dsimp only; omega, y_wk⟩
        dsimp only
        rw [← get_take _ hjl, List.all_append, ← Bool.and_assoc, ← hbb]
        simp [hcmp]
      · have hjl : j < l2.length := by omega
        refine ⟨(j + 1, false), ⟨by dsimp only; omega, ?_⟩, by dsimp only; omega, y_wk⟩
        dsimp only
        rw [← get_take _ hjl, List.all_append, ← Bool.and_assoc, ← hbb]
        simp [Classical.not_not.1 hcmp]
      · have hjl : j = l2.length := by omega
        subst hjl
        rw [List.take_length] at hbb
        have hm : To.meet t.wires l2 ⟨(l2[i]'hil2).node, (k : Nat)⟩ = l2 ++ [(To.peer t.wires ⟨(l2[i]'hil2).node, (k : Nat)⟩).getD ⟨0, 0⟩] := by
          rw [To.meet_eq, ← hbb]; rfl
        refine ⟨(k + 1, l2 ++ [(To.peer t.wires ⟨(l2[i]'hil2).node, (k : Nat)⟩).getD ⟨0, 0⟩], kv), ⟨by dsimp only; omega, ?_, ?_, ?_⟩, by dsimp only; omega, ?_⟩
        · dsimp only
          rw [← hm]
          exact hg2.meet hs.wires _
        · dsimp only
          rw [List.getElem?_append_left hil2]; exact hp2
        · dsimp only
          rw [hv, To.visit_step _ _ _ _ (by omega), ← hm, ← he2]
        · dsimp only
          rw [List.map_append]
          exact y_wk
    · have : k = 4 := by omega
      subst this
      refine ⟨(i + 1, l2, ver2), ⟨by dsimp only; omega, hg2, ?_⟩, by dsimp only; omega, y_wk⟩
      dsimp only
      rw [ho, show 9 - i = (9 - (i + 1)) + 1 by omega, To.bfs_step _ _ _ _ hil, hv]
      rfl
  · (refine tc_ret (y_ret ?_))
    rw [ho, To.bfs_done _ _ _ _ (by omega)]
    rfl
end Go.Proofs.YtcblefmjacofgaaGreatDoor
namespace Go.Proofs.YtcblefmjacofgaaGreatDoor
open Go.RowKit
theorem find_drop {α : Type} (p : α → Bool) (l : List α) (k : Nat) (hk : k < l.length) : (l.drop k).find? p = if p l[k] then some l[k] else (l.drop (k + 1)).find? p := by
  rw [List.drop_eq_getElem_cons hk, List.find?_cons]
  split <;> simp_all
theorem order_len {t : To.Topo} (hs : To.Sound t) : (To.order t).length ≤ 1000 := by
  have key : ∀ f i l, To.Good t.nodes l → To.Good t.nodes (To.bfs t.wires f i l) := by
    intro f
    induction f with
    | zero => intro i l h; exact h
    | succ f ih =>
      intro i l h
      unfold To.bfs
      split
      · refine ih _ _ ?_
        rename_i p _
        unfold To.visit
        have key2 : ∀ (ks : List Nat) (l : List To.Port), To.Good t.nodes l → To.Good t.nodes (ks.foldl (fun l (k : Nat) => To.meet t.wires l ⟨p.node, k⟩) l) := by
          intro ks
          induction ks with
          | nil => intro l h; exact h
          | cons k ks ihk => intro l h; exact ihk _ (h.meet hs.wires _)
        exact key2 _ _ h
      · exact h
  have := (key 9 0 [t.host] ⟨by simp, fun p hp => by simp at hp; subst hp; exact hs.host⟩).len hs.n.2 (by have := hs.n.1; omega)
  unfold To.order
  omega
attribute [local irreducible] TR TC
set_option maxRecDepth 100000 in
set_option maxHeartbeats 2000000 in
theorem ref_up_fn (gl : List (Nat × List D)) (t : To.Topo) (n : Int) (hs : To.Sound t) : FnD Tryz.prog gl 86 [.d (dTopo t), .d (.int .i64 n)] (fun v => v = .d (dPort (To.up t n))) := by
  have hol := order_len hs
  unfold To.up
  have hord := ref_order_fn gl t hs
  generalize To.order t = os at hol hord ⊢
  (refine y_enter Tryz.func86 Tryz.ntmps86 Tryz.results86 fun w M => ?_; simp only [slots, List.map_cons, List.map_nil, List.zipIdx_cons, List.zipIdx_nil, Nat.reduceAdd])
  ((repeat' (first | (refine tr_at 2 ?_; (refine z_box 2 ?_)) | (refine tr_at 4 ?_; (refine z_alloc 4 ?_)) | (refine tr_at 26 ?_; refine z_p w_buildn ?_) | (refine yyp ?_; (try refine s_bu ?_ ?_ <;> (intro hb; try simp only [decide_eq_true_eq, decide_eq_false_iff_not] at hb))) | (refine yy ?_) | (refine yy2 ?_ ?_ <;> (intro hcmp; try simp only [cmp] at hcmp)) | (refine at_call 66 ?_; refine y_call (hc := (hord)) ?_) | (refine at_nil ?_; refine z_nil [0, 1, 2, 4, 5, 6, 7, 12, 21, 24] ?_) | (refine tc_seq fun K hK => ?_) | (apply_assumption -exfalso -symm))); all_goals (try refine unhalt ?_))
  refine tc_fam (fun k : Nat => ⟨[(6, .d (.int .i64 k)), (1, .d (.int .i64 n)), (4, .ptr 4 0), (5, .d (.list 2 (os.map dPort)))], [(4, .box [.d (.int .i64 0), .d (.int .i64 0)])], gl⟩)
    (fun k => k ≤ os.length ∧ os.find? (fun p => p.node = n) = (os.drop k).find? (fun p => p.node = n)) (fun k => os.length - k) 0 ⟨Nat.zero_le _, rfl⟩ y_wk fun k ⟨hk, hp⟩ => ?_
  ((repeat' (first | (refine tr_at 2 ?_; (refine z_box 2 ?_)) | (refine tr_at 4 ?_; (refine z_alloc 4 ?_)) | (refine tr_at 26 ?_; refine z_p w_buildn ?_) | (refine yyp ?_; (try refine s_bu ?_ ?_ <;> (intro hb; try simp only [decide_eq_true_eq, decide_eq_false_iff_not] at hb))) | (refine yy ?_) | (refine yy2 ?_ ?_ <;> (intro hcmp; try simp only [cmp] at hcmp)) | (refine at_nil ?_; refine z_nil [0, 1, 2, 4, 5, 6, 7, 12, 21, 24] ?_) | (refine tc_seq fun K hK => ?_) | (apply_assumption -exfalso -symm))); all_goals (try refine unhalt ?_))
  · (refine tc_ret (y_ret ?_))
    have hk2 : k < os.length := by omega
    rw [hp, find_drop _ _ _ hk2, if_pos (by simp [hcmp])]
    rfl
  · have hk2 : k < os.length := by omega
    refine ⟨k + 1, ⟨by omega, ?_⟩, by omega, y_wk⟩
    rw [hp, find_drop _ _ _ hk2, if_neg (by simp [hcmp])]
  · (refine tc_ret (y_ret ?_))
    obtain rfl : k = os.length := by omega
    rw [hp, List.drop_length]
    rfl
set_option maxRecDepth 100000 in
set_option maxHeartbeats 2000000 in
theorem ref_may_fn (gl : List (Nat × List D)) (t : To.Topo) : FnD Tryz.prog gl 34 [.d (dTopo t)] (fun v => v = .d (.bool (decide (To.May t)))) := by
  have hpl := To.ports_len t
  (refine y_enter Tryz.func34 Tryz.ntmps34 Tryz.results34 fun w M => ?_; simp only [slots, List.map_cons, List.map_nil, List.zipIdx_cons, List.zipIdx_nil, Nat.reduceAdd])
  ((repeat' (first | (refine tr_at 1 ?_; (refine z_box 1 ?_)) | (refine yyp ?_; (try refine s_bu ?_ ?_ <;> (intro hb; try simp only [decide_eq_true_eq, decide_eq_false_iff_not] at hb))) | (refine yy ?_) | (refine yy2 ?_ ?_ <;> (intro hcmp; try simp only [cmp] at hcmp)) | (refine at_call 64 ?_; refine y_call (hc := (ref_ports_fn gl t (by omega))) ?_) | (refine at_nil ?_; refine z_nil [0, 1, 2, 3, 4, 5, 6, 20, 26, 36, 39, 50, 55, 72] ?_) | (refine tc_seq fun K hK => ?_) | (refine tc_at 7 ?_; refine z_draw [] (lin [0, 8, 12, 16, 5, 21, 26, 28]) ?_) | (refine tc_at 12 ?_; refine z_draw [] (lin [0, 4, 8, 16, 20, 24, 13, 29, 32]) ?_) | (refine tc_at 17 ?_; refine z_draw [] (lin [0, 8, 28, 36, 5, 12, 16, 20, 25, 33, 40, 44, 48, 53, 56]) ?_) | (refine tc_at 19 ?_; refine z_draw [] (lin [12, 1, 17, 6, 8, 20, 24]) ?_) | (apply_assumption -exfalso -symm))); all_goals (try refine unhalt ?_))
  iterate 3
    focus
      (refine tc_ret (y_ret ?_))
      simp only [oneOf, V.d.injEq, D.bool.injEq, false_eq_decide_iff]
      intro hm
      have h1 := hm.1
      have h2 := hm.2.1
      have h3 := hm.2.2.1
      omega
  have hM : To.May t ↔ ((∀ p ∈ To.ports t, To.okPort t.nodes p) ∧ (To.ports t).Nodup ∧ (∀ w ∈ t.wires, w.a.node ≠ w.b.node) ∧ ((To.order t).length : Int) = t.nodes) := by
    unfold To.May
    exact ⟨fun h => h.2.2.2, fun h => ⟨by omega, by omega, by omega, h⟩⟩
  have hsnd : (∀ p ∈ To.ports t, To.okPort t.nodes p) → To.Sound t := fun h => To.sound_of (by omega) (by omega) (by omega) h
  generalize To.ports t = ps at hpl hM hsnd ⊢
  refine tc_fam (fun k : Nat => ⟨[(4, .d (.int .i64 k)), (3, .d (.list 2 (ps.map dPort))), (1, .ptr 1 0)], [(1, boxT t)], gl⟩)
    (fun k => k ≤ ps.length ∧ (∀ p ∈ ps.take k, To.okPort t.nodes p) ∧ (ps.take k).Nodup) (fun k => ps.length - k) 0 ⟨Nat.zero_le _, by simp, by simp⟩ y_wk fun k ⟨hk, hok, hnd⟩ => ?_
  ((repeat' (first | (refine tr_at 1 ?_; (refine z_box 1 ?_)) | (refine yyp ?_; (try refine s_bu ?_ ?_ <;> (intro hb; try simp only [decide_eq_true_eq, decide_eq_false_iff_not] at hb))) | (refine yy ?_) | (refine yy2 ?_ ?_ <;> (intro hcmp; try simp only [cmp] at hcmp)) | (refine at_call 65 ?_; refine y_call (hc := (ref_exists_fn gl _ _ _)) ?_; (try refine s_bu ?_ ?_ <;> (intro hb; try simp only [decide_eq_true_eq, decide_eq_false_iff_not] at hb))) | (refine at_nil ?_; refine z_nil [0, 1, 2, 3, 4, 5, 6, 20, 26, 36, 39, 50, 55, 72] ?_) | (refine tc_seq fun K hK => ?_) | (refine tc_at 7 ?_; refine z_draw [] (lin [0, 8, 12, 16, 5, 21, 26, 28]) ?_) | (refine tc_at 12 ?_; refine z_draw [] (lin [0, 4, 8, 16, 20, 24, 13, 29, 32]) ?_) | (refine tc_at 17 ?_; refine z_draw [] (lin [0, 8, 28, 36, 5, 12, 16, 20, 25, 33, 40, 44, 48, 53, 56]) ?_) | (refine tc_at 19 ?_; refine z_draw [] (lin [12, 1, 17, 6, 8, 20, 24]) ?_) | (apply_assumption -exfalso -symm))); all_goals (try refine unhalt ?_))
  · have hk2 : k < ps.length := by omega
    refine tc_fam (fun j : Nat => ⟨[(5, .d (.int .i64 j)), (4, .d (.int .i64 k)), (3, .d (.list 2 (ps.map dPort))), (1, .ptr 1 0)], [(1, boxT t)], gl⟩)
      (fun j => j ≤ k ∧ (∀ p ∈ ps.take j, p ≠ ps[k])) (fun j => k - j) 0 ⟨Nat.zero_le _, by simp⟩ y_wk fun j ⟨hj, hne⟩ => ?_
    ((repeat' (first | (refine tr_at 1 ?_; (refine z_box 1 ?_)) | (refine yyp ?_; (try refine s_bu ?_ ?_ <;> (intro hb; try simp only [decide_eq_true_eq, decide_eq_false_iff_not] at hb))) | (refine yy ?_) | (refine yy2 ?_ ?_ <;> (intro hcmp; try simp only [cmp] at hcmp)) | (refine at_nil ?_; refine z_nil [0, 1, 2, 3, 4, 5, 6, 20, 26, 36, 39, 50, 55, 72] ?_) | (refine tc_seq fun K hK => ?_) | (refine tc_at 7 ?_; refine z_draw [] (lin [0, 8, 12, 16, 5, 21, 26, 28]) ?_) | (refine tc_at 12 ?_; refine z_draw [] (lin [0, 4, 8, 16, 20, 24, 13, 29, 32]) ?_) | (refine tc_at 17 ?_; refine z_draw [] (lin [0, 8, 28, 36, 5, 12, 16, 20, 25, 33, 40, 44, 48, 53, 56]) ?_) | (refine tc_at 19 ?_; refine z_draw [] (lin [12, 1, 17, 6, 8, 20, 24]) ?_) | (apply_assumption -exfalso -symm))); all_goals (try refine unhalt ?_))
    · (refine tc_ret (y_ret ?_))
      have hj2 : j < ps.length := by omega
      simp only [oneOf, V.d.injEq, D.bool.injEq, false_eq_decide_iff]
      intro hm
      have hnd := (hM.1 hm).2.1
      have := (List.getElem_inj (h₀ := hj2) (h₁ := hk2) hnd).1 (port_eq.2 hcmp)
      omega
    · have hj2 : j < ps.length := by omega
      refine ⟨j + 1, ⟨by omega, fun p hp => ?_⟩, by omega, y_wk⟩
      rw [← get_take _ hj2] at hp
      rcases List.mem_append.1 hp with hp | hp
      · exact hne p hp
      · simp at hp
        subst hp
        exact fun h => hcmp (port_eq.1 h)
    · have : j = k := by omega
      subst this
      refine ⟨j + 1, ⟨by omega, fun p hp => ?_, ?_⟩, by omega, y_wk⟩
      · rw [← get_take _ hk2] at hp
        rcases List.mem_append.1 hp with hp | hp
        · exact hok p hp
        · simp at hp
          subst hp
          exact hb
      · rw [← get_take _ hk2, List.nodup_append]
        refine ⟨hnd, by simp, fun a ha b hb2 => ?_⟩
        simp at hb2
        subst hb2
        exact hne a ha
  · (refine tc_ret (y_ret ?_))
    have hk2 : k < ps.length := by omega
    simp only [oneOf, V.d.injEq, D.bool.injEq, false_eq_decide_iff]
    intro hm
    exact hb ((hM.1 hm).1 _ (List.getElem_mem hk2))
  · have hkl : k = ps.length := by omega
    subst hkl
    rw [List.take_length] at hok hnd
    clear hcmp
    refine tc_fam (fun j : Nat => ⟨[(6, .d (.int .i64 j)), (1, .ptr 1 0)], [(1, boxT t)], gl⟩)
      (fun j => j ≤ t.wires.length ∧ (∀ w ∈ t.wires.take j, w.a.node ≠ w.b.node)) (fun j => t.wires.length - j) 0 ⟨Nat.zero_le _, by simp⟩ y_wk fun j ⟨hj, hne⟩ => ?_
    ((repeat' (first | (refine tr_at 1 ?_; (refine z_box 1 ?_)) | (refine yyp ?_; (try refine s_bu ?_ ?_ <;> (intro hb; try simp only [decide_eq_true_eq, decide_eq_false_iff_not] at hb))) | (refine yy ?_) | (refine yy2 ?_ ?_ <;> (intro hcmp; try simp only [cmp] at hcmp)) | (refine at_call 66 ?_; refine y_call (hc := (ref_order_fn gl t (hsnd hok))) ?_) | (refine at_nil ?_; refine z_nil [0, 1, 2, 3, 4, 5, 6, 20, 26, 36, 39, 50, 55, 72] ?_) | (refine tc_seq fun K hK => ?_) | (refine tc_at 7 ?_; refine z_draw [] (lin [0, 8, 12, 16, 5, 21, 26, 28]) ?_) | (refine tc_at 12 ?_; refine z_draw [] (lin [0, 4, 8, 16, 20, 24, 13, 29, 32]) ?_) | (refine tc_at 17 ?_; refine z_draw [] (lin [0, 8, 28, 36, 5, 12, 16, 20, 25, 33, 40, 44, 48, 53, 56]) ?_) | (refine tc_at 19 ?_; refine z_draw [] (lin [12, 1, 17, 6, 8, 20, 24]) ?_) | (apply_assumption -exfalso -symm))); all_goals (try refine unhalt ?_))
    · (refine tc_ret (y_ret ?_))
      have hj2 : j < t.wires.length := by omega
      simp only [oneOf, V.d.injEq, D.bool.injEq, false_eq_decide_iff]
      intro hm
      exact (hM.1 hm).2.2.1 _ (List.getElem_mem hj2) hcmp
    · have hj2 : j < t.wires.length := by omega
      refine ⟨j + 1, ⟨by omega, fun p hp => ?_⟩, by omega, y_wk⟩
      rw [← get_take _ hj2] at hp
      rcases List.mem_append.1 hp with hp | hp
      · exact hne p hp
      · simp at hp
        subst hp
        exact hcmp
    · have hj2 : j = t.wires.length := by omega
      subst hj2
      rw [List.take_length] at hne
      (refine tc_ret (y_ret ?_))
      simp only [oneOf, V.d.injEq, D.bool.injEq, true_eq_decide_iff]
      exact hM.2 ⟨hok, hnd, hne, ‹_ = t.nodes›⟩
    · (refine tc_ret (y_ret ?_))
      simp only [oneOf, V.d.injEq, D.bool.injEq, false_eq_decide_iff]
      intro hm
      exact absurd (hM.1 hm).2.2.2 ‹¬ _ = t.nodes›
set_option maxRecDepth 100000 in
set_option maxHeartbeats 2000000 in
theorem ref_Peer_fn (gl : List (Nat × List D)) (t : To.Topo) (p : To.Port) : FnD Tryz.prog gl 87 [.d (dTopo t), .d (dPort p)]
    (fun v => v = .tup [.d (dPort (if To.May t then (To.peer t.wires p).getD ⟨0, 0⟩ else ⟨0, 0⟩)), .d (.bool (decide (To.May t) && (To.peer t.wires p).isSome))]) := by
  (refine y_enter Tryz.func87 Tryz.ntmps87 Tryz.results87 fun w M => ?_; simp only [slots, List.map_cons, List.map_nil, List.zipIdx_cons, List.zipIdx_nil, Nat.reduceAdd])
  ((repeat' (first | (refine tr_at 2 ?_; (refine z_box 2 ?_)) | (refine tr_at 3 ?_; (refine z_box 3 ?_)) | (refine tr_at 4 ?_; (refine z_alloc 4 ?_)) | (refine tr_at 9 ?_; refine z_p w_buildn ?_) | (refine yyp ?_; (try refine s_bu ?_ ?_ <;> (intro hb; try simp only [decide_eq_true_eq, decide_eq_false_iff_not] at hb))) | (refine yy ?_) | (refine yy2 ?_ ?_ <;> (intro hcmp; try simp only [cmp] at hcmp)) | (refine at_call 34 ?_; refine y_call (hc := (ref_may_fn gl t)) ?_; (try refine s_bu ?_ ?_ <;> (intro hb; try simp only [decide_eq_true_eq, decide_eq_false_iff_not] at hb))) | (refine at_call 85 ?_; refine y_call (hc := (ref_peer_fn gl t p (Nat.le_trans (To.May.sound (by assumption)).len (by decide)))) ?_) | (refine at_nil ?_; refine z_nil [0, 1, 2, 3, 4, 5, 6, 7, 8, 24] ?_) | (refine tc_seq fun K hK => ?_) | (apply_assumption -exfalso -symm))); all_goals (try refine unhalt ?_))
  all_goals
    (refine tc_ret (y_ret ?_))
    simp_all [oneOf]
    try rfl
end Go.Proofs.YtcblefmjacofgaaGreatDoor
namespace Go.Proofs.YtcblefmjacofgaaGreatDoor
open Go.RowKit
theorem filter_range_succ (p : Nat → Bool) (k : Nat) : (List.range (k + 1)).filter p = if p k then (List.range k).filter p ++ [k] else (List.range k).filter p := by
  rw [List.range_succ, List.filter_append]
  cases h : p k <;> simp [h]
def dInt (k : Nat) : D := .int .i64 k
attribute [local irreducible] TR TC
set_option maxRecDepth 100000 in
set_option maxHeartbeats 2000000 in
theorem ref_children_fn (gl : List (Nat × List D)) (t : To.Topo) (n : Int) : FnD Tryz.prog gl 67 [.d (dTopo t), .d (.int .i64 n)]
    (fun v => v = .tup [.d (.list 1 ((To.children t n).1.map dInt)), .d (.int .i64 (To.children t n).2)]) := by
  (refine y_enter Tryz.func67 Tryz.ntmps67 Tryz.results67 fun w M => ?_; simp only [slots, List.map_cons, List.map_nil, List.zipIdx_cons, List.zipIdx_nil, Nat.reduceAdd])
  ((repeat' (first | (refine tr_at 2 ?_; (refine z_box 2 ?_)) | (refine tr_at 28 ?_; refine z_p w_buildn ?_) | (refine tr_at 8 ?_; (refine z_alloc 8 ?_)) | (refine tr_at 9 ?_; (refine z_alloc 9 ?_)) | (refine tr_at 54 ?_; (refine z_lit 54 ?_)) | (refine tr_at 55 ?_; refine z_append0 55 ?_) | (refine yyp ?_; (try refine s_bu ?_ ?_ <;> (intro hb; try simp only [decide_eq_true_eq, decide_eq_false_iff_not] at hb))) | (refine yy ?_) | (refine yy2 ?_ ?_ <;> (intro hcmp; try simp only [cmp] at hcmp)) | (refine at_call 34 ?_; refine y_call (hc := (ref_may_fn gl t)) ?_; (try refine s_bu ?_ ?_ <;> (intro hb; try simp only [decide_eq_true_eq, decide_eq_false_iff_not] at hb))) | (refine at_append ?_; first | (refine z_append (fun kv => ?_)) | (refine z_append_suf (fun sx sp kv hsx hsp hsl => ?_))) | (refine at_nil ?_; refine z_nil [0, 1, 2, 4, 5, 6, 7, 8, 9, 10, 13, 21, 23, 51] ?_) | (refine tc_seq fun K hK => ?_) | (refine tc_at 11 ?_; refine z_draw [] (lin [0, 4, 8, 16, 20, 13, 25, 28, 32, 36, 44, 41, 49, 57, 54, 60, 64]) ?_) | (apply_assumption -exfalso -symm))); all_goals (try refine unhalt ?_))
  case refine_2 =>
    (refine tc_ret (y_ret ?_))
    simp [oneOf, To.children, *]
  case refine_1.refine_1 =>
    (refine tc_ret (y_ret ?_))
    simp [oneOf, To.children, *]
  case refine_1.refine_2.refine_1 =>
    (refine tc_ret (y_ret ?_))
    simp [oneOf, To.children, *]
  case refine_1.refine_2.refine_2 =>
    have hs := hb.sound
    have hc : To.children t n = (To.kids t n, 0) := by
      unfold To.children
      rw [if_pos hb, if_neg (by omega)]
    have hw32 := hs.len
    clear hb
    refine tc_row (t := 6) (e := 3) (sz := 1) rfl rfl ?_
    refine tc_fam (ι := Nat × List Nat × Nat) (fun i => ⟨[(7, .d (.int .i64 i.1)), (1, .d (.int .i64 n)), (2, .ptr 2 0), (6, .own 6 i.2.2)], [(2, boxT t), (6, .row 3 1 true (i.2.1.map dInt) i.2.2)], gl⟩)
      (fun i => i.1 ≤ 4 ∧ i.2.1 = (List.range i.1).filter (To.kid t n)) (fun i => 4 - i.1) (0, [], 0) ⟨Nat.zero_le _, rfl⟩ y_wk fun ⟨k, l, ver⟩ ⟨hk, hl⟩ => ?_
    dsimp only at hk hl ⊢
    have hl4 : l.length ≤ 4 := by
      rw [hl]
      refine Nat.le_trans (List.length_filter_le _ _) ?_
      simp; omega
    ((repeat' (first | (refine tr_at 2 ?_; (refine z_box 2 ?_)) | (refine tr_at 28 ?_; refine z_p w_buildn ?_) | (refine tr_at 8 ?_; (refine z_alloc 8 ?_)) | (refine tr_at 9 ?_; (refine z_alloc 9 ?_)) | (refine tr_at 54 ?_; (refine z_lit 54 ?_)) | (refine tr_at 55 ?_; refine z_append0 55 ?_) | (refine yyp ?_; (try refine s_bu ?_ ?_ <;> (intro hb; try simp only [decide_eq_true_eq, decide_eq_false_iff_not] at hb))) | (refine yy ?_) | (refine yy2 ?_ ?_ <;> (intro hcmp; try simp only [cmp] at hcmp)) | (refine at_call 85 ?_; refine y_call (hc := (ref_peer_fn gl t ⟨n, (k : Nat)⟩ (by omega))) ?_) | (refine at_call 86 ?_; refine y_call (hc := (ref_up_fn gl t _ hs)) ?_) | (refine at_append ?_; first | (refine z_append (fun kv => ?_)) | (refine z_append_suf (fun sx sp kv hsx hsp hsl => ?_))) | (refine at_nil ?_; refine z_nil [0, 1, 2, 4, 5, 6, 7, 8, 9, 10, 13, 21, 23, 51] ?_) | (refine tc_seq fun K hK => ?_) | (refine tc_at 11 ?_; refine z_draw [] (lin [0, 4, 8, 16, 20, 13, 25, 28, 32, 36, 44, 41, 49, 57, 54, 60, 64]) ?_) | (apply_assumption -exfalso -symm))); all_goals (try refine unhalt ?_))
    · have hkid : To.kid t n k = true := by simp [To.kid, port_eq, *]
      refine ⟨(k + 1, l ++ [k], kv), ⟨by dsimp only; omega, ?_⟩, by dsimp only; omega, ?_⟩
      · dsimp only
        rw [filter_range_succ, if_pos hkid, hl]
      · dsimp only
        rw [List.map_append]
        exact y_wk
    iterate 3
      focus
        have hkid : ¬ To.kid t n k = true := by simp [To.kid, port_eq, *] <;> (intro h1 h2; exact hcmp ⟨h1, h2, trivial⟩)
        refine ⟨(k + 1, l, ver), ⟨by dsimp only; omega, ?_⟩, by dsimp only; omega, y_wk⟩
        dsimp only
        rw [filter_range_succ, if_neg hkid, hl]
    · (refine tc_ret (y_ret ?_))
      have : k = 4 := by omega
      subst this
      rw [hl, hc]
      rfl
end Go.Proofs.YtcblefmjacofgaaGreatDoor
