/- Parts: D44, To, F0, E1, F1, F2. -/
import Derived.Test.YtjhbglklcddekaaGreatDoorQ17
import Derived.Test.YtjhbglklcddekaaGreatDoorQ14
import Derived.Test.YtjhbglklcddekaaGreatDoorQ16
set_option linter.all false
set_option maxRecDepth 100000
set_option maxHeartbeats 16000000
namespace Go.Proofs.YtjhbglklcddekaaGreatDoor
open Go.RowKit Go.Proofs.Tryz
section
section
variable {E : Set} {S : Sd} {dst : Option Tmp} {ty : TypeId} {pos : String} {af : Array Edge} {gd : Option (Nat × Bool)}
theorem row_slice {C : Ctx} {β : Nat → Hd} {a : Act} {w : World} (h : StB C β S a w) {n k e sz : Nat} {sh : Bool} {xs : List D} (hl : look n S.H = some (.row e sz sh xs k)) :
    ∃ ad c ys, (β n).v = .slice ad xs.length c ∧ xs.length ≤ c ∧ (ad = none → c = 0) ∧ RepE w (Mut C.M0 β S.H) sz xs ys ∧ ∀ j u, ys[j]? = some u → ∃ b o, ad = some ⟨b, o, none⟩ ∧ w.cell? ⟨b, o + j, none⟩ = some u := by
  obtain ⟨ys, h1, h2⟩ := h.obs n _ hl
  obtain ⟨h3, h4⟩ := h1
  rcases h4 with ⟨h4, h5⟩ | ⟨g, cap, cur, h4, _, h5, h6, h7, h8, h9⟩
  · refine ⟨none, 0, ys, by rw [h4, h5], by omega, fun _ => rfl, h2, fun j u hu => ?_⟩
    rw [h5, Nat.zero_mul] at h3
    rw [List.eq_nil_of_length_eq_zero h3] at hu
    cases hu
  · refine ⟨some ⟨g, 0, none⟩, cap, ys, h4, h6, fun h => (by cases h), h2, fun j u hu => ⟨g, 0, rfl, ?_⟩⟩
    rw [Nat.zero_add]
    have h10 : cur.toList[j]? = some u := by
      rw [← h9, List.getElem?_take] at hu
      split at hu
      · exact hu
      · cases hu
    exact box_cell (vs := cur.toList) (by rw [Array.toArray_toList]; exact h5) h10
theorem k_own_nil {n k e sz sz' : Nat} {sh : Bool} {xt yt : TypeId} {x y : Operand} {xs : List D} (hu : isSliceT E.P xt = true) (hx : S.ev x = some (.own n k)) (hl : look n S.H = some (.row e sz sh xs k)) (hy : S.ev y = some (.nils sz')) (hox : okOp x = true) (hoy : okOp y = true) :
    SwiftK E S ⟨dst, .binOp .eql xt x y yt, ty, pos, af, gd⟩ (fun _ => S) (fun k => .d (.bool (Nat.beq k 1 && xs.isEmpty))) := SwiftK.mk fun β a w h => by
  obtain ⟨ad, c, ys, h1, h4, h5, _, _⟩ := row_slice h hl
  have h0 : a.eval x = (β n).v := h.ev hx hox e sz sh xs hl
  rw [h1] at h0
  have h2 : a.eval y = .slice none 0 0 := h.ev hy hoy
  refine ⟨.bool ad.isNone, β, if ad.isNone then 1 else 0, fun w' => ?_, h, ?_⟩
  · have he := run_slice_eq_nil hu ad xs.length c w'
    have hb : (binOp .eql xt (.slice ad xs.length c) (.slice none 0 0)).run E.P w' = .ok (.bool ad.isNone) w' := by
      show (do pure (Value.bool (← Op.equal xt (.slice ad xs.length c) (.slice none 0 0))) : Sem Value).run E.P w' = _
      simp only [Sem.run_bind, he, Result.andThen_ok, Sem.run_pure]
    simp [execOp, h0, h2, eqGuard, hb]
  · show Value.bool ad.isNone = Value.bool (Nat.beq (if ad.isNone then 1 else 0) 1 && xs.isEmpty)
    cases ad with
    | some p => rfl
    | none =>
      have hc := h5 rfl
      have : xs = [] := List.eq_nil_of_length_eq_zero (by omega)
      subst this
      rfl
theorem t_append_row {d t e sz n k m km : Nat} {sh shm : Bool} {s x : Operand} {xs ys : List D} [ht : TSlice E.P t e sz] (hs : S.ev s = some (.own n k)) (hos : okOp s = true) (hl : look n S.H = some (.row e sz sh xs k)) (hx : S.ev x = some (.own m km)) (hox : okOp x = true) (hlm : look m S.H = some (.row e sz shm ys km)) (hlen : xs.length + ys.length ≤ 100000000000) (hN : E.C.N.contains n = false) :
    GrowK E S ⟨some d, .call { callee := .builtin .append, args := #[s, x], argTypes := #[t, t] }, ty, pos, af, gd⟩ (fun k' => { S with H := (n, .row e sz sh (xs ++ ys) k') :: S.H }) (fun k' => .own n k') := GrowK.mk fun β a w h => by
  obtain ⟨bytes, he, hby⟩ := slice_elem ht
  have h1 : a.eval s = (β n).v := h.ev hs hos e sz sh xs hl
  obtain ⟨olds, h2, h3⟩ := h.obs n _ hl
  obtain ⟨xa, xc, news, h4, h5, h7, h8, h9⟩ := row_slice h hlm
  have h0 : a.eval x = (β m).v := h.ev hx hox e sz shm ys hlm
  rw [h4] at h0
  obtain ⟨v', w', h10, h11, h12⟩ := run_app (P := E.P) (ty := ty) w he h2 (xa := xa) (m := ys.length) (xc := xc) (news := news) h8.length h9 h7 h5 h8.one hlen hby
  refine ⟨v', w', _, max (topE S.env) (topO S.H), run_append_op (by rw [h1, h0]; exact h10), h.append hl h2 h3 h8 h11 h12 _ (Nat.le_refl _) hN, repV_own⟩
end
section
variable {E : Set} {Q : Exit → Sd → Prop} {ops : Array Oper} {draw : Bool} {rest : Todo} {way : Way3} {ty : TypeId} {pos : String} {af : Array Edge} {gd : Option (Nat × Bool)}
variable {env : List (Nat × V)} {H : List (Nat × Ob)} {gl : List (Nat × List D)} {d : Nat}
theorem z_own_nil {n k e sz sz' : Nat} {sh : Bool} {xt yt : TypeId} {x y : Operand} {xs : List D} (h1 : xs = [] → TR E draw ops Q rest ⟨(d, .d (.bool true)) :: env, H, gl⟩) (h2 : TR E draw ops Q rest ⟨(d, .d (.bool false)) :: env, H, gl⟩) (hu : isSliceT E.P xt = true := by kernel_rfl) (hx : Sd.ev ⟨env, H, gl⟩ x = some (.own n k) := by exact rfl) (hl : look n H = some (.row e sz sh xs k) := by exact rfl) (hy : Sd.ev ⟨env, H, gl⟩ y = some (.nils sz') := by exact rfl) (hox : okOp x = true := by exact rfl) (hoy : okOp y = true := by exact rfl) (hd : d < E.C.nt := by exact ltd rfl)
    (hg : Sd.gd ⟨env, H, gl⟩ ops ⟨some d, .binOp .eql xt x y yt, ty, pos, af, gd⟩ = some true := by exact rfl) :
    TR E draw ops Q (.step ⟨some d, .binOp .eql xt x y yt, ty, pos, af, gd⟩ way rest) ⟨env, H, gl⟩ :=
  tr_stillK (k_own_nil (S := ⟨env, H, gl⟩) hu hx hl hy hox hoy) rfl hd hg rfl fun k => by
    show TR E draw ops Q rest ⟨(d, .d (.bool (Nat.beq k 1 && xs.isEmpty))) :: env, H, gl⟩
    cases hk : Nat.beq k 1 with
    | false => exact h2
    | true =>
      cases xs with
      | nil => exact h1 rfl
      | cons a t => exact h2
theorem z_append_row {t e sz n k m km : Nat} {sh shm : Bool} {s x : Operand} {xs ys : List D} [ht : TSlice E.P t e sz] (h : ∀ k', TR E draw ops Q rest ⟨(d, .own n k') :: env, (n, .row e sz sh (xs ++ ys) k') :: H, gl⟩) (hs : Sd.ev ⟨env, H, gl⟩ s = some (.own n k) := by exact rfl) (hos : okOp s = true := by exact rfl) (hl : look n H = some (.row e sz sh xs k) := by exact rfl) (hx : Sd.ev ⟨env, H, gl⟩ x = some (.own m km) := by exact rfl) (hox : okOp x = true := by exact rfl) (hlm : look m H = some (.row e sz shm ys km) := by exact rfl) (hlen : xs.length + ys.length ≤ 100000000000 := by first | omega | (simp only [List.length_cons, List.length_nil, List.length_append, List.length_map, List.length_take, List.length_drop]; omega)) (hN : E.C.N.contains n = false := by exact rfl) (hd : d < E.C.nt := by exact ltd rfl)
    (hg : Sd.gd ⟨env, H, gl⟩ ops ⟨some d, .call { callee := .builtin .append, args := #[s, x], argTypes := #[t, t] }, ty, pos, af, gd⟩ = some true := by exact rfl) (hw : isBar draw way = true := by exact rfl) : TR E draw ops Q (.step ⟨some d, .call { callee := .builtin .append, args := #[s, x], argTypes := #[t, t] }, ty, pos, af, gd⟩ way rest) ⟨env, H, gl⟩ :=
  tr_turnK (t_append_row hs hos hl hx hox hlm hlen hN (d := d)) rfl hd hg rfl hw h
end
end
section
namespace To
structure Port where
  node : Int
  link : Int
deriving DecidableEq
structure Wire where
  a : Port
  b : Port
deriving DecidableEq
structure Topo where
  nodes : Int
  wires : List Wire
  host : Port
def peer : List Wire → Port → Option Port
  | [], _ => none
  | w :: ws, p => if w.a = p then some w.b else if w.b = p then some w.a else peer ws p
end To
def dPort (p : To.Port) : D := .agg [.int .i64 p.node, .int .i64 p.link]
def dWire (w : To.Wire) : D := .agg [.int .i64 w.a.node, .int .i64 w.a.link, .int .i64 w.b.node, .int .i64 w.b.link]
def dTopo (t : To.Topo) : D := .agg [.int .i64 t.nodes, .list 4 (t.wires.map dWire), .int .i64 t.host.node, .int .i64 t.host.link]
namespace To
def ports (t : Topo) : List Port := t.host :: t.wires.flatMap fun w => [w.a, w.b]
def meet (ws : List Wire) (l : List Port) (p : Port) : List Port := match peer ws p with
  | some q => if l.all (fun x => x.node != q.node) then l ++ [q] else l
  | none => l
def visit (ws : List Wire) (l : List Port) (n : Int) (k : Nat) : List Port := (List.range' k (4 - k)).foldl (fun l (k : Nat) => meet ws l ⟨n, k⟩) l
def bfs (ws : List Wire) : Nat → Nat → List Port → List Port
  | 0, _, l => l
  | f + 1, i, l => match l[i]? with
    | some p => bfs ws f (i + 1) (visit ws l p.node 0)
    | none => l
def order (t : Topo) : List Port := bfs t.wires 9 0 [t.host]
def inR (n : Int) (p : Port) : Prop := 0 ≤ p.node ∧ p.node < n
structure Sound (t : Topo) : Prop where
  n : 1 ≤ t.nodes ∧ t.nodes ≤ 8
  host : inR t.nodes t.host
  wires : ∀ w ∈ t.wires, inR t.nodes w.a ∧ inR t.nodes w.b
  len : t.wires.length ≤ 32
structure Good (n : Int) (l : List Port) : Prop where
  apart : (l.map (·.node)).Nodup
  range : ∀ p ∈ l, inR n p
theorem peer_range {n : Int} : ∀ {ws : List Wire} {p q : Port}, (∀ w ∈ ws, inR n w.a ∧ inR n w.b) → peer ws p = some q → inR n q
  | [], _, _, _, h => by simp [peer] at h
  | w :: ws, p, q, hw, h => by
    unfold peer at h
    split at h
    · cases h; exact (hw w List.mem_cons_self).2
    · split at h
      · cases h; exact (hw w List.mem_cons_self).1
      · exact peer_range (fun w hm => hw w (List.mem_cons_of_mem _ hm)) h
theorem Good.meet {n : Int} {ws : List Wire} (hw : ∀ w ∈ ws, inR n w.a ∧ inR n w.b) {l : List Port} (h : Good n l) (p : Port) : Good n (meet ws l p) := by
  unfold To.meet
  split
  · rename_i q hq
    split
    · rename_i hall
      refine ⟨?_, fun x hx => ?_⟩
      · rw [List.map_append, List.nodup_append]
        refine ⟨h.apart, by simp, fun a ha b hb => ?_⟩
        simp at hb
        subst hb
        obtain ⟨y, hy, rfl⟩ := List.mem_map.1 ha
        have := List.all_eq_true.1 hall y hy
        simpa using this
      · rcases List.mem_append.1 hx with hx | hx
        · exact h.range x hx
        · simp at hx; subst hx; exact peer_range hw hq
    · exact h
  · exact h
theorem range_len : ∀ (n : Nat) (l : List Int), l.Nodup → (∀ x ∈ l, 0 ≤ x ∧ x < (n : Int)) → l.length ≤ n := by
  intro n
  induction n with
  | zero => intro l _ h; cases l with | nil => simp | cons x l => have := h x List.mem_cons_self; omega
  | succ n ih =>
    intro l hnd h
    have h1 := ih (l.erase (n : Int)) (hnd.erase _) (fun x hx => by
      have hm := (hnd.mem_erase_iff).1 hx
      have := h x hm.2
      have := hm.1
      omega)
    have := List.length_erase (a := (n : Int)) (l := l)
    split at this <;> omega
theorem Good.len {n : Int} {l : List Port} (h : Good n l) (hn : n ≤ 8) (h0 : 0 ≤ n) : l.length ≤ 8 := by
  have := range_len n.toNat (l.map (·.node)) h.apart (fun x hx => by
    obtain ⟨p, hp, rfl⟩ := List.mem_map.1 hx
    have := h.range p hp
    unfold inR at this
    omega)
  simp at this
  omega
theorem visit_step (ws : List Wire) (l : List Port) (n : Int) (k : Nat) (hk : k < 4) : visit ws l n k = visit ws (meet ws l ⟨n, k⟩) n (k + 1) := by
  unfold visit
  rw [show 4 - k = (4 - (k + 1)) + 1 by omega, List.range'_succ]
  rfl
theorem bfs_step (ws : List Wire) (f i : Nat) (l : List Port) (h : i < l.length) : bfs ws (f + 1) i l = bfs ws f (i + 1) (visit ws l l[i].node 0) := by
  simp [bfs, h]
theorem bfs_done (ws : List Wire) (f i : Nat) (l : List Port) (h : l.length ≤ i) : bfs ws f i l = l := by
  cases f with
  | zero => rfl
  | succ f => simp [bfs, h]
end To
theorem get_take {α : Type} (l : List α) {k : Nat} (h : k < l.length) : l.take k ++ [l[k]] = l.take (k + 1) := by
  rw [List.take_succ_eq_append_getElem h]
namespace To
def okPort (n : Int) (p : Port) : Prop := 0 ≤ p.node ∧ p.node < n ∧ 0 ≤ p.link ∧ p.link < 4
instance (n : Int) (p : Port) : Decidable (okPort n p) := by unfold okPort; infer_instance
def May (t : Topo) : Prop := 1 ≤ t.nodes ∧ t.nodes ≤ 8 ∧ t.wires.length ≤ 32 ∧ (∀ p ∈ ports t, okPort t.nodes p) ∧ (ports t).Nodup ∧ (∀ w ∈ t.wires, w.a.node ≠ w.b.node) ∧ ((order t).length : Int) = t.nodes
instance (t : Topo) : Decidable (May t) := by unfold May; infer_instance
theorem sound_of {t : Topo} (h1 : 1 ≤ t.nodes) (h2 : t.nodes ≤ 8) (h3 : t.wires.length ≤ 32) (h4 : ∀ p ∈ ports t, okPort t.nodes p) : Sound t where
  n := ⟨h1, h2⟩
  host := by have := h4 t.host (by simp [ports]); exact ⟨this.1, this.2.1⟩
  wires := fun w hw => by
    have ha := h4 w.a (by unfold ports; simp only [List.mem_cons, List.mem_flatMap]; exact Or.inr ⟨w, hw, by simp⟩)
    have hb := h4 w.b (by unfold ports; simp only [List.mem_cons, List.mem_flatMap]; exact Or.inr ⟨w, hw, by simp⟩)
    exact ⟨⟨ha.1, ha.2.1⟩, ⟨hb.1, hb.2.1⟩⟩
  len := h3
end To
namespace To
end To
namespace To
end To
end
section
namespace To
def pairs (ws : List Wire) : List (Port × Port) := ws.flatMap fun w => [(w.a, w.b), (w.b, w.a)]
def Joins (t : Topo) : Prop := 1 ≤ t.nodes ∧ t.nodes ≤ 8 ∧ t.wires.length ≤ 32 ∧ (∀ p ∈ ports t, okPort t.nodes p) ∧ (ports t).Nodup ∧ (∀ w ∈ t.wires, w.a.node ≠ w.b.node)
def Fits (t : Topo) (ws : List Wire) (w : Wire) : Prop := w.a ∉ (pairs ws).map Prod.fst ∧ w.b ∉ (pairs ws).map Prod.fst ∧ w.a.node ≠ w.b.node ∧ w.a ≠ t.host ∧ w.b ≠ t.host ∧ okPort t.nodes w.a ∧ okPort t.nodes w.b
def Some (t : Topo) (k : Nat) : Prop := ∀ j (h : j < t.wires.length), j < k → Fits t (t.wires.take j) t.wires[j]
theorem keys_eq (ws : List Wire) : (pairs ws).map Prod.fst = ws.flatMap fun w => [w.a, w.b] := by
  induction ws with
  | nil => rfl
  | cons w ws ih => simp only [pairs, List.flatMap_cons, List.map_append] at ih ⊢; rw [ih]; rfl
theorem pairs_take (ws : List Wire) (k : Nat) (h : k < ws.length) : pairs (ws.take (k + 1)) = pairs (ws.take k) ++ [(ws[k].a, ws[k].b), (ws[k].b, ws[k].a)] := by
  unfold pairs
  rw [← get_take _ h, List.flatMap_append]
  rfl
theorem some_nodup (t : Topo) (k : Nat) (hk : k ≤ t.wires.length) (h : Some t k) : (t.host :: (pairs (t.wires.take k)).map Prod.fst).Nodup := by
  induction k with
  | zero => simp [pairs]
  | succ k ih =>
    have h1 := ih (by omega) (fun j hj hlt => h j hj (by omega))
    have h2 := h k (by omega) (by omega)
    obtain ⟨q1, q2, q3, q4, q5, _⟩ := h2
    rw [pairs_take _ _ (by omega)]
    simp only [List.map_append, List.map_cons, List.map_nil]
    have hne : t.wires[k].a ≠ t.wires[k].b := fun e => q3 (by rw [e])
    rw [← List.cons_append, List.nodup_append]
    refine ⟨h1, by simp [hne], fun x hx y hy => ?_⟩
    simp only [List.mem_cons, List.not_mem_nil, or_false] at hx hy
    rintro rfl
    rcases hx with rfl | hx
    · rcases hy with e | e
      · exact q4 e.symm
      · exact q5 e.symm
    · rcases hy with rfl | rfl
      · exact q1 hx
      · exact q2 hx
theorem joins_iff (t : Topo) : Joins t ↔ 1 ≤ t.nodes ∧ t.nodes ≤ 8 ∧ t.wires.length ≤ 32 ∧ okPort t.nodes t.host ∧ Some t t.wires.length := by
  have hp : ports t = t.host :: (pairs t.wires).map Prod.fst := by rw [keys_eq]; rfl
  constructor
  · rintro ⟨h1, h2, h3, h4, h5, h6⟩
    refine ⟨h1, h2, h3, h4 _ (by rw [hp]; simp), fun j hj _ => ?_⟩
    rw [hp] at h5
    have hm : ∀ p, p ∈ (pairs (t.wires.take j)).map Prod.fst → p ∈ (pairs t.wires).map Prod.fst := fun p hp => by
      rw [keys_eq] at hp ⊢
      rw [List.mem_flatMap] at hp ⊢
      obtain ⟨w, q1, q2⟩ := hp
      exact ⟨w, List.mem_of_mem_take q1, q2⟩
    have hs : (pairs t.wires).map Prod.fst = (pairs (t.wires.take j)).map Prod.fst ++ [t.wires[j].a, t.wires[j].b] ++ (pairs (t.wires.drop (j + 1))).map Prod.fst := by
      conv => lhs; rw [← List.take_append_drop j t.wires, List.drop_eq_getElem_cons hj]
      rw [keys_eq, keys_eq, keys_eq, List.flatMap_append, List.flatMap_cons, List.append_assoc]
    rw [hs] at h5
    have hw : t.wires[j] ∈ t.wires := List.getElem_mem hj
    have ha : t.wires[j].a ∈ ports t := by rw [hp, hs]; simp
    have hb : t.wires[j].b ∈ ports t := by rw [hp, hs]; simp
    obtain ⟨q1, q2⟩ := List.nodup_cons.1 h5
    rw [List.append_assoc, List.nodup_append] at q2
    obtain ⟨_, q3, q4⟩ := q2
    refine ⟨fun h => q4 _ h t.wires[j].a (by simp) rfl, fun h => q4 _ h t.wires[j].b (by simp) rfl, h6 _ hw, fun e => q1 (by rw [← e]; simp), fun e => q1 (by rw [← e]; simp), h4 _ ha, h4 _ hb⟩
  · rintro ⟨h1, h2, h3, h4, h5⟩
    refine ⟨h1, h2, h3, fun p hpm => ?_, ?_, fun w hw => ?_⟩
    · rw [hp, keys_eq] at hpm
      rcases List.mem_cons.1 hpm with rfl | hpm
      · exact h4
      · obtain ⟨w, q1, q2⟩ := List.mem_flatMap.1 hpm
        obtain ⟨j, hj, rfl⟩ := List.mem_iff_getElem.1 q1
        have := h5 j hj hj
        simp only [List.mem_cons, List.not_mem_nil, or_false] at q2
        rcases q2 with rfl | rfl
        · exact this.2.2.2.2.2.1
        · exact this.2.2.2.2.2.2
    · have := some_nodup t t.wires.length (Nat.le_refl _) h5
      rw [List.take_length] at this
      rw [hp]
      exact this
    · obtain ⟨j, hj, rfl⟩ := List.mem_iff_getElem.1 hw
      exact (h5 j hj hj).2.2.1
end To
def dKeys (l : List (To.Port × To.Port)) : List D := l.map fun x => dPort x.1
def dVals (l : List (To.Port × To.Port)) : List D := l.map fun x => dPort x.2
def dGraph (t : To.Topo) : D := .ref [.int .i64 t.nodes, .list 4 (t.wires.map dWire), .int .i64 t.host.node, .int .i64 t.host.link, .map (dKeys (To.pairs t.wires)) (dVals (To.pairs t.wires))] 0
theorem keys_comp' (n k : Int) (l : List (To.Port × To.Port)) : ∀ y ∈ dKeys l, Comp (.agg [1, 1]) (.agg [.int .i64 n, .int .i64 k]) y := fun y hy => by
  obtain ⟨x, _, rfl⟩ := List.mem_map.1 hy
  exact .agg (.int (.int .nil))
theorem keys_more (n k : Int) (l : List (To.Port × To.Port)) (n' k' : Int) : ∀ y ∈ dKeys l ++ [D.agg [.int .i64 n', .int .i64 k']], Comp (.agg [1, 1]) (.agg [.int .i64 n, .int .i64 k]) y := fun y hy => by
  rcases List.mem_append.1 hy with hy | hy
  · exact keys_comp' n k l y hy
  · rw [List.mem_singleton.1 hy]
    exact .agg (.int (.int .nil))
theorem dPort_inj {p q : To.Port} (h : dPort p = dPort q) : p = q := by
  cases p; cases q; simp [dPort] at h; simp [h]
theorem mem_keys {p : To.Port} {l : List (To.Port × To.Port)} : dPort p ∈ dKeys l ↔ p ∈ l.map Prod.fst := by
  constructor
  · intro h
    obtain ⟨x, h1, h2⟩ := List.mem_map.1 h
    exact List.mem_map.2 ⟨x, h1, dPort_inj h2⟩
  · intro h
    obtain ⟨x, h1, rfl⟩ := List.mem_map.1 h
    exact List.mem_map.2 ⟨x, h1, rfl⟩
theorem kv_len (l : List (To.Port × To.Port)) : (dVals l).length = (dKeys l).length := by simp [dKeys, dVals]
namespace To
def lookP (l : List (Port × Port)) (p : Port) : Option Port := (l.find? fun x => decide (x.1 = p)).map Prod.snd
theorem lookP_pairs (ws : List Wire) (p : Port) : lookP (pairs ws) p = peer ws p := by
  induction ws with
  | nil => rfl
  | cons w ws ih =>
    have e : pairs (w :: ws) = (w.a, w.b) :: (w.b, w.a) :: pairs ws := rfl
    rw [e]
    unfold lookP at ih ⊢
    unfold peer
    simp only [List.find?_cons]
    by_cases h : w.a = p
    · simp [h]
    · by_cases h' : w.b = p
      · simp [h, h']
      · simp [h, h', ih]
end To
theorem lookP_hit {l : List (To.Port × To.Port)} {p : To.Port} {i : Nat} {z : D} (h1 : (dKeys l)[i]? = some (dPort p)) (h2 : (dVals l)[i]? = some z) (h3 : ∀ j, j < i → (dKeys l)[j]? ≠ some (dPort p)) : ∃ q, To.lookP l p = some q ∧ z = dPort q := by
  induction l generalizing i with
  | nil => simp [dKeys] at h1
  | cons x l ih =>
    cases i with
    | zero =>
      simp only [dKeys, List.map_cons, List.getElem?_cons_zero, Option.some.injEq] at h1
      simp only [dVals, List.map_cons, List.getElem?_cons_zero, Option.some.injEq] at h2
      have := dPort_inj h1
      exact ⟨x.2, by simp [To.lookP, this], h2.symm⟩
    | succ i =>
      have hx : x.1 ≠ p := fun e => h3 0 (by omega) (by simp [dKeys, e])
      obtain ⟨q, q1, q2⟩ := ih (i := i) (by simpa [dKeys] using h1) (by simpa [dVals] using h2) (fun j hj => by have := h3 (j + 1) (by omega); simpa [dKeys] using this)
      refine ⟨q, ?_, q2⟩
      unfold To.lookP at q1 ⊢
      rw [List.find?_cons_of_neg (by simpa using hx)]
      exact q1
theorem lookP_miss {l : List (To.Port × To.Port)} {p : To.Port} (h : dPort p ∉ dKeys l) : To.lookP l p = none := by
  unfold To.lookP
  rw [Option.map_eq_none_iff, List.find?_eq_none]
  intro x hx hp
  exact h (List.mem_map.2 ⟨x, hx, by rw [of_decide_eq_true hp]⟩)
section
variable {E : Set} {Q : Exit → Sd → Prop} {ops : Array Oper} {draw : Bool} {rest : Todo} {way : Way3} {ty : TypeId} {pos : String} {af : Array Edge} {gd : Option (Nat × Bool)}
variable {env : List (Nat × V)} {H : List (Nat × Ob)} {gl : List (Nat × List D)} {d : Nat}
theorem s_lookup_port {t k e : Nat} {x y : Operand} {l : List (To.Port × To.Port)} {n m : Int} [ht : TMap E.P t k e] [hkk : TKey E.P k (.agg [1, 1])] [hz : TZeroV E.P e (.d (.agg [.int .i64 0, .int .i64 0]))] (hx : Sd.ev ⟨env, H, gl⟩ x = some (.d (.map (dKeys l) (dVals l)))) (hox : okOp x = true) (hy : Sd.ev ⟨env, H, gl⟩ y = some (.d (.agg [.int .i64 n, .int .i64 m]))) (hoy : okOp y = true)
    (hd : d < E.C.nt) (hg : Sd.gd ⟨env, H, gl⟩ ops ⟨some d, .lookup t x y true, ty, pos, af, gd⟩ = some true) (hw : way.known = false)
    (h1 : ∀ q : To.Port, To.lookP l ⟨n, m⟩ = some q → TR E draw ops Q rest ⟨(d, .tup [.d (.agg [.int .i64 q.node, .int .i64 q.link]), .d (.bool true)]) :: env, H, gl⟩)
    (h2 : To.lookP l ⟨n, m⟩ = none → TR E draw ops Q rest ⟨(d, .tup [.d (.agg [.int .i64 0, .int .i64 0]), .d (.bool false)]) :: env, H, gl⟩) : TR E draw ops Q (.step ⟨some d, .lookup t x y true, ty, pos, af, gd⟩ way rest) ⟨env, H, gl⟩ := by
  refine s_lookup_d (kk := .agg [1, 1]) hx hox hy hoy (.agg (.int (.int .nil))) hd hg hw (keys_comp' n m l) (kv_len l) (fun i z q1 q2 q3 => ?_) (fun hm => h2 (lookP_miss hm))
  obtain ⟨q, e1, rfl⟩ := lookP_hit (p := ⟨n, m⟩) q1 q2 q3
  exact h1 q e1
theorem s_lookup_portm {t k e b : Nat} {x y : Operand} {l : List (To.Port × To.Port)} {n m : Int} [ht : TMap E.P t k e] [hkk : TKey E.P k (.agg [1, 1])] [hz : TZeroV E.P e (.d (.agg [.int .i64 0, .int .i64 0]))] (hx : Sd.ev ⟨env, H, gl⟩ x = some (.map b)) (hox : okOp x = true) (hl : look b H = some (.map (dKeys l) (dVals l))) (hy : Sd.ev ⟨env, H, gl⟩ y = some (.d (.agg [.int .i64 n, .int .i64 m]))) (hoy : okOp y = true)
    (hd : d < E.C.nt) (hg : Sd.gd ⟨env, H, gl⟩ ops ⟨some d, .lookup t x y true, ty, pos, af, gd⟩ = some true) (hw : way.known = false)
    (h1 : ∀ q : To.Port, To.lookP l ⟨n, m⟩ = some q → TR E draw ops Q rest ⟨(d, .tup [.d (.agg [.int .i64 q.node, .int .i64 q.link]), .d (.bool true)]) :: env, H, gl⟩)
    (h2 : To.lookP l ⟨n, m⟩ = none → TR E draw ops Q rest ⟨(d, .tup [.d (.agg [.int .i64 0, .int .i64 0]), .d (.bool false)]) :: env, H, gl⟩) : TR E draw ops Q (.step ⟨some d, .lookup t x y true, ty, pos, af, gd⟩ way rest) ⟨env, H, gl⟩ := by
  refine s_lookup (kk := .agg [1, 1]) hx hox hl hy hoy (.agg (.int (.int .nil))) hd hg hw (keys_comp' n m l) (kv_len l) (fun i z q1 q2 q3 => ?_) (fun hm => h2 (lookP_miss hm))
  obtain ⟨q, e1, rfl⟩ := lookP_hit (p := ⟨n, m⟩) q1 q2 q3
  exact h1 q e1
end
theorem lookP_none {l : List (To.Port × To.Port)} {p : To.Port} (h : To.lookP l p = none) : p ∉ l.map Prod.fst := by
  unfold To.lookP at h
  rw [Option.map_eq_none_iff, List.find?_eq_none] at h
  intro hm
  obtain ⟨x, hx, rfl⟩ := List.mem_map.1 hm
  exact h x hx (by simp)
theorem lookP_some {l : List (To.Port × To.Port)} {p q : To.Port} (h : To.lookP l p = some q) : p ∈ l.map Prod.fst := by
  unfold To.lookP at h
  obtain ⟨x, h1, h2⟩ := Option.map_eq_some_iff.1 h
  have := List.find?_some h1
  exact List.mem_map.2 ⟨x, List.mem_of_find?_eq_some h1, of_decide_eq_true this⟩
end
section
set_option maxHeartbeats 1000000 in
theorem exists_fn (gl : List (Nat × List D)) (n a b : Int) : FnD prog gl 153 [.d (.int .i64 n), .d (.agg [.int .i64 a, .int .i64 b])] (fun v => v = .d (.bool (decide (0 ≤ a ∧ a < n ∧ 0 ≤ b ∧ b < 4)))) := by
  (refine y_enter func153 ntmps153 results153 fun w M => ?_)
  (repeat' first | refine tr_at 3 ?_; (refine z_box 3 ?_) | refine yyp ?_; try refine s_bu ?_ ?_ <;> intro hb | refine yy ?_ | refine yy2 ?_ ?_ <;> intro hcmp | refine at_nil ?_; refine z_nil [0, 1, 3, 4, 5, 6, 7] ?_ | refine tc_seq fun K hK => ?_ | apply_assumption -exfalso -symm)
  all_goals
    (refine tc_ret (y_ret ?_))
    simp only [oneOf, V.d.injEq, D.bool.injEq, true_eq_decide_iff, false_eq_decide_iff]
    omega
end
section
end
section
def qf2_0 : List Nat := [0, 1, 2, 3, 4, 6, 8, 10, 32, 38, 39, 40, 41, 106]
def qf2_1 : Plan := lin [0, 4, 8, 16, 13, 21, 25, 28, 32, 36, 42, 47, 48]
theorem miss_of {l : List (To.Port × To.Port)} {n m : Int} (h : To.lookP l ⟨n, m⟩ = none) : D.agg [.int .i64 n, .int .i64 m] ∉ dKeys l := fun hm => lookP_none h (mem_keys.1 hm)
theorem miss_more {l : List (To.Port × To.Port)} {n m n' m' : Int} (h : To.lookP l ⟨n', m'⟩ = none) (hne : ¬ n = n') : D.agg [.int .i64 n', .int .i64 m'] ∉ dKeys l ++ [D.agg [.int .i64 n, .int .i64 m]] := fun hm => by
  rcases List.mem_append.1 hm with hm | hm
  · exact miss_of h hm
  · rw [List.mem_singleton] at hm
    simp only [D.agg.injEq, List.cons.injEq, D.int.injEq, true_and] at hm
    exact hne hm.1.symm
theorem keys_take (ws : List To.Wire) (k : Nat) (h : k < ws.length) : dKeys (To.pairs (ws.take (k + 1))) = dKeys (To.pairs (ws.take k)) ++ [D.agg [.int .i64 ws[k].a.node, .int .i64 ws[k].a.link]] ++ [D.agg [.int .i64 ws[k].b.node, .int .i64 ws[k].b.link]] := by
  rw [To.pairs_take ws k h]
  simp [dKeys, dPort]
theorem vals_take (ws : List To.Wire) (k : Nat) (h : k < ws.length) : dVals (To.pairs (ws.take (k + 1))) = dVals (To.pairs (ws.take k)) ++ [D.agg [.int .i64 ws[k].b.node, .int .i64 ws[k].b.link]] ++ [D.agg [.int .i64 ws[k].a.node, .int .i64 ws[k].a.link]] := by
  rw [To.pairs_take ws k h]
  simp [dVals, dPort]
theorem port_same {p q : To.Port} (h : p.node = q.node ∧ p.link = q.link ∧ True) : p = q := by
  cases p; cases q
  simp only at h
  rw [h.1, h.2.1]
theorem port_ne {p q : To.Port} (h : ¬ (p.node = q.node ∧ p.link = q.link ∧ True)) : p ≠ q := fun e => h (by rw [e]; exact ⟨rfl, rfl, trivial⟩)
open Classical in
noncomputable def vJoin (t : To.Topo) : V := if To.Joins t then .tup [.d (dGraph t), .d (.bool true)] else .tup [.d (.raw (.pointer none)), .d (.bool false)]
attribute [local irreducible] TR TC
theorem join_fn (gl : List (Nat × List D)) (t : To.Topo) : FnD prog gl 128 [.d (dTopo t)] (fun v => v = vJoin t) := by
  have hbad : (1 ≤ t.nodes ∧ t.nodes ≤ 8 ∧ t.wires.length ≤ 32 ∧ To.okPort t.nodes t.host → False) → vJoin t = .tup [.d (.raw (.pointer none)), .d (.bool false)] := fun h => by
    unfold vJoin
    rw [if_neg (fun hj => h (by obtain ⟨h1, h2, h3, h4, _⟩ := (To.joins_iff t).1 hj; exact ⟨h1, h2, h3, h4⟩))]
  have hlate : ∀ k (h : k < t.wires.length), ¬ To.Fits t (t.wires.take k) t.wires[k] → vJoin t = .tup [.d (.raw (.pointer none)), .d (.bool false)] := fun k hk h => by
    unfold vJoin
    rw [if_neg (fun hj => h (((To.joins_iff t).1 hj).2.2.2.2 k hk hk))]
  unfold dTopo
  (refine y_enter func128 ntmps128 results128 fun w M => ?_)
  (repeat' first | refine tr_at 1 ?_; (refine z_box 1 ?_) | refine tr_at 14 ?_; (first | refine yyp ?_; try refine s_bu ?_ ?_ <;> intro hb | refine yy2 ?_ ?_ <;> intro hcmp); all_goals try refine z_sh true 14 32 qf2_0 ?_ | refine tr_at 19 ?_; (first | refine yyp ?_; try refine s_bu ?_ ?_ <;> intro hb | refine yy2 ?_ ?_ <;> intro hcmp); all_goals try refine z_sh true 19 32 qf2_0 ?_ | refine tr_at 25 ?_; (first | refine yyp ?_; try refine s_bu ?_ ?_ <;> intro hb | refine yy2 ?_ ?_ <;> intro hcmp); all_goals try refine z_sh true 25 32 qf2_0 ?_ | refine tr_at 34 ?_; (refine z_makeMap 34 ?_) | refine tr_at 36 ?_; (refine z_box 36 ?_) | refine yyp ?_; try refine s_bu ?_ ?_ <;> intro hb | refine yy ?_ | refine yy2 ?_ ?_ <;> intro hcmp | refine at_call 153 ?_; refine y_call (hc := (exists_fn gl _ _ _)) ?_; try refine s_bu ?_ ?_ <;> intro hb | refine at_nil ?_; refine z_nil qf2_0 ?_ | refine tc_seq fun K hK => ?_ | refine tc_at 7 ?_; refine z_draw [11] qf2_1 ?_ | refine tc_at 8 ?_; refine z_draw [11] qf2_1 ?_ | refine tc_draw (id := 11) [16, 18, 19, 21] (.step 0 .pure (.step 1 .pure (.step 2 .pure (.step 4 .pure (.step 6 .pure (.step 7 .pure (.step 8 .pure (.step 10 .pure (.step 12 .pure (.step 14 .pure (.step 3 .quiet (.step 5 .quiet (.step 9 .quiet (.tail [(11, .firm), (13, .firm), (15, .firm), (16, .keep), (17, .pure), (18, .keep), (19, .keep), (20, .pure), (21, .keep)])))))))))))))) mixed (by kernel_rfl) (by kernel_rfl) rfl (by decide) (by kernel_rfl) (by kernel_rfl) (by (repeat (first | exact noPanic_ends | exact noPanic_endsE | exact noPanic_endsI | exact noPanic_endsY | exact noPanic_endsA | (with_reducible apply noPanic_then) | (with_reducible apply noPanic_block))); fail_if_success intros) ?_; all_goals ((refine z_p w_move ?_)); all_goals ((first | (refine z_p w_nil_box ?_) | (refine z_p w_nil_ref ?_))); all_goals ((first | (refine z_p w_field_box ?_) | (refine z_p w_field_ref ?_) | (refine z_p w_field_el ?_))); all_goals ((first | (refine z_p w_field_box ?_) | (refine z_p w_field_ref ?_) | (refine z_p w_field_el ?_))); all_goals ((refine z_p w_move ?_)); all_goals ((first | (refine z_p w_nil_box ?_) | (refine z_p w_nil_ref ?_))); all_goals ((first | (refine z_p w_field_box ?_) | (refine z_p w_field_ref ?_) | (refine z_p w_field_el ?_))); all_goals ((first | (refine z_p w_field_box ?_) | (refine z_p w_field_ref ?_) | (refine z_p w_field_el ?_))); all_goals ((first | (refine z_p w_field_box ?_) | (refine z_p w_field_ref ?_) | (refine z_p w_field_el ?_))); all_goals ((first | (refine z_p w_field_box ?_) | (refine z_p w_field_ref ?_) | (refine z_p w_field_el ?_))); all_goals ((first | (refine z_q w_load_box ?_) | (refine z_q w_load_ref ?_) | (refine z_q w_load_el ?_) | (refine z_q w_load_boxz ?_))); all_goals ((first | (refine z_q w_load_boxs ?_) | (refine z_q w_load_refs ?_) | (refine z_q w_load_el_all ?_) | (refine z_q w_load_els ?_))); all_goals ((first | (refine z_q w_load_box ?_) | (refine z_q w_load_ref ?_) | (refine z_q w_load_el ?_) | (refine z_q w_load_boxz ?_))); all_goals (refine tr_tail ?_); all_goals (refine tj_load ?_); all_goals (refine tj_load ?_); all_goals (refine tj_load ?_); all_goals (refine tj_entry rfl rfl rfl rfl rfl rfl rfl rfl rfl (by first | exact ToD.d _ | exact ToD.nils _ | exact ToD.own rfl) (by first | exact Comp.int .. | exact Comp.str .. | exact Comp.agg (by (repeat (first | exact EqC.nil | apply EqC.int | apply EqC.bool | apply EqC.str)); fail_if_success intros)) (ltd rfl) (ltd rfl) rfl rfl rfl (by (assumption)) (by (assumption)) rfl ?_); all_goals (refine tj_entry rfl rfl rfl rfl rfl rfl rfl rfl rfl (by first | exact ToD.d _ | exact ToD.nils _ | exact ToD.own rfl) (by first | exact Comp.int .. | exact Comp.str .. | exact Comp.agg (by (repeat (first | exact EqC.nil | apply EqC.int | apply EqC.bool | apply EqC.str)); fail_if_success intros)) (ltd rfl) (ltd rfl) rfl rfl rfl (by (assumption)) (by (assumption)) rfl ?_); all_goals (refine tj_nil ?_); all_goals (refine z_nil qf2_0 ?_) | apply_assumption -exfalso -symm)
  · (refine tc_ret (y_ret ?_))
    rw [hbad (by intro h; omega)]; rfl
  · (refine tc_ret (y_ret ?_))
    rw [hbad (by intro h; omega)]; rfl
  · (refine tc_ret (y_ret ?_))
    rw [hbad (by intro h; omega)]; rfl
  · refine tc_fam (fun k : Nat => ⟨[(40, .d (.int .i64 k)), (39, .d (.int .i64 t.wires.length)), (38, .d (.list 4 (t.wires.map dWire))), (4, .ptr 36 0), (1, .ptr 1 0)],
        [(36, .box [.d (.int .i64 t.nodes), .d (.list 4 (t.wires.map dWire)), .d (.int .i64 t.host.node), .d (.int .i64 t.host.link), .map 34]), (34, .map (dKeys (To.pairs (t.wires.take k))) (dVals (To.pairs (t.wires.take k)))), (1, .box [.d (.int .i64 t.nodes), .d (.list 4 (t.wires.map dWire)), .d (.int .i64 t.host.node), .d (.int .i64 t.host.link)])], gl⟩)
      (fun k => k ≤ t.wires.length ∧ To.Some t k) (fun k => t.wires.length - k) 0 ⟨Nat.zero_le _, fun j _ h => absurd h (by omega)⟩ y_wk fun k ⟨hk, hp⟩ => ?_
    (repeat' first | refine tr_at 6 ?_; (refine z_alloc 6 ?_) | refine tr_at 51 ?_; refine s_lookup_portm rfl rfl rfl rfl rfl (ltd rfl) rfl rfl (fun q hq => ?_) (fun hq => ?_) | refine tr_at 7 ?_; (refine z_alloc 7 ?_) | refine tr_at 61 ?_; refine s_lookup_portm rfl rfl rfl rfl rfl (ltd rfl) rfl rfl (fun q hq => ?_) (fun hq => ?_) | refine tr_at 9 ?_; (refine z_alloc 9 ?_) | refine tr_at 65 ?_; (first | refine yyp ?_; try refine s_bu ?_ ?_ <;> intro hb | refine yy2 ?_ ?_ <;> intro hcmp); all_goals try refine z_sh true 65 106 qf2_0 ?_ | refine tr_at 68 ?_; (first | refine yyp ?_; try refine s_bu ?_ ?_ <;> intro hb | refine yy2 ?_ ?_ <;> intro hcmp); all_goals try refine z_sh true 68 106 qf2_0 ?_ | refine tr_at 77 ?_; (first | refine yyp ?_; try refine s_bu ?_ ?_ <;> intro hb | refine yy2 ?_ ?_ <;> intro hcmp); all_goals try refine z_sh true 77 106 qf2_0 ?_ | refine tr_at 84 ?_; (first | refine yyp ?_; try refine s_bu ?_ ?_ <;> intro hb | refine yy2 ?_ ?_ <;> intro hcmp); all_goals try refine z_sh true 84 106 qf2_0 ?_ | refine tr_at 91 ?_; (first | refine yyp ?_; try refine s_bu ?_ ?_ <;> intro hb | refine yy2 ?_ ?_ <;> intro hcmp); all_goals try refine z_sh true 91 106 qf2_0 ?_ | refine tr_at 99 ?_; (first | refine yyp ?_; try refine s_bu ?_ ?_ <;> intro hb | refine yy2 ?_ ?_ <;> intro hcmp); all_goals try refine z_sh true 99 106 qf2_0 ?_ | refine yyp ?_; try refine s_bu ?_ ?_ <;> intro hb | refine yy ?_ | refine yy2 ?_ ?_ <;> intro hcmp | refine at_call 153 ?_; refine y_call (hc := (exists_fn gl _ _ _)) ?_; try refine s_bu ?_ ?_ <;> intro hb | refine at_nil ?_; refine z_nil qf2_0 ?_ | refine tc_seq fun K hK => ?_ | refine tc_at 7 ?_; refine z_draw [11] qf2_1 ?_ | refine tc_at 8 ?_; refine z_draw [11] qf2_1 ?_ | refine tc_draw (id := 11) [16, 18, 19, 21] (.step 0 .pure (.step 1 .pure (.step 2 .pure (.step 4 .pure (.step 6 .pure (.step 7 .pure (.step 8 .pure (.step 10 .pure (.step 12 .pure (.step 14 .pure (.step 3 .quiet (.step 5 .quiet (.step 9 .quiet (.tail [(11, .firm), (13, .firm), (15, .firm), (16, .keep), (17, .pure), (18, .keep), (19, .keep), (20, .pure), (21, .keep)])))))))))))))) mixed (by kernel_rfl) (by kernel_rfl) rfl (by decide) (by kernel_rfl) (by kernel_rfl) (by (repeat (first | exact noPanic_ends | exact noPanic_endsE | exact noPanic_endsI | exact noPanic_endsY | exact noPanic_endsA | (with_reducible apply noPanic_then) | (with_reducible apply noPanic_block))); fail_if_success intros) ?_; all_goals ((refine z_p w_move ?_)); all_goals ((first | (refine z_p w_nil_box ?_) | (refine z_p w_nil_ref ?_))); all_goals ((first | (refine z_p w_field_box ?_) | (refine z_p w_field_ref ?_) | (refine z_p w_field_el ?_))); all_goals ((first | (refine z_p w_field_box ?_) | (refine z_p w_field_ref ?_) | (refine z_p w_field_el ?_))); all_goals ((refine z_p w_move ?_)); all_goals ((first | (refine z_p w_nil_box ?_) | (refine z_p w_nil_ref ?_))); all_goals ((first | (refine z_p w_field_box ?_) | (refine z_p w_field_ref ?_) | (refine z_p w_field_el ?_))); all_goals ((first | (refine z_p w_field_box ?_) | (refine z_p w_field_ref ?_) | (refine z_p w_field_el ?_))); all_goals ((first | (refine z_p w_field_box ?_) | (refine z_p w_field_ref ?_) | (refine z_p w_field_el ?_))); all_goals ((first | (refine z_p w_field_box ?_) | (refine z_p w_field_ref ?_) | (refine z_p w_field_el ?_))); all_goals ((first | (refine z_q w_load_box ?_) | (refine z_q w_load_ref ?_) | (refine z_q w_load_el ?_) | (refine z_q w_load_boxz ?_))); all_goals ((first | (refine z_q w_load_boxs ?_) | (refine z_q w_load_refs ?_) | (refine z_q w_load_el_all ?_) | (refine z_q w_load_els ?_))); all_goals ((first | (refine z_q w_load_box ?_) | (refine z_q w_load_ref ?_) | (refine z_q w_load_el ?_) | (refine z_q w_load_boxz ?_))); all_goals (refine tr_tail ?_); all_goals (refine tj_load ?_); all_goals (refine tj_load ?_); all_goals (refine tj_load ?_); all_goals (refine tj_entry rfl rfl rfl rfl rfl rfl rfl rfl rfl (by first | exact ToD.d _ | exact ToD.nils _ | exact ToD.own rfl) (by first | exact Comp.int .. | exact Comp.str .. | exact Comp.agg (by (repeat (first | exact EqC.nil | apply EqC.int | apply EqC.bool | apply EqC.str)); fail_if_success intros)) (ltd rfl) (ltd rfl) rfl rfl rfl (by (first | exact keys_comp' _ _ _ | exact keys_more _ _ _ _ _)) (by (first | exact miss_of (by assumption) | exact miss_more (by assumption) (by assumption))) rfl ?_); all_goals (refine tj_entry rfl rfl rfl rfl rfl rfl rfl rfl rfl (by first | exact ToD.d _ | exact ToD.nils _ | exact ToD.own rfl) (by first | exact Comp.int .. | exact Comp.str .. | exact Comp.agg (by (repeat (first | exact EqC.nil | apply EqC.int | apply EqC.bool | apply EqC.str)); fail_if_success intros)) (ltd rfl) (ltd rfl) rfl rfl rfl (by (first | exact keys_comp' _ _ _ | exact keys_more _ _ _ _ _)) (by (first | exact miss_of (by assumption) | exact miss_more (by assumption) (by assumption))) rfl ?_); all_goals (refine tj_nil ?_); all_goals (refine z_nil qf2_0 ?_) | apply_assumption -exfalso -symm)
    all_goals first
      | (obtain rfl : k = t.wires.length := by omega
         refine tc_freeze (t := 2) (env' := [(3, .d (.bool true))]) (H' := []) rfl rfl (.cons (.d _) (.cons (.d _) (.cons (.d _) (.cons (.d _) (.map rfl .nil))))) rfl (by (repeat (first | exact Sub.nil | apply Sub.cons rfl)); fail_if_success intros) (by (repeat (first | exact Sub.nil | apply Sub.cons rfl)); fail_if_success intros) rfl rfl ?_
         (refine tc_ret (y_ret ?_))
         unfold vJoin
         rw [if_pos ((To.joins_iff t).2 ⟨by omega, by omega, by omega, by assumption, hp⟩)]
         simp only [List.take_length]
         rfl)
      | ((refine tc_ret (y_ret ?_))
         rw [hlate k (by omega) (fun hf => by
           obtain ⟨f1, f2, f3, f4, f5, f6, f7⟩ := hf
           first
             | exact f1 (lookP_some (p := t.wires[k].a) (by assumption))
             | exact f2 (lookP_some (p := t.wires[k].b) (by assumption))
             | exact f3 (by assumption)
             | exact f4 (port_same (by assumption))
             | exact f5 (port_same (by assumption))
             | exact absurd f6 (by assumption)
             | exact absurd f7 (by assumption))]
         rfl)
      | (have hlt : k < t.wires.length := by omega
         refine ⟨k + 1, ⟨by omega, fun j hj hjk => ?_⟩, by omega, ?_⟩
         · rcases Nat.lt_or_ge j k with h | h
           · exact hp j hj h
           · obtain rfl : j = k := by omega
             exact ⟨lookP_none (p := t.wires[j].a) (by assumption), lookP_none (p := t.wires[j].b) (by assumption), by assumption, port_ne (by assumption), port_ne (by assumption), by assumption, by assumption⟩
         · rw [keys_take _ _ hlt, vals_take _ _ hlt]
           exact y_wk)
  · (refine tc_ret (y_ret ?_))
    rw [hbad (fun h => hb (by have := h.2.2.2; exact this))]; rfl
end
end Go.Proofs.YtjhbglklcddekaaGreatDoor
