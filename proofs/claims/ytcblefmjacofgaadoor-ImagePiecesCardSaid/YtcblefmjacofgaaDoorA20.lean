/- Parts: G6, G7, H3. -/
import Derived.Test.YtcblefmjacofgaaDoorA18
import Derived.Test.YtcblefmjacofgaaDoorA14
set_option linter.all false
set_option linter.unusedVariables false
set_option linter.unusedSimpArgs false
namespace Go.Proofs.YtcblefmjacofgaaDoor.Im
theorem flat_congr {α β : Type} {f g : α → List β} : ∀ {l : List α}, (∀ x ∈ l, f x = g x) → l.flatMap f = l.flatMap g
  | [], _ => rfl
  | x :: l, h => by rw [List.flatMap_cons, List.flatMap_cons, h x List.mem_cons_self, flat_congr fun y hy => h y (List.mem_cons_of_mem _ hy)]
theorem peer_src : ∀ {ws : List To.Wire} {p q : To.Port}, To.peer ws p = some q → p ∈ ws.flatMap fun w => [w.a, w.b]
  | [], _, _, h => by simp [To.peer] at h
  | w :: ws, p, q, h => by
    unfold To.peer at h
    rw [List.flatMap_cons]
    split at h
    · rename_i e; subst e; simp
    · split at h
      · rename_i e; subst e; simp
      · exact List.mem_append_right _ (peer_src h)
theorem kids_range {t : To.Topo} (hm : To.May t) {n : Int} {k : Nat} (hk : k ∈ To.kids t n) : 0 ≤ n ∧ n < t.nodes := by
  have hk := (List.mem_filter.1 hk).2
  unfold To.kid at hk
  simp only [Bool.and_eq_true, Option.isSome_iff_exists] at hk
  obtain ⟨⟨q, hq⟩, _⟩ := hk
  have := hm.2.2.2.1 _ (by unfold To.ports; exact List.mem_cons_of_mem _ (peer_src hq))
  exact ⟨this.1, this.2.1⟩
theorem place {t : To.Topo} (hm : To.May t) {n : Int} (h0 : 0 ≤ n) (h1 : n < t.nodes) : ∃ (i : Nat) (hi : i < (To.order t).length), (To.order t)[i].node = n := by
  obtain ⟨p, q1, q2⟩ := To.all_nodes hm h0 h1
  obtain ⟨i, hi, rfl⟩ := List.mem_iff_getElem.1 q1
  exact ⟨i, hi, q2⟩
theorem order_le {t : To.Topo} (hm : To.May t) : (To.order t).length ≤ 8 := (To.order_good hm.sound).len hm.sound.n.2 (by have := hm.sound.n.1; omega)
def part (t : To.Topo) (front : List UInt8) (last : Int → I.Cmd) (f : Nat) (n : Int) : List I.Cmd := ((To.kids t n).flatMap fun k => fwd k (tr t front last f (child t n k))) ++ [last n]
theorem tr_succ (t : To.Topo) (front : List UInt8) (last : Int → I.Cmd) (f : Nat) (n : Int) : tr t front last (f + 1) n = front ++ (I.putC (part t front last f n)).1 := rfl
theorem tr_fuel {t : To.Topo} (hm : To.May t) {front : List UInt8} {last : Int → I.Cmd} : ∀ (f g i : Nat) (hi : i < (To.order t).length), (To.order t).length ≤ i + f → (To.order t).length ≤ i + g → tr t front last f (To.order t)[i].node = tr t front last g (To.order t)[i].node
  | 0, _, i, hi, h, _ => by omega
  | _, 0, i, hi, _, h => by omega
  | f + 1, g + 1, i, hi, h1, h2 => by
    rw [tr_succ, tr_succ]
    unfold part
    rw [flat_congr fun k hk => ?_]
    obtain ⟨j, hij, hj, e⟩ := child_at hm hi hk
    rw [← e, tr_fuel hm f g j hj (by omega) (by omega)]
def Ab : Nat → Nat
  | 0 => 0
  | f + 1 => max 32821 ((19 * Ab f + 207) / 16)
theorem put_len (l : List I.Cmd) : (I.putC l).1.length ≤ I.sizeC l := by
  unfold I.putC
  split
  · split
    · rw [I.ones_length]; exact Nat.le_refl _
    · simp
  · simp
theorem size_flat (g : Nat → List I.Cmd) (s : Nat → Nat) (A : Nat) : ∀ ks : List Nat, (∀ k ∈ ks, I.sizeC (g k) ≤ s k * A) → I.sizeC (ks.flatMap g) ≤ (ks.map s).sum * A
  | [], _ => by simp [I.sizeC]
  | k :: ks, h => by
    rw [List.flatMap_cons, I.sizeC_append, List.map_cons, List.sum_cons, Nat.add_mul]
    have := h k List.mem_cons_self
    have := size_flat g s A ks fun k' h' => h k' (List.mem_cons_of_mem _ h')
    omega
theorem flat_len {α β : Type} (g : α → List β) : ∀ ks : List α, (ks.flatMap g).length = (ks.map fun k => (g k).length).sum
  | [] => rfl
  | k :: ks => by rw [List.flatMap_cons, List.length_append, List.map_cons, List.sum_cons, flat_len g ks]
theorem tr_size {t : To.Topo} {front : List UInt8} {last : Int → I.Cmd} (hF : front.length ≤ 41) (hL : ∀ n, (last n).b.length ≤ 32768) : ∀ (f : Nat) (n : Int),
    I.sizeC (part t front last f n) + 41 ≤ (To.sub t (f + 1) n).length * Ab (f + 1) ∧ (tr t front last (f + 1) n).length ≤ (To.sub t (f + 1) n).length * Ab (f + 1) := by
  intro f
  induction f with
  | zero =>
    intro n
    have e : To.sub t 1 n = n :: (To.kids t n).flatMap fun k => To.sub t 0 (child t n k) := rfl
    have e2 : ((To.kids t n).flatMap fun k => To.sub t 0 (child t n k)) = [] := by
      rw [List.flatMap_eq_nil_iff]; intro k _; rfl
    have e3 : ((To.kids t n).flatMap fun k => fwd k (tr t front last 0 (child t n k))) = [] := by
      rw [List.flatMap_eq_nil_iff]; intro k _; unfold tr fwd; rw [pieces_nil rfl]; rfl
    have hl := hL n
    have hs : I.sizeC (part t front last 0 n) + 41 ≤ (To.sub t 1 n).length * Ab 1 := by
      unfold part
      rw [e, e2, e3]
      have : Ab 1 = 32821 := by decide
      simp [I.sizeC, this]
      omega
    refine ⟨hs, ?_⟩
    rw [tr_succ, List.length_append]
    have := put_len (part t front last 0 n)
    exact Nat.le_trans (by omega) hs
  | succ f ih =>
    intro n
    have e : To.sub t (f + 2) n = n :: (To.kids t n).flatMap fun k => To.sub t (f + 1) (child t n k) := rfl
    have hA1 : 32821 ≤ Ab (f + 2) := Nat.le_max_left _ _
    have hA2 : 19 * Ab (f + 1) + 192 ≤ 16 * Ab (f + 2) := by
      have : (19 * Ab (f + 1) + 207) / 16 ≤ Ab (f + 2) := Nat.le_max_right _ _
      omega
    have hk : ∀ k ∈ To.kids t n, I.sizeC (fwd k (tr t front last (f + 1) (child t n k))) ≤ (To.sub t (f + 1) (child t n k)).length * Ab (f + 2) := fun k _ => by
      obtain ⟨_, h2⟩ := ih (child t n k)
      have h3 := fwd_size k (tr t front last (f + 1) (child t n k))
      have h1 : 1 ≤ (To.sub t (f + 1) (child t n k)).length := by unfold To.sub; simp
      generalize (To.sub t (f + 1) (child t n k)).length = s at *
      have h4 : 19 * (s * Ab (f + 1)) + 192 ≤ s * (19 * Ab (f + 1) + 192) := by
        rw [Nat.mul_add, Nat.mul_left_comm]
        have := Nat.mul_le_mul_right 192 h1
        omega
      have h5 := Nat.mul_le_mul_left s hA2
      rw [Nat.mul_left_comm s 16] at h5
      omega
    have hs : I.sizeC (part t front last (f + 1) n) + 41 ≤ (To.sub t (f + 2) n).length * Ab (f + 2) := by
      have h6 := size_flat _ (fun k => (To.sub t (f + 1) (child t n k)).length) _ _ hk
      have hl := hL n
      unfold part
      rw [e, I.sizeC_append, List.length_cons, flat_len, Nat.add_mul, Nat.one_mul]
      simp [I.sizeC] at h6 ⊢
      omega
    refine ⟨hs, ?_⟩
    rw [tr_succ, List.length_append]
    have := put_len (part t front last (f + 1) n)
    exact Nat.le_trans (by omega) hs
structure Fine (t : To.Topo) (size : Int) (l : List Obj) : Prop where
  may : To.May t
  mem : okMem size
  len : (l.length : Int) = t.nodes
  objs : ∀ o ∈ l, okObj o
  fit : ∀ o ∈ l, fits size o
theorem fine_of {t : To.Topo} {node size : Int} {l : List Obj} (h : check t node size l = 0) : Fine t size l := by
  unfold check at h
  split at h
  · cases h
  · rename_i h1
    have h1 := Classical.not_not.1 h1
    split at h
    · cases h
    · split at h
      · cases h
      · rename_i h3
        exact ⟨h1.1, h1.2.1, h1.2.2.1, h1.2.2.2, Classical.not_not.1 h3⟩
theorem obj_or {l : List Obj} (n : Int) : obj l n ∈ l ∨ obj l n = ⟨[], 0, 0, 0⟩ := by
  unfold obj
  rw [List.getD_eq_getElem?_getD]
  cases h : l[n.toNat]? with
  | none => exact .inr rfl
  | some o => exact .inl (List.mem_of_getElem? h)
variable {t : To.Topo} {size : Int} {l : List Obj}
theorem Fine.code (h : Fine t size l) (n : Int) : (obj l n).code.length ≤ 32768 ∧ 0 ≤ (obj l n).entry ∧ (obj l n).entry ≤ 32768 := by
  rcases obj_or (l := l) n with ho | ho
  · have := h.objs _ ho
    unfold okObj at this
    omega
  · rw [ho]; simp
theorem Fine.load (h : Fine t size l) (n : Int) : I.mayC (loadC l n) = true ∧ (loadC l n).Wf := by
  have := h.code n
  refine ⟨?_, by dsimp only [loadC]; omega, by dsimp only [loadC]; omega, by dsimp only [loadC]; omega, by dsimp only [loadC]; omega, by dsimp only [loadC]; omega⟩
  unfold I.mayC loadC
  simp
  omega
theorem Fine.space (h : Fine t size l) (n : Int) : -2147483648 ≤ (workspace size (obj l n)).1 ∧ (workspace size (obj l n)).1 ≤ 2147483647 ∧ (workspace size (obj l n)).1 % 4 = 0 := by
  have hs := h.mem
  unfold workspace
  split
  · rename_i h1
    have hb := h1.2
    unfold okMem at hs
    unfold okObj at hb
    split
    · rename_i hf
      unfold fits at hf
      dsimp only
      omega
    · decide
  · decide
theorem Fine.run (h : Fine t size l) (n : Int) : I.mayC (runC size l n) = true ∧ (runC size l n).Wf := by
  have h1 := h.code n
  have h2 := h.space n
  refine ⟨?_, by dsimp only [runC]; omega, by dsimp only [runC]; omega, by dsimp only [runC]; omega, by dsimp only [runC]; omega, by dsimp only [runC]; omega⟩
  unfold I.mayC runC
  simp
  omega
def cmds (t : To.Topo) (size : Int) (l : List Obj) (n : Int) : List I.Cmd := part t I.bootB (loadC l) 8 n ++ part t [] (runC size l) 8 n
theorem part_all (front : List UInt8) {last : Int → I.Cmd} (hl : ∀ n, I.mayC (last n) = true ∧ (last n).Wf) (f : Nat) (n : Int) : ∀ c ∈ part t front last f n, I.mayC c = true ∧ c.Wf := fun c hc => by
  rcases List.mem_append.1 hc with hc | hc
  · obtain ⟨k, hk, hc⟩ := List.mem_flatMap.1 hc
    exact ⟨fwd_may (kids_lt hk) hc, fwd_wf (kids_lt hk) _ c hc⟩
  · rw [List.mem_singleton] at hc
    subst hc
    exact hl n
theorem part_put {front : List UInt8} {last : Int → I.Cmd} (hm : To.May t) (hF : front.length ≤ 41) (hl : ∀ n, I.mayC (last n) = true ∧ (last n).Wf) (hL : ∀ n, (last n).b.length ≤ 32768) {f i : Nat} (hf : f ≤ 8) (hi : i < (To.order t).length) :
    I.putC (part t front last f (To.order t)[i].node) = ((part t front last f (To.order t)[i].node).flatMap I.oneC, 0) := by
  have h1 := (tr_size (t := t) hF hL f (To.order t)[i].node).1
  have h2 := To.sub_len hm (f + 1) i hi
  have h3 : Ab (f + 1) ≤ 131072 := by
    have : ∀ g, g < 9 → Ab (g + 1) ≤ 131072 := by decide
    exact this f (by omega)
  have h4 := Nat.mul_le_mul h2 h3
  unfold I.putC
  rw [if_pos (List.all_eq_true.2 fun c hc => (part_all front hl f _ c hc).1), if_pos (by omega)]
theorem tr_kid {front : List UInt8} {last : Int → I.Cmd} (hm : To.May t) {n : Int} {k : Nat} (hk : k ∈ To.kids t n) : tr t front last 8 (child t n k) = tr t front last 9 (child t n k) := by
  obtain ⟨h0, h1⟩ := kids_range hm hk
  obtain ⟨i, hi, rfl⟩ := place hm h0 h1
  obtain ⟨j, hij, hj, e⟩ := child_at hm hi hk
  have := order_le hm
  rw [← e]
  exact tr_fuel hm 8 9 j hj (by omega) (by omega)
theorem load_enc (h : Fine t size l) {n : Int} (h0 : 0 ≤ n) (h1 : n < t.nodes) : load t l n = I.bootB ++ (part t I.bootB (loadC l) 8 n).flatMap I.oneC := by
  obtain ⟨i, hi, rfl⟩ := place h.may h0 h1
  show tr t I.bootB (loadC l) 9 _ = _
  rw [tr_succ, part_put h.may (by decide) h.load (fun n => (h.code n).1) (Nat.le_refl _) hi]
theorem start_enc (h : Fine t size l) {n : Int} (h0 : 0 ≤ n) (h1 : n < t.nodes) : start t size l n = (part t [] (runC size l) 8 n).flatMap I.oneC := by
  obtain ⟨i, hi, rfl⟩ := place h.may h0 h1
  show tr t [] (runC size l) 9 _ = _
  rw [tr_succ, part_put h.may (by decide) h.run (fun n => by simp [runC]) (Nat.le_refl _) hi]
  rfl
theorem whole_cmds (h : Fine t size l) {n : Int} (h0 : 0 ≤ n) (h1 : n < t.nodes) : whole (cmds t size l n) = load t l n ++ start t size l n := by
  unfold whole cmds
  rw [List.flatMap_append, load_enc h h0 h1, start_enc h h0 h1, List.append_assoc]
theorem cmds_fit (h : Fine t size l) : Fit t (cmds t size l) where
  prog := fun n => by
    refine ⟨fun c hc => ?_, part t I.bootB (loadC l) 8 n ++ ((To.kids t n).flatMap fun k => fwd k (tr t [] (runC size l) 8 (child t n k))), runC size l n, ?_, rfl, fun c hc => ?_⟩
    · rcases List.mem_append.1 hc with hc | hc
      · exact part_all I.bootB h.load 8 n c hc
      · exact part_all [] h.run 8 n c hc
    · unfold cmds part
      simp only [List.append_assoc]
    · rcases List.mem_append.1 hc with hc | hc
      · rcases List.mem_append.1 hc with hc | hc
        · obtain ⟨k, _, hc⟩ := List.mem_flatMap.1 hc
          exact .inr (fwd_mem hc).1
        · rw [List.mem_singleton] at hc
          subst hc
          exact .inl rfl
      · obtain ⟨k, _, hc⟩ := List.mem_flatMap.1 hc
        exact .inr (fwd_mem hc).1
  known := fun n => by
    unfold known
    refine List.all_eq_true.2 fun c hc => ?_
    have key : ∀ (front : List UInt8) (last : Int → I.Cmd), (last n).k ≠ 2 → c ∈ part t front last 8 n → (!(c.k == 2) || (To.kids t n).any fun k => lnk c == (k : Int)) = true := by
      intro front last hl hc
      rcases List.mem_append.1 hc with hc | hc
      · obtain ⟨k, hk, hc⟩ := List.mem_flatMap.1 hc
        have : lnk c = (k : Int) := by
          obtain ⟨_, h2, _⟩ := fwd_mem hc
          unfold lnk
          omega
        rw [Bool.or_eq_true]
        exact .inr (List.any_eq_true.2 ⟨k, hk, by simp [this]⟩)
      · rw [List.mem_singleton] at hc
        subst hc
        simp [hl]
    rcases List.mem_append.1 hc with hc | hc
    · exact key _ _ (by simp [loadC]) hc
    · exact key _ _ (by simp [runC]) hc
  got := fun n k hk => by
    obtain ⟨h0, h1⟩ := kids_range h.may hk
    obtain ⟨i, hi, rfl⟩ := place h.may h0 h1
    obtain ⟨j, _, hj, e⟩ := child_at h.may hi hk
    have hr := (To.order_good h.may.sound).range _ (List.getElem_mem hj)
    unfold To.inR at hr
    rw [e] at hr
    rw [whole_cmds h hr.1 hr.2]
    unfold cmds part
    rw [got_app, got_app, got_app, got_fwds _ _ _ (To.kids_nodup t _), got_fwds _ _ _ (To.kids_nodup t _), if_pos hk, if_pos hk,
      got_other (fun c hc => by rw [List.mem_singleton] at hc; subst hc; simp [loadC]), got_other (fun c hc => by rw [List.mem_singleton] at hc; subst hc; simp [runC]), List.append_nil, List.append_nil,
      tr_kid h.may hk, tr_kid h.may hk]
    rfl
theorem split_make {node : Int} (hc : check t node size l = 0) : split t (load t l t.host.node ++ start t size l t.host.node) = ((List.range t.nodes.toNat).map fun (i : Nat) => cmds t size l i, 0) := by
  have h := fine_of hc
  have hm := h.may
  obtain ⟨m, ho⟩ := To.order_zero t
  have h0 : 0 < (To.order t).length := by rw [ho]; simp
  have e0 : (To.order t)[0].node = t.host.node := by simp [ho]
  have hr := (To.order_good hm.sound).range _ (List.getElem_mem h0)
  have hn := hm.sound.n
  have hlen := order_le hm
  obtain ⟨o, h1, h2⟩ := recv_gives hm (cmds_fit h) 9 0 h0 (by omega) (List.replicate t.nodes.toNat []) (by rw [List.length_replicate]; omega)
  have hol := recv_length _ _ _ _ _ h1
  rw [whole_cmds h hr.1 hr.2, e0] at h1
  rw [e0] at h2
  have : o = (List.range t.nodes.toNat).map fun (i : Nat) => cmds t size l i := by
    refine List.ext_getElem? fun i => ?_
    rw [List.length_replicate] at hol
    rcases Nat.lt_or_ge i t.nodes.toNat with hi | hi
    · obtain ⟨j, hj, e⟩ := place hm (n := (i : Int)) (by omega) (by omega)
      have := h2 _ (To.all_behind hm j hj)
      rw [e] at this
      rw [show ((i : Int)).toNat = i from rfl] at this
      rw [this, List.getElem?_map, List.getElem?_range hi]
      rfl
    · rw [List.getElem?_eq_none (by omega), List.getElem?_eq_none (by simpa using hi)]
  unfold split
  rw [if_pos hm, h1, this]
end Go.Proofs.YtcblefmjacofgaaDoor.Im
namespace Go.Proofs.YtcblefmjacofgaaDoor.Im
def loads (l : List I.Cmd) : Nat := (l.filter fun c => c.k == 1).length
theorem loads_take (l : List I.Cmd) (k : Nat) (hk : k < l.length) : loads (l.take (k + 1)) = loads (l.take k) + if l[k].k = 1 then 1 else 0 := by
  unfold loads
  rw [← get_take _ hk, List.filter_append, List.length_append, List.filter_cons, List.filter_nil]
  split <;> split <;> simp_all
theorem loads_app (a b : List I.Cmd) : loads (a ++ b) = loads a + loads b := by
  unfold loads
  rw [List.filter_append, List.length_append]
theorem loads_none {l : List I.Cmd} (h : ∀ c ∈ l, c.k ≠ 1) : loads l = 0 := by
  unfold loads
  rw [List.filter_eq_nil_iff.2 fun c hc => by have := h c hc; simp [this]]
  rfl
theorem obj_get {l : List Obj} {i : Nat} (hi : i < l.length) : obj l (i : Int) = l[i] := by
  unfold obj
  rw [List.getD_eq_getElem?_getD, show ((i : Int)).toNat = i from rfl, List.getElem?_eq_getElem hi]
  rfl
theorem cmds_eq (t : To.Topo) (size : Int) (l : List Obj) (n : Int) : ∃ a b : List I.Cmd, cmds t size l n = (a ++ loadC l n :: b) ++ [runC size l n] ∧ (∀ c ∈ a, c.k = 2 ∧ 1 ≤ c.b.length) ∧ (∀ c ∈ b, c.k = 2 ∧ 1 ≤ c.b.length) := by
  refine ⟨(To.kids t n).flatMap fun k => fwd k (tr t I.bootB (loadC l) 8 (child t n k)), (To.kids t n).flatMap fun k => fwd k (tr t [] (runC size l) 8 (child t n k)), ?_, ?_, ?_⟩
  · unfold cmds part
    simp only [List.append_assoc, List.cons_append, List.nil_append]
  · intro c hc
    obtain ⟨k, _, hc⟩ := List.mem_flatMap.1 hc
    exact ⟨(fwd_mem hc).1, (fwd_mem hc).2.2.2.1⟩
  · intro c hc
    obtain ⟨k, _, hc⟩ := List.mem_flatMap.1 hc
    exact ⟨(fwd_mem hc).1, (fwd_mem hc).2.2.2.1⟩
theorem cmds_shape (t : To.Topo) (size : Int) (l : List Obj) (n : Int) : ∃ m, (cmds t size l n).length = m + 1 ∧ (cmds t size l n)[m]? = some (runC size l n) ∧ loads (cmds t size l n) = 1 ∧
    ∀ k c, k < m → (cmds t size l n)[k]? = some c → c = loadC l n ∨ (c.k = 2 ∧ 1 ≤ c.b.length) := by
  obtain ⟨a, b, e, ha, hb⟩ := cmds_eq t size l n
  rw [e]
  refine ⟨(a ++ loadC l n :: b).length, by rw [List.length_append]; rfl, ?_, ?_, fun k c hk hc => ?_⟩
  · rw [List.getElem?_append_right (Nat.le_refl _)]
    simp
  · have e1 : loads a = 0 := loads_none fun c hc => by rw [(ha c hc).1]; decide
    have e2 : loads b = 0 := loads_none fun c hc => by rw [(hb c hc).1]; decide
    have e3 : loads [runC size l n] = 0 := loads_none fun c hc => by rw [List.mem_singleton] at hc; subst hc; simp [runC]
    have e4 : loads [loadC l n] = 1 := rfl
    rw [loads_app, loads_app, show loadC l n :: b = [loadC l n] ++ b from rfl, loads_app, e1, e2, e3, e4]
  · rw [List.getElem?_append_left hk] at hc
    rcases List.mem_append.1 (List.mem_of_getElem? hc) with h | h
    · exact .inr (ha c h)
    · rcases List.mem_cons.1 h with h | h
      · exact .inl h
      · exact .inr (hb c h)
theorem part_size {t : To.Topo} {front : List UInt8} {last : Int → I.Cmd} (hm : To.May t) (hF : front.length ≤ 41) (hL : ∀ n, (last n).b.length ≤ 32768) {i : Nat} (hi : i < (To.order t).length) : I.sizeC (part t front last 8 (To.order t)[i].node) ≤ 1048576 := by
  have h1 := (tr_size (t := t) hF hL 8 (To.order t)[i].node).1
  have h2 := To.sub_len hm (8 + 1) i hi
  have h3 : Ab (8 + 1) ≤ 131072 := by decide
  have h4 := Nat.mul_le_mul h2 h3
  omega
theorem len_size (l : List I.Cmd) : l.length ≤ I.sizeC l := by
  induction l with
  | nil => simp
  | cons x l ih =>
    have e : I.sizeC (x :: l) = 12 + x.b.length + I.sizeC l := by simp [I.sizeC]
    rw [List.length_cons]; omega
theorem cmds_len {t : To.Topo} {size : Int} {l : List Obj} (h : Fine t size l) {n : Int} (h0 : 0 ≤ n) (h1 : n < t.nodes) : (cmds t size l n).length ≤ 2097152 := by
  obtain ⟨i, hi, rfl⟩ := place h.may h0 h1
  have a := part_size h.may (front := I.bootB) (last := loadC l) (by decide) (fun n => (h.code n).1) hi
  have b := part_size h.may (front := []) (last := runC size l) (by decide) (fun n => by simp [runC]) hi
  have := len_size (part t I.bootB (loadC l) 8 (To.order t)[i].node)
  have := len_size (part t [] (runC size l) 8 (To.order t)[i].node)
  unfold cmds
  rw [List.length_append]
  omega
def great (l : List Obj) : Bool := (l.take 12).any (fun o => decide (1 < l.length) && decide (3000 < o.code.length)) || decide (12 < l.length)
theorem great_len {l : List Obj} (h : great l = false) : l.length ≤ 12 := by
  unfold great at h
  rw [Bool.or_eq_false_iff] at h
  have := h.2
  simp at this
  omega
end Go.Proofs.YtcblefmjacofgaaDoor.Im
namespace Go.Proofs.YtcblefmjacofgaaDoor
open Go.RowKit
theorem min_nat (a b : Nat) : ∃ m : Nat, (if (b : Int) < (a : Int) then (b : Int) else (a : Int)) = (m : Int) ∧ m = min a b := by
  split
  · exact ⟨b, rfl, by omega⟩
  · exact ⟨a, rfl, by omega⟩
attribute [local irreducible] TR TC
set_option maxRecDepth 100000 in
set_option maxHeartbeats 4000000 in
theorem great_fn (gl : List (Nat × List D)) (l : List Im.Obj) : FnD Tryd.prog gl 14 [.d (.list 4 (l.map dObj))] (fun v => v = .d (.bool (Im.great l))) := by
  (refine y_enter Tryd.func14 Tryd.ntmps14 Tryd.results14 fun w M => ?_; simp only [slots, List.map_cons, List.map_nil, List.zipIdx_cons, List.zipIdx_nil, Nat.reduceAdd])
  refine tc_small 0 rfl fun hn => ?_
  rw [List.length_map] at hn
  ((repeat' (first | (refine yyp ?_; (try refine s_bu ?_ ?_ <;> (intro hb; try simp only [decide_eq_true_eq, decide_eq_false_iff_not] at hb))) | (refine yy ?_) | (refine yy2 ?_ ?_ <;> (intro hcmp; try simp only [cmp] at hcmp)) | (refine z_nil [0, 2, 3, 4, 5, 6, 7, 8, 21] ?_) | (refine tc_seq fun K hK => ?_) | (apply_assumption -exfalso -symm))); all_goals (try refine unhalt ?_))
  obtain ⟨m, hm, hmm⟩ := min_nat l.length 12
  rw [show (12 : Int) = ((12 : Nat) : Int) from rfl, hm]
  refine y_famx [2, 3, 7, 8, 9, 10, 11, 12, 13, 14, 15, 16, 17, 18, 19, 20, 21, 22] [] (fun k : Nat => [(7, .d (.int .i64 k))]) (fun _ => []) (fun k => k ≤ m ∧ (l.take k).any (fun o => decide (1 < l.length) && decide (3000 < o.code.length)) = false) (fun k => m - k) 0 ⟨Nat.zero_le _, by simp⟩  fun k ⟨hk, hany⟩ => ?_
  dsimp only [List.cons_append, List.nil_append] at hk hany ⊢
  rcases Nat.lt_or_ge k m with hkm | hkm
  · have hkl : k < l.length := by omega
    have hs : (l.take (k + 1)).any (fun o => decide (1 < l.length) && decide (3000 < o.code.length)) = (decide (1 < l.length) && decide (3000 < l[k].code.length)) := by rw [← get_take _ hkl, List.any_append, hany]; simp
    have hget : (l.map dObj)[k]? = some (.agg [.list 1 (l[k].code.map dByte), .int .i64 l[k].entry, .int .i64 l[k].below, .int .i64 l[k].above]) := by rw [List.getElem?_map, List.getElem?_eq_getElem hkl]; rfl
    ((repeat' (first | (refine yyp ?_; (try refine s_bu ?_ ?_ <;> (intro hb; try simp only [decide_eq_true_eq, decide_eq_false_iff_not] at hb))) | (refine yy ?_) | (refine yy2 ?_ ?_ <;> (intro hcmp; try simp only [cmp] at hcmp)) | (refine z_nil [0, 2, 3, 4, 5, 6, 7, 8, 21] ?_) | (refine tc_seq fun K hK => ?_) | (apply_assumption -exfalso -symm))); all_goals (try refine unhalt ?_))
    · (refine tc_ret (y_ret ?_))
      unfold Im.great
      have : (l.take 12).any (fun o => decide (1 < l.length) && decide (3000 < o.code.length)) = true := by
        refine List.any_eq_true.2 ⟨l[k], ?_, by simp; omega⟩
        rw [List.mem_take_iff_getElem]
        exact ⟨k, by omega, rfl⟩
      rw [this]; rfl
    · refine ⟨k + 1, ⟨by omega, ?_⟩, by omega, y_wk⟩
      rw [hs]; simp; omega
    · refine ⟨k + 1, ⟨by omega, ?_⟩, by omega, y_wk⟩
      rw [hs]; simp; omega
  · have hany' : (l.take 12).any (fun o => decide (1 < l.length) && decide (3000 < o.code.length)) = false := by
      have : l.take 12 = l.take k := by rw [List.take_eq_take_iff]; omega
      rw [this]; exact hany
    ((repeat' (first | (refine yyp ?_; (try refine s_bu ?_ ?_ <;> (intro hb; try simp only [decide_eq_true_eq, decide_eq_false_iff_not] at hb))) | (refine yy ?_) | (refine yy2 ?_ ?_ <;> (intro hcmp; try simp only [cmp] at hcmp)) | (refine z_nil [0, 2, 3, 4, 5, 6, 7, 8, 21] ?_) | (refine tc_seq fun K hK => ?_) | (apply_assumption -exfalso -symm))); all_goals (try refine unhalt ?_))
    all_goals
      (refine tc_ret (y_ret ?_))
      unfold Im.great
      rw [hany']
      simp [oneOf]
      try omega
set_option maxRecDepth 100000 in
set_option maxHeartbeats 8000000 in
theorem back_fn (t : To.Topo) (size : Int) (l : List Im.Obj) : FnD Tryd.prog glT 5 [.d (dTopo t), .d (.int .i64 size), .d (.list 4 (l.map dObj))] (fun v => v = .d (.bool true)) := by
  have hgr := great_fn glT l
  cases hg : Im.great l with
  | true =>
    rw [hg] at hgr
    unfold dTopo
    (refine y_enter Tryd.func5 Tryd.ntmps5 Tryd.results5 fun w M => ?_; simp only [slots, List.map_cons, List.map_nil, List.zipIdx_cons, List.zipIdx_nil, Nat.reduceAdd])
    ((repeat' (first | (refine z_box (d := 3) 3 ?_) | (refine z_alloc (d := 11) 11 ?_) | (refine z_alloc (d := 16) 16 ?_) | (refine yyp ?_; (try refine s_bu ?_ ?_ <;> (intro hb; try simp only [decide_eq_true_eq, decide_eq_false_iff_not] at hb))) | (refine yy ?_) | (refine yy2 ?_ ?_ <;> (intro hcmp; try simp only [cmp] at hcmp)) | (refine y_call (hc := (hgr)) ?_; (try refine s_bu ?_ ?_ <;> (intro hb; try simp only [decide_eq_true_eq, decide_eq_false_iff_not] at hb))) | (refine y_call (hc := (awake_fn)) ?_; (try refine s_bu ?_ ?_ <;> (intro hb; try simp only [decide_eq_true_eq, decide_eq_false_iff_not] at hb))) | (refine z_nil [0, 1, 2, 3, 6, 7, 8, 9, 10, 11, 12, 13, 14, 15, 16, 18, 28, 49, 50, 51, 52, 53, 66, 67, 68, 69, 73, 103, 104, 120, 121, 133] ?_) | (refine tc_seq fun K hK => ?_) | (apply_assumption -exfalso -symm))); all_goals (try refine unhalt ?_))
    (refine tc_ret (y_ret ?_))
    rfl
  | false =>
    rw [hg] at hgr
    have hl12 := Im.great_len hg
    have hmk := Make_fn t size l (by omega)
    by_cases hc : Im.check t 0 size l = 0
    · have hfine := Im.fine_of hc
      have hmke : Im.makeE t size l = (Im.load t l t.host.node ++ Im.start t size l t.host.node, 0) := by unfold Im.makeE; rw [if_pos hc]
      rw [hmke] at hmk
      have hl1 := Im.tr_len t I.bootB (Im.loadC l) (by decide) 9 t.host.node
      have hl2 := Im.tr_len t [] (Im.runC size l) (by decide) 9 t.host.node
      have hsp := Split_fn t (Im.load t l t.host.node ++ Im.start t size l t.host.node) (by rw [List.length_append]; unfold Im.load Im.start; omega)
      rw [Im.split_make hc] at hsp
      generalize Im.load t l t.host.node ++ Im.start t size l t.host.node = img at hmk hsp
      have hn := hfine.may.sound.n
      have hlen := hfine.len
      have hcs : ∀ i, i < l.length → ((List.range t.nodes.toNat).map fun (i : Nat) => Im.cmds t size l i)[i]? = some (Im.cmds t size l i) := fun i hi => by
        rw [List.getElem?_map, List.getElem?_range (by omega)]; rfl
      have hcl : ((List.range t.nodes.toNat).map fun (i : Nat) => Im.cmds t size l i).length = l.length := by rw [List.length_map, List.length_range]; omega
      generalize ((List.range t.nodes.toNat).map fun (i : Nat) => Im.cmds t size l i) = cs at hsp hcs hcl
      unfold dTopo at hmk hsp ⊢
      (refine y_enter Tryd.func5 Tryd.ntmps5 Tryd.results5 fun w M => ?_; simp only [slots, List.map_cons, List.map_nil, List.zipIdx_cons, List.zipIdx_nil, Nat.reduceAdd])
      ((repeat' (first | (refine z_box (d := 3) 3 ?_) | (refine z_alloc (d := 11) 11 ?_) | (refine z_alloc (d := 16) 16 ?_) | (refine yyp ?_; (try refine s_bu ?_ ?_ <;> (intro hb; try simp only [decide_eq_true_eq, decide_eq_false_iff_not] at hb))) | (refine yy ?_) | (refine yy2 ?_ ?_ <;> (intro hcmp; try simp only [cmp] at hcmp)) | (refine y_call (hc := (hgr)) ?_; (try refine s_bu ?_ ?_ <;> (intro hb; try simp only [decide_eq_true_eq, decide_eq_false_iff_not] at hb))) | (refine y_call (hc := (hmk)) ?_) | (refine y_call (hc := (hsp)) ?_) | (refine z_nil [0, 1, 2, 3, 6, 7, 8, 9, 10, 11, 12, 13, 14, 15, 16, 18, 28, 49, 50, 51, 52, 53, 66, 67, 68, 69, 73, 103, 104, 120, 121, 133] ?_) | (refine tc_seq fun K hK => ?_) | (apply_assumption -exfalso -symm))); all_goals (try refine unhalt ?_))
      refine y_famx [6, 10, 11, 12, 13, 14, 15, 16, 52, 53, 54, 55, 56, 57, 58, 59, 60, 61, 62, 63, 64, 65, 66, 67, 68, 69, 70, 71, 72, 73, 74, 75, 76, 77, 78, 79, 80, 81, 82, 83, 84, 85, 86, 87, 88, 89, 90, 91, 92, 93, 94, 95, 96, 97, 98, 99, 100, 101, 102, 103, 104, 105, 106, 107, 108, 109, 110, 111, 112, 113, 114, 115, 116, 117, 118, 119, 120, 121, 122, 123, 124, 125, 126, 127, 128, 129, 130, 131, 132, 133, 134] [] (fun i : Nat => [(52, .d (.int .i64 i))]) (fun _ => []) (fun i => i ≤ l.length) (fun i => l.length - i) 0 (Nat.zero_le _)  fun i hi => ?_
      dsimp only [List.cons_append, List.nil_append] at hi ⊢
      rcases Nat.lt_or_ge i l.length with hil | hil
      · have hget : (l.map dObj)[i]? = some (.agg [.list 1 (l[i].code.map dByte), .int .i64 l[i].entry, .int .i64 l[i].below, .int .i64 l[i].above]) := by rw [List.getElem?_map, List.getElem?_eq_getElem hil]; rfl
        have hget2 : (cs.map dOut)[i]? = some (.list 4 ((Im.cmds t size l i).map dCmd)) := by rw [List.getElem?_map, hcs i hil]; rfl
        have hws := Workspace_fn glT size l[i]
        have hok := hfine.objs _ (List.getElem_mem hil)
        have hfit := hfine.fit _ (List.getElem_mem hil)
        have hmem := hfine.mem
        have hw0 : (Im.workspace size l[i]).2 = 0 := by unfold Im.workspace; rw [if_pos ⟨hmem, hok⟩, if_pos hfit]
        have hrun : Im.runC size l i = ⟨0, (Im.workspace size l[i]).1, -2147483136 + l[i].entry, []⟩ := by unfold Im.runC; rw [Im.obj_get hil]
        have hload : Im.loadC l i = ⟨1, -2147483136, 0, l[i].code⟩ := by unfold Im.loadC; rw [Im.obj_get hil]
        have hent : 0 ≤ l[i].entry ∧ l[i].entry ≤ 32768 := by unfold Im.okObj at hok; omega
        obtain ⟨m, hm1, hm2, hm3, hm4⟩ := Im.cmds_shape t size l i
        rw [hrun] at hm2
        rw [hload] at hm4
        have hLl := Im.cmds_len hfine (n := (i : Int)) (by omega) (by omega)
        generalize (Im.workspace size l[i]).1 = wsp at *
        generalize (Im.workspace size l[i]).2 = wer at *
        subst hw0
        unfold dObj at hws
        have heq := bytes_equal_fn glT l[i].code l[i].code
        rw [decide_eq_true rfl] at heq
        generalize Im.cmds t size l i = L at *
        generalize l[i] = o at *
        ((repeat' (first | (refine z_box (d := 3) 3 ?_) | (refine z_alloc (d := 11) 11 ?_) | (refine z_alloc (d := 16) 16 ?_) | (refine yyp ?_; (try refine s_bu ?_ ?_ <;> (intro hb; try simp only [decide_eq_true_eq, decide_eq_false_iff_not] at hb))) | (refine yy ?_) | (refine yy2 ?_ ?_ <;> (intro hcmp; try simp only [cmp] at hcmp)) | (refine y_call (hc := (hws)) ?_) | (refine z_nil [0, 1, 2, 3, 6, 7, 8, 9, 10, 11, 12, 13, 14, 15, 16, 18, 28, 49, 50, 51, 52, 53, 66, 67, 68, 69, 73, 103, 104, 120, 121, 133] ?_) | (refine tc_seq fun K hK => ?_) | (apply_assumption -exfalso -symm))); all_goals (try refine unhalt ?_))
        refine y_famx [6, 14, 15, 16, 68, 69, 70, 71, 72, 73, 74, 75, 76, 77, 78, 79, 80, 81, 82, 83, 84, 85, 86, 87, 88, 89, 90, 91, 92, 93, 94, 95, 96, 97, 98, 99, 100, 101, 102, 103, 104, 105, 106, 107, 108, 109, 110, 111, 112, 113, 114, 115, 116, 117, 118, 119, 120, 121, 122, 123, 124, 125, 126, 127, 128, 129, 130, 131] [] (fun y : Nat => [(68, .d (.int .i64 y)), (14, .d (.int .i64 (Im.loads (L.take y) : Nat)))]) (fun _ => []) (fun y => y ≤ L.length) (fun y => L.length - y) 0 (Nat.zero_le _)  fun y hy => ?_
        dsimp only [List.cons_append, List.nil_append] at hy ⊢
        have hle : Im.loads (L.take y) ≤ L.length := Nat.le_trans (List.length_filter_le _ _) (by rw [List.length_take]; omega)
        rcases Nat.lt_or_ge y L.length with hyl | hyl
        · have hst := Im.loads_take L y hyl
          have hc0 : L[y]? = some L[y] := List.getElem?_eq_getElem hyl
          rcases Nat.lt_or_ge y m with hym | hym
          · rcases hm4 y _ hym hc0 with hcy | ⟨hcy1, hcy2⟩
            · have hget3 : (L.map dCmd)[y]? = some (.agg [.int .u8 1, .int .i32 (-2147483136), .int .i32 0, .list 1 (o.code.map dByte)]) := by rw [List.getElem?_map, hc0, hcy]; rfl
              rw [hcy, if_pos rfl] at hst
              ((repeat' (first | (refine z_box (d := 3) 3 ?_) | (refine z_alloc (d := 11) 11 ?_) | (refine z_alloc (d := 16) 16 ?_) | (refine yyp ?_; (try refine s_bu ?_ ?_ <;> (intro hb; try simp only [decide_eq_true_eq, decide_eq_false_iff_not] at hb))) | (refine yy ?_) | (refine yy2 ?_ ?_ <;> (intro hcmp; try simp only [cmp] at hcmp)) | (refine y_call (hc := (heq)) ?_; (try refine s_bu ?_ ?_ <;> (intro hb; try simp only [decide_eq_true_eq, decide_eq_false_iff_not] at hb))) | (refine z_nil [0, 1, 2, 3, 6, 7, 8, 9, 10, 11, 12, 13, 14, 15, 16, 18, 28, 49, 50, 51, 52, 53, 66, 67, 68, 69, 73, 103, 104, 120, 121, 133] ?_) | (refine tc_seq fun K hK => ?_) | (apply_assumption -exfalso -symm))); all_goals (try refine unhalt ?_))
              refine ⟨y + 1, by omega, by omega, ?_⟩
              rw [hst]
              exact y_wk
            · have hget3 : (L.map dCmd)[y]? = some (.agg [.int .u8 2, .int .i32 L[y].ad, .int .i32 L[y].to, .list 1 (L[y].b.map dByte)]) := by rw [List.getElem?_map, hc0]; show some (dCmd _) = _; unfold dCmd; rw [hcy1]; rfl
              rw [hcy1, if_neg (by decide)] at hst
              generalize L[y].b = bs at *
              ((repeat' (first | (refine z_box (d := 3) 3 ?_) | (refine z_alloc (d := 11) 11 ?_) | (refine z_alloc (d := 16) 16 ?_) | (refine yyp ?_; (try refine s_bu ?_ ?_ <;> (intro hb; try simp only [decide_eq_true_eq, decide_eq_false_iff_not] at hb))) | (refine yy ?_) | (refine yy2 ?_ ?_ <;> (intro hcmp; try simp only [cmp] at hcmp)) | (refine z_nil [0, 1, 2, 3, 6, 7, 8, 9, 10, 11, 12, 13, 14, 15, 16, 18, 28, 49, 50, 51, 52, 53, 66, 67, 68, 69, 73, 103, 104, 120, 121, 133] ?_) | (refine tc_seq fun K hK => ?_) | (apply_assumption -exfalso -symm))); all_goals (try refine unhalt ?_))
              refine ⟨y + 1, by omega, by omega, ?_⟩
              rw [hst]
              exact y_wk
          · have hym' : y = m := by omega
            subst hym'
            have hcy : L[y] = ⟨0, wsp, -2147483136 + o.entry, []⟩ := by rw [hc0] at hm2; exact Option.some.inj hm2
            have hget3 : (L.map dCmd)[y]? = some (.agg [.int .u8 0, .int .i32 wsp, .int .i32 (-2147483136 + o.entry), .list 1 []]) := by rw [List.getElem?_map, hc0, hcy]; rfl
            rw [hcy, if_neg (by simp)] at hst
            ((repeat' (first | (refine z_box (d := 3) 3 ?_) | (refine z_alloc (d := 11) 11 ?_) | (refine z_alloc (d := 16) 16 ?_) | (refine yyp ?_; (try refine s_bu ?_ ?_ <;> (intro hb; try simp only [decide_eq_true_eq, decide_eq_false_iff_not] at hb))) | (refine yy ?_) | (refine yy2 ?_ ?_ <;> (intro hcmp; try simp only [cmp] at hcmp)) | (refine z_nil [0, 1, 2, 3, 6, 7, 8, 9, 10, 11, 12, 13, 14, 15, 16, 18, 28, 49, 50, 51, 52, 53, 66, 67, 68, 69, 73, 103, 104, 120, 121, 133] ?_) | (refine tc_seq fun K hK => ?_) | (apply_assumption -exfalso -symm))); all_goals (try refine unhalt ?_))
            refine ⟨y + 1, by omega, by omega, ?_⟩
            rw [hst]
            exact y_wk
        · have hye : y = L.length := by omega
          subst hye
          rw [List.take_length, hm3]
          ((repeat' (first | (refine z_box (d := 3) 3 ?_) | (refine z_alloc (d := 11) 11 ?_) | (refine z_alloc (d := 16) 16 ?_) | (refine yyp ?_; (try refine s_bu ?_ ?_ <;> (intro hb; try simp only [decide_eq_true_eq, decide_eq_false_iff_not] at hb))) | (refine yy ?_) | (refine yy2 ?_ ?_ <;> (intro hcmp; try simp only [cmp] at hcmp)) | (refine z_nil [0, 1, 2, 3, 6, 7, 8, 9, 10, 11, 12, 13, 14, 15, 16, 18, 28, 49, 50, 51, 52, 53, 66, 67, 68, 69, 73, 103, 104, 120, 121, 133] ?_) | (refine tc_seq fun K hK => ?_) | (apply_assumption -exfalso -symm))); all_goals (try refine unhalt ?_))
          exact ⟨i + 1, by omega, by omega, y_wk⟩
      · ((repeat' (first | (refine z_box (d := 3) 3 ?_) | (refine z_alloc (d := 11) 11 ?_) | (refine z_alloc (d := 16) 16 ?_) | (refine yyp ?_; (try refine s_bu ?_ ?_ <;> (intro hb; try simp only [decide_eq_true_eq, decide_eq_false_iff_not] at hb))) | (refine yy ?_) | (refine yy2 ?_ ?_ <;> (intro hcmp; try simp only [cmp] at hcmp)) | (refine y_call (hc := (awake_fn)) ?_; (try refine s_bu ?_ ?_ <;> (intro hb; try simp only [decide_eq_true_eq, decide_eq_false_iff_not] at hb))) | (refine z_nil [0, 1, 2, 3, 6, 7, 8, 9, 10, 11, 12, 13, 14, 15, 16, 18, 28, 49, 50, 51, 52, 53, 66, 67, 68, 69, 73, 103, 104, 120, 121, 133] ?_) | (refine tc_seq fun K hK => ?_) | (apply_assumption -exfalso -symm))); all_goals (try refine unhalt ?_))
        (refine tc_ret (y_ret ?_))
        rfl
    · have hmke : Im.makeE t size l = ([], Im.check t 0 size l) := by unfold Im.makeE; rw [if_neg hc]
      rw [hmke] at hmk
      unfold dTopo at hmk ⊢
      (refine y_enter Tryd.func5 Tryd.ntmps5 Tryd.results5 fun w M => ?_; simp only [slots, List.map_cons, List.map_nil, List.zipIdx_cons, List.zipIdx_nil, Nat.reduceAdd])
      ((repeat' (first | (refine z_box (d := 3) 3 ?_) | (refine z_alloc (d := 11) 11 ?_) | (refine z_alloc (d := 16) 16 ?_) | (refine yyp ?_; (try refine s_bu ?_ ?_ <;> (intro hb; try simp only [decide_eq_true_eq, decide_eq_false_iff_not] at hb))) | (refine yy ?_) | (refine yy2 ?_ ?_ <;> (intro hcmp; try simp only [cmp] at hcmp)) | (refine y_call (hc := (hgr)) ?_; (try refine s_bu ?_ ?_ <;> (intro hb; try simp only [decide_eq_true_eq, decide_eq_false_iff_not] at hb))) | (refine y_call (hc := (awake_fn)) ?_; (try refine s_bu ?_ ?_ <;> (intro hb; try simp only [decide_eq_true_eq, decide_eq_false_iff_not] at hb))) | (refine y_call (hc := (hmk)) ?_) | (refine z_nil [0, 1, 2, 3, 6, 7, 8, 9, 10, 11, 12, 13, 14, 15, 16, 18, 28, 49, 50, 51, 52, 53, 66, 67, 68, 69, 73, 103, 104, 120, 121, 133] ?_) | (refine tc_seq fun K hK => ?_) | (apply_assumption -exfalso -symm))); all_goals (try refine unhalt ?_))
      all_goals first | (exfalso; omega) | (exfalso; simp at hcmp; done) | ((refine tc_ret (y_ret ?_)); rfl)
end Go.Proofs.YtcblefmjacofgaaDoor
