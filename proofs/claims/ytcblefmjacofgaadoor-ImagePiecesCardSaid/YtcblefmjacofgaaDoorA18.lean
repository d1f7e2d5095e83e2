/- Parts: G3, G4, G5. -/
import Derived.Test.YtcblefmjacofgaaDoorA5
set_option linter.all false
set_option linter.unusedVariables false
set_option linter.unusedSimpArgs false
namespace Go.Proofs.YtcblefmjacofgaaDoor.I
theorem num4_word (v : Int) (r : List UInt8) : (num4 (word v ++ r) : Int) = v % 4294967296 := by
  unfold num4 word
  simp only [List.cons_append, List.nil_append, List.getD_cons_zero, List.getD_cons_succ, UInt8.toNat_ofNat']
  omega
theorem i32_word {v : Int} (h0 : -2147483648 ≤ v) (h1 : v ≤ 2147483647) (r : List UInt8) : i32 (num4 (word v ++ r)) = v := by
  unfold i32
  rw [num4_word]
  omega
theorem drop_word (v : Int) (r : List UInt8) : (word v ++ r).drop 4 = r := by simp [word]
theorem take_word (v : Int) (r : List UInt8) : (word v ++ r).take 4 = word v := by simp [word]
def Prog (l : List Cmd) : Prop := (∀ c ∈ l, mayC c = true ∧ c.Wf) ∧ ∃ i r, l = i ++ [r] ∧ r.k = 0 ∧ ∀ c ∈ i, c.k = 1 ∨ c.k = 2
theorem getC_back : ∀ (i : List Cmd) (r : Cmd) (more : List UInt8) (f : Nat), (∀ c ∈ i ++ [r], mayC c = true ∧ c.Wf) → r.k = 0 → (∀ c ∈ i, c.k = 1 ∨ c.k = 2) → ((i ++ [r]).flatMap oneC ++ more).length < f →
    getC f ((i ++ [r]).flatMap oneC ++ more) = some (i ++ [r], more)
  | [], r, more, f, hall, hr, _, hf => by
    obtain ⟨hm, hw⟩ := hall r (by simp)
    cases f with
    | zero => omega
    | succ f =>
      obtain ⟨k, ad, tv, b⟩ := r
      dsimp only at hr
      subst hr
      have hb : b = [] := by
        have h' : (decide (ad % 4 = 0) && decide (b.length = 0)) = true := hm
        simp only [Bool.and_eq_true, decide_eq_true_eq] at h'
        exact List.eq_nil_of_length_eq_zero h'.2
      subst hb
      have h1 := hw.a0
      have h2 := hw.a1
      have h3 := hw.t0
      have h4 := hw.t1
      dsimp only at h1 h2 h3 h4
      simp only [List.nil_append, List.flatMap_cons, List.flatMap_nil, List.append_nil, oneC, if_pos, List.append_assoc]
      unfold getC
      have e0 : num4 (word ((0 : Nat) : Int) ++ (word ad ++ (word tv ++ more))) = 0 := by
        have := num4_word ((0 : Nat) : Int) (word ad ++ (word tv ++ more))
        omega
      have d4 : (word ((0 : Nat) : Int) ++ (word ad ++ (word tv ++ more))).drop 4 = word ad ++ (word tv ++ more) := drop_word _ _
      have d8 : (word ((0 : Nat) : Int) ++ (word ad ++ (word tv ++ more))).drop 8 = word tv ++ more := by
        rw [show (8 : Nat) = 4 + 4 from rfl, ← List.drop_drop, d4, drop_word]
      have d12 : (word ((0 : Nat) : Int) ++ (word ad ++ (word tv ++ more))).drop 12 = more := by
        rw [show (12 : Nat) = 8 + 4 from rfl, ← List.drop_drop, d8, drop_word]
      rw [if_neg (by simp only [List.length_append, word_length]; omega), e0, if_neg (by omega), if_pos rfl, d4, d8, d12, i32_word h1 h2, i32_word h3 h4, if_pos hm]
  | c :: i, r, more, f, hall, hr, hk, hf => by
    obtain ⟨hm, hw⟩ := hall c (by simp)
    have hck := hk c (by simp)
    cases f with
    | zero => omega
    | succ f =>
      have ih := getC_back i r more f (fun x hx => hall x (List.mem_cons_of_mem _ hx)) hr (fun x hx => hk x (List.mem_cons_of_mem _ hx)) (by
        rw [List.cons_append, List.flatMap_cons, List.append_assoc, List.length_append, oneC_length] at hf
        omega)
      obtain ⟨k, ad, tv, b⟩ := c
      have h1 := hw.a0
      have h2 := hw.a1
      dsimp only at hck h1 h2
      have htv : tv = 0 := by
        unfold mayC at hm
        dsimp only at hm
        rcases hck with rfl | rfl
        · simp at hm; exact hm.1
        · simp at hm; exact hm.1.2
      subst htv
      have hbl : b.length ≤ 65536 := by
        unfold mayC at hm
        dsimp only at hm
        rcases hck with rfl | rfl
        · simp at hm; exact hm
        · simp at hm; omega
      have hk0 : ¬ k = 0 := by omega
      rw [List.cons_append, List.flatMap_cons, List.append_assoc]
      generalize hR : (i ++ [r]).flatMap oneC ++ more = R at ih ⊢
      simp only [oneC, if_neg hk0, List.append_assoc]
      unfold getC
      have e0 : num4 (word (k : Int) ++ (word ad ++ (word (b.length : Nat) ++ (b ++ R)))) = k := by
        have := num4_word (k : Int) (word ad ++ (word (b.length : Nat) ++ (b ++ R)))
        omega
      have d4 : (word (k : Int) ++ (word ad ++ (word (b.length : Nat) ++ (b ++ R)))).drop 4 = word ad ++ (word (b.length : Nat) ++ (b ++ R)) := drop_word _ _
      have d8 : (word (k : Int) ++ (word ad ++ (word (b.length : Nat) ++ (b ++ R)))).drop 8 = word (b.length : Nat) ++ (b ++ R) := by
        rw [show (8 : Nat) = 4 + 4 from rfl, ← List.drop_drop, d4, drop_word]
      have d12 : (word (k : Int) ++ (word ad ++ (word (b.length : Nat) ++ (b ++ R)))).drop 12 = b ++ R := by
        rw [show (12 : Nat) = 8 + 4 from rfl, ← List.drop_drop, d8, drop_word]
      have e8 : num4 (word (b.length : Nat) ++ (b ++ R)) = b.length := by
        have := num4_word ((b.length : Nat) : Int) (b ++ R)
        omega
      rw [if_neg (by simp only [List.length_append, word_length]; omega), e0, if_neg (by omega), if_neg hk0, d4, d8, d12, e8, i32_word h1 h2,
        if_neg (by simp only [List.length_append, word_length]; omega), List.take_left' rfl, if_pos hm, List.drop_left' rfl, ih]
theorem getCs_back {l : List Cmd} (h : Prog l) (more : List UInt8) : getCs (l.flatMap oneC ++ more) = some (l, more) := by
  obtain ⟨h1, i, r, rfl, h2, h3⟩ := h
  exact getC_back i r more _ h1 h2 h3 (Nat.lt_succ_self _)
theorem getC_prog : ∀ (f : Nat) (b : List UInt8) (l : List Cmd) (r : List UInt8), getC f b = some (l, r) → ∃ i x, l = i ++ [x] ∧ x.k = 0 ∧ ∀ c ∈ i, c.k = 1 ∨ c.k = 2
  | 0, _, _, _, h => by cases h
  | f + 1, b, l, r, h => by
    unfold getC at h
    split at h
    · cases h
    split at h
    · cases h
    rename_i h2
    split at h
    · split at h
      · cases h
        exact ⟨[], _, rfl, rfl, by simp⟩
      · cases h
    rename_i h0
    split at h
    · cases h
    split at h
    · split at h
      · rename_i l' r' hg
        cases h
        obtain ⟨i, x, rfl, h3, h4⟩ := getC_prog f _ _ _ hg
        refine ⟨_ :: i, x, rfl, h3, fun c hc => ?_⟩
        rcases List.mem_cons.1 hc with rfl | hc
        · dsimp only; omega
        · exact h4 c hc
      · cases h
    · cases h
theorem getCs_prog {b : List UInt8} {l : List Cmd} {r : List UInt8} (h : getCs b = some (l, r)) : Prog l := ⟨(getCs_enc h).2, getC_prog _ _ _ _ h⟩
end Go.Proofs.YtcblefmjacofgaaDoor.I
namespace Go.Proofs.YtcblefmjacofgaaDoor.Im
theorem pieces_join (b : List UInt8) : (pieces b).flatten = b := by
  obtain ⟨n, hn⟩ : ∃ n, b.length = n := ⟨_, rfl⟩
  induction n using Nat.strongRecOn generalizing b with
  | _ n ih =>
    rcases Nat.eq_zero_or_pos b.length with h | h
    · rw [pieces_nil h, List.eq_nil_of_length_eq_zero h]; rfl
    · rw [pieces_step h, List.flatten_cons, ih (b.drop 64).length (by rw [List.length_drop]; omega) _ rfl, List.take_append_drop]
theorem pieces_mem {b p : List UInt8} (hp : p ∈ pieces b) : 1 ≤ p.length ∧ p.length ≤ 64 := by
  obtain ⟨n, hn⟩ : ∃ n, b.length = n := ⟨_, rfl⟩
  induction n using Nat.strongRecOn generalizing b with
  | _ n ih =>
    rcases Nat.eq_zero_or_pos b.length with h | h
    · rw [pieces_nil h] at hp; cases hp
    · rw [pieces_step h] at hp
      rcases List.mem_cons.1 hp with rfl | hp
      · rw [List.length_take]; omega
      · exact ih (b.drop 64).length (by rw [List.length_drop]; omega) hp rfl
theorem fwd_size (k : Nat) (b : List UInt8) : 16 * I.sizeC (fwd k b) ≤ 19 * b.length + 192 := by
  obtain ⟨n, hn⟩ : ∃ n, b.length = n := ⟨_, rfl⟩
  induction n using Nat.strongRecOn generalizing b with
  | _ n ih =>
    rcases Nat.eq_zero_or_pos b.length with h | h
    · unfold fwd; rw [pieces_nil h]; simp [I.sizeC]
    · rw [fwd_step h]
      have e : ∀ (c : I.Cmd) (l : List I.Cmd), I.sizeC (c :: l) = 12 + c.b.length + I.sizeC l := fun c l => by simp [I.sizeC]
      rw [e]
      rcases Nat.lt_or_ge b.length 65 with h64 | h64
      · have hd : (b.drop 64).length = 0 := by rw [List.length_drop]; omega
        have : fwd k (b.drop 64) = [] := by unfold fwd; rw [pieces_nil hd]; rfl
        rw [this]
        dsimp only
        rw [List.length_take]
        simp [I.sizeC]
        omega
      · have := ih (b.drop 64).length (by rw [List.length_drop]; omega) _ rfl
        rw [List.length_drop] at this
        dsimp only
        rw [List.length_take]
        omega
theorem fwd_mem {k : Nat} {b : List UInt8} {c : I.Cmd} (h : c ∈ fwd k b) : c.k = 2 ∧ c.ad = -2147483648 + 4 * (k : Int) ∧ c.to = 0 ∧ 1 ≤ c.b.length ∧ c.b.length ≤ 64 := by
  unfold fwd at h
  obtain ⟨p, hp, rfl⟩ := List.mem_map.1 h
  exact ⟨rfl, rfl, rfl, pieces_mem hp⟩
theorem fwd_may {k : Nat} (hk : k < 4) {b : List UInt8} {c : I.Cmd} (h : c ∈ fwd k b) : I.mayC c = true := by
  obtain ⟨h1, h2, h3, h4, h5⟩ := fwd_mem h
  unfold I.mayC
  rw [h1, h2, h3]
  simp
  omega
theorem got_app (l m : List I.Cmd) (k : Nat) : got (l ++ m) k = got l k ++ got m k := by
  unfold got
  rw [List.filter_append, List.flatMap_append]
theorem got_fwd (j : Nat) (b : List UInt8) (k : Nat) : got (fwd j b) k = if j = k then b else [] := by
  unfold got
  split
  · rename_i h
    subst h
    have : (fwd j b).filter (fun c => c.k == 2 && lnk c == (j : Int)) = fwd j b := List.filter_eq_self.2 fun c hc => by
      obtain ⟨h1, h2, _⟩ := fwd_mem hc
      unfold lnk
      rw [h1, h2]
      simp
      omega
    rw [this]
    unfold fwd
    rw [List.flatMap_map]
    have := pieces_join b
    rw [← List.flatMap_id] at this
    exact this
  · rename_i h
    have : (fwd j b).filter (fun c => c.k == 2 && lnk c == (k : Int)) = [] := List.filter_eq_nil_iff.2 fun c hc => by
      obtain ⟨h1, h2, _⟩ := fwd_mem hc
      unfold lnk
      rw [h1, h2]
      simp
      omega
    rw [this]
    rfl
theorem got_other {l : List I.Cmd} (h : ∀ c ∈ l, c.k ≠ 2) (k : Nat) : got l k = [] := by
  unfold got
  rw [List.filter_eq_nil_iff.2 fun c hc => by have := h c hc; simp [this]]
  rfl
theorem got_fwds (g : Nat → List UInt8) : ∀ (ks : List Nat) (k : Nat), ks.Nodup → got (ks.flatMap fun j => fwd j (g j)) k = if k ∈ ks then g k else []
  | [], k, _ => by simp [got]
  | j :: ks, k, hn => by
    obtain ⟨h1, h2⟩ := List.nodup_cons.1 hn
    rw [List.flatMap_cons, got_app, got_fwd, got_fwds g ks k h2]
    by_cases h : j = k
    · subst h
      simp [h1]
    · have h' : ¬ k = j := fun e => h e.symm
      simp [h, h']
end Go.Proofs.YtcblefmjacofgaaDoor.Im
namespace Go.Proofs.YtcblefmjacofgaaDoor.To
inductive Desc (t : Topo) (n : Int) : Int → Prop
  | self : Desc t n n
  | step {m : Int} {k : Nat} (h : Desc t n m) (hk : k ∈ kids t m) : Desc t n (Im.child t m k)
theorem Desc.inv {t : Topo} {n x : Int} (h : Desc t n x) : x = n ∨ ∃ m k, Desc t n m ∧ k ∈ kids t m ∧ x = Im.child t m k := by
  cases h with
  | self => exact .inl rfl
  | step h hk => exact .inr ⟨_, _, h, hk, rfl⟩
theorem Desc.trans {t : Topo} {a b c : Int} (h : Desc t a b) (k : Desc t b c) : Desc t a c := by
  induction k with
  | self => exact h
  | step _ hk ih => exact ih.step hk
theorem kid_inj {t : Topo} (h : May t) {n n' : Int} {k k' : Nat} (hk : k ∈ kids t n) (hk' : k' ∈ kids t n') (e : Im.child t n k = Im.child t n' k') : n = n' ∧ k = k' := by
  have hk := (List.mem_filter.1 hk).2
  have hk' := (List.mem_filter.1 hk').2
  unfold kid at hk hk'
  simp only [Bool.and_eq_true, bne_iff_ne, ne_eq, decide_eq_true_eq, Option.isSome_iff_exists] at hk hk'
  obtain ⟨⟨q, hq⟩, _, h2⟩ := hk
  obtain ⟨⟨q', hq'⟩, _, h2'⟩ := hk'
  unfold Im.child at e
  rw [hq] at h2 e
  rw [hq'] at h2' e
  simp only [Option.getD_some] at h2 h2' e
  have : q = q' := by rw [← h2, ← h2', e]
  subst this
  have hnd : (t.wires.flatMap fun w => [w.a, w.b]).Nodup := (List.nodup_cons.1 h.2.2.2.2.1).2
  have := peer_inj hnd hq hq'
  simp only [Port.mk.injEq] at this
  exact ⟨this.1, by omega⟩
theorem Desc.at {t : Topo} (h : May t) {i : Nat} (hi : i < (order t).length) {x : Int} (hd : Desc t (order t)[i].node x) : ∃ j, i ≤ j ∧ ∃ hj : j < (order t).length, (order t)[j].node = x := by
  generalize hn : (order t)[i].node = n at hd
  induction hd with
  | self => exact ⟨i, Nat.le_refl _, hi, hn⟩
  | step _ hk ih =>
    obtain ⟨j, h1, hj, e⟩ := ih
    subst e
    obtain ⟨j', h2, hj', e'⟩ := Im.child_at h hj hk
    exact ⟨j', by omega, hj', e'⟩
theorem place_inj {t : Topo} (h : May t) {i j : Nat} (hi : i < (order t).length) (hj : j < (order t).length) (e : (order t)[i].node = (order t)[j].node) : i = j := by
  have hg := order_good h.sound
  have h5 : ((order t).map (·.node))[i]'(by simpa using hi) = ((order t).map (·.node))[j]'(by simpa using hj) := by simp [e]
  exact (List.getElem_inj hg.apart).1 h5
theorem not_above {t : Topo} (h : May t) {i k : Nat} (hi : i < (order t).length) (hk : k ∈ kids t (order t)[i].node) : ¬ Desc t (Im.child t (order t)[i].node k) (order t)[i].node := fun hd => by
  obtain ⟨j, hij, hj, e⟩ := Im.child_at h hi hk
  rw [← e] at hd
  obtain ⟨j', h1, hj', e'⟩ := hd.at h hj
  have := place_inj h hj' hi e'
  omega
theorem apart {t : Topo} (h : May t) {i k k' : Nat} (hi : i < (order t).length) (hk : k ∈ kids t (order t)[i].node) (hk' : k' ∈ kids t (order t)[i].node) (hne : k ≠ k') {x : Int}
    (hd : Desc t (Im.child t (order t)[i].node k) x) (hd' : Desc t (Im.child t (order t)[i].node k') x) : False := by
  have hna := not_above h hi hk
  have hna' := not_above h hi hk'
  generalize (order t)[i].node = n at *
  generalize hc : Im.child t n k = c at hd hna
  induction hd with
  | self =>
    rcases hd'.inv with e | ⟨m, k2, h1, h2, e⟩
    · exact hne (kid_inj h hk hk' (hc.trans e)).2
    · obtain ⟨rfl, _⟩ := kid_inj h hk h2 (hc.trans e)
      exact hna' h1
  | step hd1 hk1 ih =>
    rcases hd'.inv with e | ⟨m, k2, h1, h2, e⟩
    · obtain ⟨rfl, _⟩ := kid_inj h hk1 hk' e
      exact hna hd1
    · obtain ⟨rfl, _⟩ := kid_inj h hk1 h2 e
      exact ih h1
theorem all_behind {t : Topo} (h : May t) : ∀ (j : Nat) (hj : j < (order t).length), Desc t t.host.node (order t)[j].node := by
  intro j
  induction j using Nat.strongRecOn with
  | _ j ih =>
    intro hj
    obtain ⟨m, ho⟩ := order_zero t
    have h0 : 0 < (order t).length := by rw [ho]; simp
    have e0 : (order t)[0].node = t.host.node := by simp [ho]
    rcases Nat.eq_zero_or_pos j with rfl | hp
    · rw [e0]; exact .self
    · obtain ⟨i, hi, k, hk, hq⟩ := order_par t j hj hp
      have hil : i < (order t).length := by omega
      have hkid : k ∈ kids t (order t)[i].node := List.mem_filter.2 ⟨by simpa using hk, by
        unfold kid
        simp only [Bool.and_eq_true, bne_iff_ne, ne_eq, decide_eq_true_eq, Option.isSome_iff_exists]
        refine ⟨⟨_, hq⟩, ?_, ?_⟩
        · rw [hq]
          simp only [Option.getD_some]
          intro e
          have := place_inj h hj h0 (e.trans e0.symm)
          omega
        · rw [hq]
          simp only [Option.getD_some]
          have hr := (order_good h.sound).range _ (List.getElem_mem hj)
          obtain ⟨u1, u2⟩ := up_mem h hr.1 hr.2
          obtain ⟨j', hj', e'⟩ := List.mem_iff_getElem.1 u1
          have := place_inj h hj' hj (by rw [e', u2])
          subst this
          exact e'.symm⟩
      have := (ih i hi hil).step hkid
      have e : Im.child t (order t)[i].node k = (order t)[j].node := by unfold Im.child; rw [hq]; rfl
      rw [e] at this
      exact this
theorem kids_nodup (t : Topo) (n : Int) : (kids t n).Nodup := List.Pairwise.filter _ List.nodup_range
def sub (t : Topo) : Nat → Int → List Int
  | 0, _ => []
  | f + 1, n => n :: (kids t n).flatMap fun k => sub t f (Im.child t n k)
theorem sub_desc {t : Topo} : ∀ (f : Nat) (n x : Int), x ∈ sub t f n → Desc t n x
  | 0, _, _, h => by cases h
  | f + 1, n, x, h => by
    rcases List.mem_cons.1 h with rfl | h
    · exact .self
    · obtain ⟨k, hk, hx⟩ := List.mem_flatMap.1 h
      exact (Desc.self.step hk).trans (sub_desc f _ _ hx)
theorem sub_nodup {t : Topo} (h : May t) : ∀ (f i : Nat) (hi : i < (order t).length), (sub t f (order t)[i].node).Nodup
  | 0, _, _ => List.nodup_nil
  | f + 1, i, hi => by
    unfold sub
    refine List.nodup_cons.2 ⟨fun hm => ?_, ?_⟩
    · obtain ⟨k, hk, hx⟩ := List.mem_flatMap.1 hm
      exact not_above h hi hk (sub_desc f _ _ hx)
    · have key : ∀ ks : List Nat, ks.Nodup → (∀ k ∈ ks, k ∈ kids t (order t)[i].node) → (ks.flatMap fun k => sub t f (Im.child t (order t)[i].node k)).Nodup := by
        intro ks
        induction ks with
        | nil => intro _ _; exact List.nodup_nil
        | cons k ks ih =>
          intro hn hk
          obtain ⟨h1, h2⟩ := List.nodup_cons.1 hn
          rw [List.flatMap_cons, List.nodup_append]
          refine ⟨?_, ih h2 (fun k' hk' => hk k' (List.mem_cons_of_mem _ hk')), fun a ha b hb e => ?_⟩
          · obtain ⟨j, _, hj, e⟩ := Im.child_at h hi (hk k List.mem_cons_self)
            rw [← e]
            exact sub_nodup h f j hj
          · subst e
            obtain ⟨k', hk', hx⟩ := List.mem_flatMap.1 hb
            exact apart h hi (hk k List.mem_cons_self) (hk k' (List.mem_cons_of_mem _ hk')) (fun e => h1 (e ▸ hk')) (sub_desc f _ _ ha) (sub_desc f _ _ hx)
      exact key _ (kids_nodup t _) (fun _ h => h)
theorem sub_len {t : Topo} (h : May t) (f i : Nat) (hi : i < (order t).length) : (sub t f (order t)[i].node).length ≤ 8 := by
  have := range_len t.nodes.toNat _ (sub_nodup h f i hi) (fun x hx => by
    obtain ⟨j, _, hj, rfl⟩ := (sub_desc f _ _ hx).at h hi
    have := (order_good h.sound).range _ (List.getElem_mem hj)
    unfold inR at this
    omega)
  have := h.sound.n
  omega
end Go.Proofs.YtcblefmjacofgaaDoor.To
namespace Go.Proofs.YtcblefmjacofgaaDoor.Im
def whole (l : List I.Cmd) : List UInt8 := I.bootB ++ l.flatMap I.oneC
theorem recv_inv {t : To.Topo} {f : Nat} {n : Int} {b : List UInt8} {out o : List (List I.Cmd)} (h : recv t (f + 1) n b out = some o) :
    ∃ l, b.take 41 = I.bootB ∧ I.getCs (b.drop 41) = some (l, []) ∧ known (To.kids t n) l = true ∧ recvs (recv t f) t n l (To.kids t n) (out.set n.toNat l) = some o := by
  unfold recv at h
  split at h
  · rename_i h1
    split at h
    · rename_i l hg
      split at h
      · rename_i h3
        exact ⟨l, h1, hg, h3, h⟩
      · cases h
    · cases h
  · cases h
theorem recvs_cons {rec : Int → List UInt8 → List (List I.Cmd) → Option (List (List I.Cmd))} {t : To.Topo} {n : Int} {l : List I.Cmd} {k : Nat} {ks : List Nat} {out o : List (List I.Cmd)} (h : recvs rec t n l (k :: ks) out = some o) :
    ∃ o1, rec (child t n k) (got l k) out = some o1 ∧ recvs rec t n l ks o1 = some o := by
  unfold recvs at h
  split at h
  · rename_i o1 h1
    exact ⟨o1, h1, h⟩
  · cases h
theorem recv_frame {t : To.Topo} (hm : To.May t) : ∀ (f i : Nat) (hi : i < (To.order t).length) (b : List UInt8) (out o : List (List I.Cmd)), recv t f (To.order t)[i].node b out = some o →
    ∀ m : Int, 0 ≤ m → ¬ To.Desc t (To.order t)[i].node m → o[m.toNat]? = out[m.toNat]?
  | 0, _, _, _, _, _, h => by cases h
  | f + 1, i, hi, b, out, o, h => fun m hm0 hnd => by
    obtain ⟨l, _, _, _, h4⟩ := recv_inv h
    have hr := (To.order_good hm.sound).range _ (List.getElem_mem hi)
    have hne : (To.order t)[i].node.toNat ≠ m.toNat := fun e => hnd (by
      have : (To.order t)[i].node = m := by have := hr.1; omega
      rw [this]; exact .self)
    have key : ∀ (ks : List Nat), (∀ k ∈ ks, k ∈ To.kids t (To.order t)[i].node) → ∀ (a o : List (List I.Cmd)), recvs (recv t f) t (To.order t)[i].node l ks a = some o → o[m.toNat]? = a[m.toNat]? := by
      intro ks
      induction ks with
      | nil => intro _ a o h; unfold recvs at h; cases h; rfl
      | cons k ks ih =>
        intro hk a o h
        obtain ⟨o1, h5, h6⟩ := recvs_cons h
        rw [ih (fun k' h' => hk k' (List.mem_cons_of_mem _ h')) _ _ h6]
        obtain ⟨j, _, hj, e⟩ := Im.child_at hm hi (hk k List.mem_cons_self)
        rw [← e] at h5
        exact recv_frame hm f j hj _ _ _ h5 m hm0 fun hd => hnd ((To.Desc.self.step (hk k List.mem_cons_self)).trans (e ▸ hd))
    rw [key _ (fun _ h => h) _ _ h4, List.getElem?_set_ne hne]
theorem recvs_len {t : To.Topo} {f : Nat} {n : Int} {l : List I.Cmd} (hr : ∀ n b (a o : List (List I.Cmd)), recv t f n b a = some o → o.length = a.length) : ∀ (ks : List Nat) (a o : List (List I.Cmd)), recvs (recv t f) t n l ks a = some o → o.length = a.length
  | [], a, o, h => by unfold recvs at h; cases h; rfl
  | k :: ks, a, o, h => by
    obtain ⟨o1, h5, h6⟩ := recvs_cons h
    rw [recvs_len hr ks _ _ h6, hr _ _ _ _ h5]
theorem recv_length {t : To.Topo} : ∀ (f : Nat) (n : Int) (b : List UInt8) (a o : List (List I.Cmd)), recv t f n b a = some o → o.length = a.length
  | 0, _, _, _, _, h => by cases h
  | f + 1, n, b, a, o, h => by
    obtain ⟨l, _, _, _, h4⟩ := recv_inv h
    rw [recvs_len (fun n b a o => recv_length f n b a o) _ _ _ h4, List.length_set]
structure Took (t : To.Topo) (o : List (List I.Cmd)) (m : Int) : Prop where
  prog : ∃ l, o[m.toNat]? = some l ∧ I.Prog l ∧ known (To.kids t m) l = true ∧ ∀ k ∈ To.kids t m, ∃ l', o[(child t m k).toNat]? = some l' ∧ got l k = whole l'
theorem recv_took {t : To.Topo} (hm : To.May t) : ∀ (f i : Nat) (hi : i < (To.order t).length) (b : List UInt8) (out o : List (List I.Cmd)), recv t f (To.order t)[i].node b out = some o → (out.length : Int) = t.nodes →
    (∃ l, o[(To.order t)[i].node.toNat]? = some l ∧ b = whole l) ∧ ∀ m, To.Desc t (To.order t)[i].node m → Took t o m
  | 0, _, _, _, _, _, h, _ => by cases h
  | f + 1, i, hi, b, out, o, h, hout => by
    obtain ⟨l, h1, h2, h3, h4⟩ := recv_inv h
    have hr := (To.order_good hm.sound).range _ (List.getElem_mem hi)
    obtain ⟨r0, r1⟩ := hr
    have henc := (I.getCs_enc h2).1
    have hb : b = whole l := by
      unfold whole
      rw [List.append_nil] at henc
      rw [← henc, ← h1, List.take_append_drop]
    have hprog := I.getCs_prog h2
    -- the children, one after the other
    have key : ∀ (ks : List Nat), ks.Nodup → (∀ k ∈ ks, k ∈ To.kids t (To.order t)[i].node) → ∀ (a o : List (List I.Cmd)), (a.length : Int) = t.nodes → recvs (recv t f) t (To.order t)[i].node l ks a = some o →
        (∀ m : Int, 0 ≤ m → (∀ k ∈ ks, ¬ To.Desc t (child t (To.order t)[i].node k) m) → o[m.toNat]? = a[m.toNat]?) ∧
        ∀ k ∈ ks, (∃ l', o[(child t (To.order t)[i].node k).toNat]? = some l' ∧ got l k = whole l') ∧ ∀ m, To.Desc t (child t (To.order t)[i].node k) m → Took t o m := by
      intro ks
      induction ks with
      | nil => intro _ _ a o _ h; unfold recvs at h; cases h; exact ⟨fun _ _ _ => rfl, fun k hk => by cases hk⟩
      | cons k ks ih =>
        intro hn hk a o ha h
        obtain ⟨n1, n2⟩ := List.nodup_cons.1 hn
        obtain ⟨o1, h5, h6⟩ := recvs_cons h
        have ho1 := recv_length _ _ _ _ _ h5
        obtain ⟨q1, q2⟩ := ih n2 (fun k' h' => hk k' (List.mem_cons_of_mem _ h')) _ _ (by rw [ho1]; exact ha) h6
        have hkk := hk k List.mem_cons_self
        obtain ⟨j, _, hj, e⟩ := Im.child_at hm hi hkk
        rw [← e] at h5
        obtain ⟨w1, w2⟩ := recv_took hm f j hj _ _ _ h5 ha
        have hfr := recv_frame hm f j hj _ _ _ h5
        rw [e] at w1 w2 hfr
        -- what is behind the first child is not behind the others
        have keep : ∀ m, To.Desc t (child t (To.order t)[i].node k) m → o[m.toNat]? = o1[m.toNat]? := fun m hd => by
          have hm0 : 0 ≤ m := by
            rw [← e] at hd
            obtain ⟨j', _, hj', rfl⟩ := hd.at hm hj
            exact ((To.order_good hm.sound).range _ (List.getElem_mem hj')).1
          exact q1 m hm0 fun k' hk' hd' => To.apart hm hi hkk (hk k' (List.mem_cons_of_mem _ hk')) (fun e => n1 (e ▸ hk')) hd hd'
        refine ⟨fun m hm0 hnd => ?_, fun k' hk' => ?_⟩
        · rw [q1 m hm0 (fun k' h' => hnd k' (List.mem_cons_of_mem _ h')), hfr m hm0 (hnd k List.mem_cons_self)]
        · rcases List.mem_cons.1 hk' with rfl | hk'
          · refine ⟨?_, fun m hd => ?_⟩
            · obtain ⟨l', u1, u2⟩ := w1
              exact ⟨l', by rw [keep _ .self]; exact u1, u2⟩
            · obtain ⟨l1, u1, u2, u3, u4⟩ := (w2 m hd).prog
              refine ⟨⟨l1, by rw [keep _ hd]; exact u1, u2, u3, fun k2 hk2 => ?_⟩⟩
              obtain ⟨l', v1, v2⟩ := u4 k2 hk2
              exact ⟨l', by rw [keep _ (hd.step hk2)]; exact v1, v2⟩
          · exact q2 k' hk'
    obtain ⟨q1, q2⟩ := key _ (To.kids_nodup t _) (fun _ h => h) _ _ (by rw [List.length_set]; exact hout) h4
    have hself : o[(To.order t)[i].node.toNat]? = some l := by
      rw [q1 _ r0 (fun k hk => To.not_above hm hi hk), List.getElem?_set_self (by omega)]
    refine ⟨⟨l, hself, hb⟩, fun m hd => ?_⟩
    have step : ∀ m, To.Desc t (To.order t)[i].node m → m = (To.order t)[i].node ∨ ∃ k ∈ To.kids t (To.order t)[i].node, To.Desc t (child t (To.order t)[i].node k) m := by
      intro m hd
      induction hd with
      | self => exact .inl rfl
      | step hd hk ih =>
        rcases ih with rfl | ⟨k', h1, h2⟩
        · exact .inr ⟨_, hk, .self⟩
        · exact .inr ⟨k', h1, h2.step hk⟩
    rcases step m hd with rfl | ⟨k, hk, hd'⟩
    · exact ⟨⟨l, hself, hprog, h3, fun k hk => (q2 k hk).1⟩⟩
    · exact (q2 k hk).2 m hd'
structure Fit (t : To.Topo) (cm : Int → List I.Cmd) : Prop where
  prog : ∀ m, I.Prog (cm m)
  known : ∀ m, known (To.kids t m) (cm m) = true
  got : ∀ m, ∀ k ∈ To.kids t m, got (cm m) k = whole (cm (child t m k))
theorem recv_gives {t : To.Topo} (hm : To.May t) {cm : Int → List I.Cmd} (hc : Fit t cm) : ∀ (f i : Nat) (hi : i < (To.order t).length), (To.order t).length ≤ i + f → ∀ out : List (List I.Cmd), (out.length : Int) = t.nodes →
    ∃ o, recv t f (To.order t)[i].node (whole (cm (To.order t)[i].node)) out = some o ∧ ∀ m, To.Desc t (To.order t)[i].node m → o[m.toNat]? = some (cm m)
  | 0, i, hi, hf, _, _ => by omega
  | f + 1, i, hi, hf, out, hout => by
    have hr := (To.order_good hm.sound).range _ (List.getElem_mem hi)
    obtain ⟨r0, r1⟩ := hr
    have e1 : (whole (cm (To.order t)[i].node)).take 41 = I.bootB := List.take_left' (by decide)
    have e2 : (whole (cm (To.order t)[i].node)).drop 41 = (cm (To.order t)[i].node).flatMap I.oneC := List.drop_left' (by decide)
    have e3 := I.getCs_back (hc.prog (To.order t)[i].node) []
    rw [List.append_nil] at e3
    have key : ∀ (ks : List Nat), ks.Nodup → (∀ k ∈ ks, k ∈ To.kids t (To.order t)[i].node) → ∀ (a : List (List I.Cmd)), (a.length : Int) = t.nodes →
        ∃ o, recvs (recv t f) t (To.order t)[i].node (cm (To.order t)[i].node) ks a = some o ∧ (∀ m : Int, 0 ≤ m → (∀ k ∈ ks, ¬ To.Desc t (child t (To.order t)[i].node k) m) → o[m.toNat]? = a[m.toNat]?) ∧
        ∀ k ∈ ks, ∀ m, To.Desc t (child t (To.order t)[i].node k) m → o[m.toNat]? = some (cm m) := by
      intro ks
      induction ks with
      | nil => intro _ _ a _; exact ⟨a, rfl, fun _ _ _ => rfl, fun k hk => by cases hk⟩
      | cons k ks ih =>
        intro hn hk a ha
        obtain ⟨n1, n2⟩ := List.nodup_cons.1 hn
        have hkk := hk k List.mem_cons_self
        obtain ⟨j, hij, hj, e⟩ := Im.child_at hm hi hkk
        obtain ⟨o1, h5, h6⟩ := recv_gives hm hc f j hj (by omega) a ha
        have hfr := recv_frame hm f j hj _ _ _ h5
        rw [e] at h5 h6 hfr
        rw [← hc.got _ k hkk] at h5
        obtain ⟨o, q0, q1, q2⟩ := ih n2 (fun k' h' => hk k' (List.mem_cons_of_mem _ h')) o1 (by rw [recv_length _ _ _ _ _ h5]; exact ha)
        have hge : ∀ m, To.Desc t (child t (To.order t)[i].node k) m → 0 ≤ m := fun m hd => by
          rw [← e] at hd
          obtain ⟨j', _, hj', rfl⟩ := hd.at hm hj
          exact ((To.order_good hm.sound).range _ (List.getElem_mem hj')).1
        refine ⟨o, ?_, fun m hm0 hnd => ?_, fun k' hk' m hd => ?_⟩
        · unfold recvs
          rw [h5]
          exact q0
        · rw [q1 m hm0 (fun k' h' => hnd k' (List.mem_cons_of_mem _ h')), hfr m hm0 (hnd k List.mem_cons_self)]
        · rcases List.mem_cons.1 hk' with rfl | hk'
          · rw [q1 m (hge m hd) fun k2 hk2 hd' => To.apart hm hi hkk (hk k2 (List.mem_cons_of_mem _ hk2)) (fun e => n1 (e ▸ hk2)) hd hd']
            exact h6 m hd
          · exact q2 k' hk' m hd
    obtain ⟨o, q0, q1, q2⟩ := key _ (To.kids_nodup t _) (fun _ h => h) (out.set (To.order t)[i].node.toNat (cm (To.order t)[i].node)) (by rw [List.length_set]; exact hout)
    refine ⟨o, ?_, fun m hd => ?_⟩
    · unfold recv
      rw [if_pos e1, e2, e3]
      dsimp only
      rw [if_pos (hc.known _)]
      exact q0
    · have step : ∀ m, To.Desc t (To.order t)[i].node m → m = (To.order t)[i].node ∨ ∃ k ∈ To.kids t (To.order t)[i].node, To.Desc t (child t (To.order t)[i].node k) m := by
        intro m hd
        induction hd with
        | self => exact .inl rfl
        | step hd hk ih =>
          rcases ih with rfl | ⟨k', h1, h2⟩
          · exact .inr ⟨_, hk, .self⟩
          · exact .inr ⟨k', h1, h2.step hk⟩
      rcases step m hd with rfl | ⟨k, hk, hd'⟩
      · rw [q1 _ r0 (fun k hk => To.not_above hm hi hk), List.getElem?_set_self (by omega)]
      · exact q2 k hk m hd'
end Go.Proofs.YtcblefmjacofgaaDoor.Im
