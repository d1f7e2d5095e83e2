/- The journal's checksum is linear: bursts, exchanged records, cuts. Plain Lean. -/
import Derived.Test.YtobdibhadgfldaaJPlain2
namespace Go.Proofs.Ytobdibhadgfldaa.J

/-! ### Bytes as a number, the least significant one first -/
def N : List UInt8 → Nat
  | [] => 0
  | x :: l => x.toNat + 256 * N l

theorem N_lt (l : List UInt8) : N l < 256 ^ l.length := by
  induction l with
  | nil => simp [N]
  | cons x l ih =>
    have := x.toNat_lt
    simp only [N, List.length_cons, Nat.pow_succ]
    omega
theorem N_append (l m : List UInt8) : N (l ++ m) = N l + 256 ^ l.length * N m := by
  induction l with
  | nil => simp [N]
  | cons x l ih => simp only [List.cons_append, N, ih, List.length_cons, Nat.pow_succ, Nat.mul_add]; rw [Nat.mul_comm (256 ^ l.length) 256, Nat.mul_assoc]; omega
theorem N_inj : ∀ {l m : List UInt8}, l.length = m.length → N l = N m → l = m := by
  intro l
  induction l with
  | nil => intro m h _; exact (List.eq_nil_of_length_eq_zero h.symm).symm
  | cons x l ih =>
    intro m h hn
    cases m with
    | nil => cases h
    | cons y m =>
      simp only [N] at hn
      have hx := x.toNat_lt
      have hy := y.toNat_lt
      have h1 : x.toNat = y.toNat := by omega
      have h2 : N l = N m := by omega
      rw [UInt8.toNat_inj.1 h1, ih (by simpa using h) h2]
theorem N_take (l : List UInt8) (k : Nat) : N (l.take k) = N l % 256 ^ k := by
  by_cases h : k ≤ l.length
  · conv => rhs; rw [← List.take_append_drop k l, N_append, List.length_take, Nat.min_eq_left h]
    rw [Nat.add_mul_mod_self_left, Nat.mod_eq_of_lt]
    have := N_lt (l.take k)
    rwa [List.length_take, Nat.min_eq_left h] at this
  · rw [List.take_of_length_le (by omega), Nat.mod_eq_of_lt]
    exact Nat.lt_of_lt_of_le (N_lt l) (Nat.pow_le_pow_right (by omega) (by omega))
theorem N_drop (l : List UInt8) (k : Nat) : N (l.drop k) = N l / 256 ^ k := by
  by_cases h : k ≤ l.length
  · conv => rhs; rw [← List.take_append_drop k l, N_append, List.length_take, Nat.min_eq_left h]
    rw [Nat.add_mul_div_left _ _ (Nat.pow_pos (by omega)), Nat.div_eq_of_lt, Nat.zero_add]
    have := N_lt (l.take k)
    rwa [List.length_take, Nat.min_eq_left h] at this
  · rw [List.drop_eq_nil_of_le (by omega), Nat.div_eq_of_lt]
    · rfl
    · exact Nat.lt_of_lt_of_le (N_lt l) (Nat.pow_le_pow_right (by omega) (by omega))
theorem N_four (n : Nat) (h : n < 4294967296) : N (four n) = n := by
  simp [N, four, UInt8.toNat_ofNat']
  omega
theorem num_N (l : List UInt8) (h : 4 ≤ l.length) : num l = N (l.take 4) := by
  match l, h with
  | a :: b :: c :: d :: r, _ => simp [num, N]; omega

/-! ### Linearity -/
theorem mul2 (p r s : Nat) (hr : r < 2) (hs : s < 2) : p * (r ^^^ s) = (p * r) ^^^ (p * s) := by
  have : (r = 0 ∨ r = 1) ∧ (s = 0 ∨ s = 1) := by omega
  rcases this with ⟨rfl | rfl, rfl | rfl⟩ <;> simp
theorem xor_mod2 (a b : Nat) : (a ^^^ b) % 2 = (a % 2) ^^^ (b % 2) := by
  have := Nat.xor_mod_two_pow (a := a) (b := b) (n := 1)
  simpa using this
theorem crcBit_xor (a b : Nat) : crcBit (a ^^^ b) = crcBit a ^^^ crcBit b := by
  unfold crcBit
  rw [xor_half, xor_mod2, mul2 _ _ _ (Nat.mod_lt _ (by omega)) (Nat.mod_lt _ (by omega))]
  simp only [Nat.xor_assoc]
  congr 1
  rw [← Nat.xor_assoc, Nat.xor_comm (b / 2), Nat.xor_assoc]
theorem crcN_xor (i a b : Nat) : crcN i (a ^^^ b) = crcN i a ^^^ crcN i b := by
  induction i with
  | zero => rfl
  | succ i ih => simp only [crcN, ih, crcBit_xor]
theorem crcN_add (i j r : Nat) : crcN (i + j) r = crcN i (crcN j r) := by
  induction i with
  | zero => simp [crcN]
  | succ i ih => rw [Nat.succ_add]; simp only [crcN, ih]
theorem crcBit_two (b : Nat) : crcBit (2 * b) = b := by
  unfold crcBit
  rw [Nat.mul_div_cancel_left _ (by omega), Nat.mul_mod_right, Nat.mul_zero, Nat.xor_zero]
theorem crcN_two (k : Nat) : ∀ b, crcN k (2 ^ k * b) = b := by
  induction k with
  | zero => intro b; simp [crcN]
  | succ k ih =>
    intro b
    rw [crcN, Nat.pow_succ, Nat.mul_assoc, ih, crcBit_two]
theorem crcBit_ne {r : Nat} (h : r < 4294967296) (h0 : r ≠ 0) : crcBit r ≠ 0 := by
  unfold crcBit
  intro e
  have e : r / 2 = 3988292384 * (r % 2) := by
    have h2 : r / 2 ^^^ 3988292384 * (r % 2) ^^^ 3988292384 * (r % 2) = 0 ^^^ 3988292384 * (r % 2) := by rw [e]
    simpa [Nat.xor_assoc] using h2
  have : r % 2 = 0 ∨ r % 2 = 1 := by omega
  rcases this with q | q <;> rw [q] at e <;> omega
theorem crcN_ne (i : Nat) {r : Nat} (h : r < 4294967296) (h0 : r ≠ 0) : crcN i r ≠ 0 := by
  induction i with
  | zero => exact h0
  | succ i ih => exact crcBit_ne (crcN_lt i h) ih
theorem add_xor (x n : Nat) (k : Nat) (h : x < 2 ^ k) : x + 2 ^ k * n = x ^^^ (2 ^ k * n) := by
  have := Nat.two_pow_add_eq_or_of_lt h n
  rw [Nat.add_comm, this, Nat.or_comm]
  apply Nat.eq_of_testBit_eq
  intro i
  rw [Nat.testBit_or, Nat.testBit_xor]
  by_cases hi : i < k
  · have : (2 ^ k * n).testBit i = false := by rw [Nat.testBit_two_pow_mul]; simp; omega
    rw [this]; simp
  · have : x.testBit i = false := Nat.testBit_lt_two_pow (Nat.lt_of_lt_of_le h (Nat.pow_le_pow_right (by omega) (by omega)))
    rw [this]; simp
theorem crcFold_N (l : List UInt8) : ∀ r, crcFold r l = crcN (8 * l.length) (r ^^^ N l) := by
  induction l with
  | nil => intro r; simp [crcFold, N, crcN]
  | cons x l ih =>
    intro r
    have hx := x.toNat_lt
    show crcFold (crc8 (r ^^^ x.toNat)) l = _
    rw [ih, List.length_cons, Nat.mul_add, crcN_add]
    congr 1
    have e : N (x :: l) = x.toNat ^^^ (2 ^ 8 * N l) := add_xor x.toNat (N l) 8 (by omega)
    rw [e, ← Nat.xor_assoc, crcN_xor 8 (r ^^^ x.toNat), crcN_two]
    rfl

theorem crcFold_append (r : Nat) (l m : List UInt8) : crcFold r (l ++ m) = crcFold (crcFold r l) m := by
  unfold crcFold; rw [List.foldl_append]

/-- The checksum as a linear thing. -/
theorem compl_xor {r : Nat} (h : r < 4294967296) : 4294967295 - r = 4294967295 ^^^ r := by
  apply Nat.eq_of_testBit_eq
  intro i
  have e : 4294967295 - r = 2 ^ 32 - (r + 1) := by omega
  rw [e, Nat.testBit_two_pow_sub_succ h, Nat.testBit_xor]
  have e2 : (4294967295 : Nat).testBit i = decide (i < 32) := by
    have := Nat.testBit_two_pow_sub_one 32 i
    exact this
  rw [e2]
  by_cases hi : i < 32
  · simp [hi]
  · have : r.testBit i = false := Nat.testBit_lt_two_pow (Nat.lt_of_lt_of_le (show r < 2 ^ 32 from h) (Nat.pow_le_pow_right (by decide) (by omega)))
    simp [hi, this]
theorem xor_left_cancel {a b c : Nat} (h : a ^^^ b = a ^^^ c) : b = c := by
  have : a ^^^ (a ^^^ b) = a ^^^ (a ^^^ c) := by rw [h]
  simpa [← Nat.xor_assoc] using this
theorem mul_xor (k a b : Nat) : 2 ^ k * (a ^^^ b) = 2 ^ k * a ^^^ 2 ^ k * b := by
  have := Nat.shiftLeft_xor_distrib (a := a) (b := b) (i := k)
  simpa [Nat.shiftLeft_eq, Nat.mul_comm] using this

/-- The register behind the checksum before and a record. -/
theorem fold_rec (s : Nat) (hs : s < 4294967296) (r : List UInt8) :
    crcFold 4294967295 (four s ++ r) = crcN (32 + 8 * r.length) 4294967295 ^^^ crcN (32 + 8 * r.length) s ^^^ crcN (8 * r.length) (N r) := by
  have hl : 8 * (four s ++ r).length = 8 * r.length + 32 := by simp [four]; omega
  have hN : N (four s ++ r) = s ^^^ 2 ^ 32 * N r := by
    have h4 : (256 : Nat) ^ (four s).length = 2 ^ 32 := by rw [show (four s).length = 4 from rfl]
    rw [N_append, N_four s hs, h4]
    exact add_xor s (N r) 32 hs
  rw [crcFold_N, hl, hN, ← Nat.xor_assoc, crcN_xor, crcN_xor, Nat.add_comm 32]
  congr 1
  rw [crcN_add, crcN_two]

/-- Is a record the one of its act behind a checksum? Then its residue is a fixed number. -/
theorem residue {s : Nat} {r : List UInt8} (hr : r.length = 18) (h : crc (four s ++ r.take 14) = num (r.drop 14)) :
    crcFold 4294967295 (four s ++ r) = crcN 32 4294967295 := by
  have e : four s ++ r = (four s ++ r.take 14) ++ r.drop 14 := by rw [List.append_assoc, List.take_append_drop]
  have hd : (r.drop 14).length = 4 := by rw [List.length_drop, hr]
  rw [e, crcFold_append, crcFold_N, hd]
  have hn : N (r.drop 14) = num (r.drop 14) := by rw [num_N _ (by omega), List.take_of_length_le (by omega)]
  rw [hn, ← h]
  unfold crc
  rw [compl_xor (crcFold_lt _ (by omega)), Nat.xor_comm 4294967295, ← Nat.xor_assoc, Nat.xor_self, Nat.zero_xor]
theorem rec_valid {s : Nat} {r : List UInt8} (a : Act) (h : rec a s = r) : crc (four s ++ r.take 14) = num (r.drop 14) := by
  subst h
  rw [rec_drop, num_four _ (sum_lt _ _)]
  rw [rec, List.take_left' (body_length a)]
  rfl
/-- Two records behind one checksum do not differ by a burst. -/
theorem burst {s : Nat} (hs : s < 4294967296) {r r' : List UInt8} (hr : r.length = 18) (hr' : r'.length = 18) (h : crc (four s ++ r.take 14) = num (r.drop 14)) (h' : crc (four s ++ r'.take 14) = num (r'.drop 14))
    (f B : Nat) (hf : f ≤ 144) (hB : B < 4294967296) (h0 : B ≠ 0) (hE : N r' = N r ^^^ 2 ^ f * B) : False := by
  have e := (residue hr h).trans (residue hr' h').symm
  rw [fold_rec s hs, fold_rec s hs, hr, hr'] at e
  have e2 := xor_left_cancel e
  rw [hE, crcN_xor] at e2
  have e3 : crcN (8 * 18) (N r) ^^^ 0 = crcN (8 * 18) (N r) ^^^ crcN (8 * 18) (2 ^ f * B) := by rw [Nat.xor_zero]; exact e2
  have e4 := xor_left_cancel e3
  have : 8 * 18 = (144 - f) + f := by omega
  rw [this, crcN_add, crcN_two] at e4
  exact crcN_ne _ hB h0 e4.symm
/-- The checksum before is seen in the one behind. -/
theorem sum_inj {a : Act} {s s' : Nat} (hs : s < 4294967296) (hs' : s' < 4294967296) (h : sum a s = sum a s') : s = s' := by
  unfold sum crc at h
  have h1 := crcFold_lt (four s ++ body a) (r := 4294967295) (by omega)
  have h2 := crcFold_lt (four s' ++ body a) (r := 4294967295) (by omega)
  have e : crcFold 4294967295 (four s ++ body a) = crcFold 4294967295 (four s' ++ body a) := by omega
  rw [fold_rec s hs, fold_rec s' hs', Nat.xor_comm _ (crcN _ (N _)), Nat.xor_comm _ (crcN _ (N _))] at e
  have e2 := xor_left_cancel (xor_left_cancel e)
  by_cases q : s ^^^ s' = 0
  · have : s ^^^ s = s ^^^ s' := by rw [Nat.xor_self, q]
    exact xor_left_cancel this
  · exfalso
    refine crcN_ne (32 + 8 * (body a).length) (r := s ^^^ s') (Nat.xor_lt_two_pow (n := 32) hs hs') q ?_
    rw [crcN_xor, e2, Nat.xor_self]

/-! ### Whole of the records of acts -/
theorem i32_u32 {t : Int} (h : -2147483648 ≤ t ∧ t ≤ 2147483647) : i32 (u32 t) = t := by unfold i32 u32; omega
theorem num_app (n : Nat) (h : n < 4294967296) (l : List UInt8) : num (four n ++ l) = n := by
  rw [num_N _ (by simp [four]), List.take_left' (by simp [four]), N_four n h]
theorem act_rec {a : Act} (hw : a.Wf) (hm : may a = true) (s : Nat) : act (rec a s) = a := by
  obtain ⟨h1, h2, h3, h4, h5⟩ := may_t hm
  obtain ⟨wt, _, wk, wc, wx⟩ := hw
  have e0 : num (rec a s) = u32 a.t := by
    rw [rec, body]; simp only [List.append_assoc]; exact num_app _ (u32_lt _) _
  have e6 : num ((rec a s).drop 6) = u32 a.c := by
    have : (rec a s).drop 6 = four (u32 a.c) ++ (four (u32 a.x) ++ four (sum a s)) := by simp [rec, body, four, mid]
    rw [this]; exact num_app _ (u32_lt _) _
  have e10 : num ((rec a s).drop 10) = u32 a.x := by
    have : (rec a s).drop 10 = four (u32 a.x) ++ four (sum a s) := by simp [rec, body, four, mid]
    rw [this]; exact num_app _ (u32_lt _) _
  have e4 : (rec a s).getD 4 0 = UInt8.ofNat ((a.n + 1) % 256).toNat := by simp [rec, body, four, mid]
  have e5 : (rec a s).getD 5 0 = UInt8.ofNat a.k.toNat := by simp [rec, body, four, mid]
  unfold act
  rw [e0, e6, e10, e4, e5, i32_u32 wt, i32_u32 wc, i32_u32 wx]
  cases a
  simp only [Act.mk.injEq, true_and, and_true, UInt8.toNat_ofNat'] at *
  omega
theorem take_rec (a : Act) (s : Nat) (l : List UInt8) : (rec a s ++ l).take 18 = rec a s := List.take_left' (rec_length a s)
theorem drop_rec (a : Act) (s : Nat) (l : List UInt8) : (rec a s ++ l).drop 18 = l := List.drop_left' (rec_length a s)
theorem whole_recs : ∀ (l : List Act) (s : Nat) (t : Int) (f : Nat) (rest : List UInt8), okFrom t l = true → (∀ x ∈ l, x.Wf) → l.length ≤ f →
    whole f s t (recs s l ++ rest) = l ++ whole (f - l.length) (sums s l) (lastT t l) rest := by
  intro l
  induction l with
  | nil => intro s t f rest _ _ _; rfl
  | cons a l ih =>
    intro s t f rest hok hw hf
    simp only [okFrom, Bool.and_eq_true, decide_eq_true_eq] at hok
    obtain ⟨⟨h1, h2⟩, h3⟩ := hok
    obtain ⟨g, rfl⟩ : ∃ g, f = g + 1 := ⟨f - 1, by simp at hf; omega⟩
    have hwa := hw a (by simp)
    have e : recs s (a :: l) ++ rest = rec a s ++ (recs (sum a s) l ++ rest) := by rw [recs, List.append_assoc]
    rw [e, whole_yes (by simp [rec_length])]
    · rw [take_rec, drop_rec, act_rec hwa h1, rec_drop, num_four _ (sum_lt _ _), ih _ _ _ _ h3 (fun x hx => hw x (by simp [hx])) (by simpa using hf)]
      simp [sums, lastT]
    · rw [take_rec, act_rec hwa h1, h1]
      simp [h2]
theorem wholes_recs {l : List Act} (hok : okFrom 0 l = true) (hw : ∀ x ∈ l, x.Wf) (rest : List UInt8) :
    wholes (recs 0 l ++ rest) = l ++ whole ((recs 0 l ++ rest).length + 1 - l.length) (sums 0 l) (lastT 0 l) rest := by
  unfold wholes
  exact whole_recs l 0 0 _ rest hok hw (by rw [List.length_append, recs_length]; omega)
theorem wholes_all {l : List Act} (hok : okFrom 0 l = true) (hw : ∀ x ∈ l, x.Wf) : wholes (recs 0 l) = l := by
  have := wholes_recs hok hw []
  rw [List.append_nil, whole_short (by simp), List.append_nil] at this
  exact this
/-- What Whole finds are the records of its acts. -/
theorem whole_inv : ∀ (f s : Nat) (t : Int) (b : List UInt8), okFrom t (whole f s t b) = true ∧ (∀ x ∈ whole f s t b, x.Wf) ∧ recs s (whole f s t b) = b.take (18 * (whole f s t b).length) := by
  intro f
  induction f with
  | zero => intro s t b; simp [whole, okFrom, recs]
  | succ f ih =>
    intro s t b
    by_cases h0 : b.length < 18
    · rw [whole_short h0]; simp [okFrom, recs]
    · by_cases h : (may (act (b.take 18)) && decide (t ≤ (act (b.take 18)).t) && decide (rec (act (b.take 18)) s = b.take 18)) = true
      · rw [whole_yes h0 h]
        obtain ⟨i1, i2, i3⟩ := ih (num ((b.take 18).drop 14)) (act (b.take 18)).t (b.drop 18)
        simp only [Bool.and_eq_true, decide_eq_true_eq] at h
        obtain ⟨⟨h1, h2⟩, h3⟩ := h
        have hs : num ((b.take 18).drop 14) = sum (act (b.take 18)) s := by
          conv => lhs; rw [← h3]
          rw [rec_drop, num_four _ (sum_lt _ _)]
        refine ⟨by simp [okFrom, h1, h2, i1], ?_, ?_⟩
        · intro x hx
          rcases List.mem_cons.1 hx with rfl | hx
          · exact act_wf _
          · exact i2 x hx
        · rw [recs, h3, ← hs, i3, List.length_cons, Nat.mul_add, Nat.add_comm (18 * _), Nat.mul_one, ← List.take_append_drop 18 b]
          simp only [List.take_append_drop]
          rw [List.take_add]
      · rw [whole_no (by simpa using h)]; simp [okFrom, recs]
theorem wholes_back {b : List UInt8} (h : isAll b = true) : okFrom 0 (wholes b) = true ∧ (∀ x ∈ wholes b, x.Wf) ∧ recs 0 (wholes b) = b := by
  obtain ⟨h1, h2, h3⟩ := whole_inv (b.length + 1) 0 0 b
  refine ⟨h1, h2, ?_⟩
  unfold isAll at h
  rw [decide_eq_true_eq] at h
  show recs 0 (whole (b.length + 1) 0 0 b) = b
  rw [h3]
  exact List.take_of_length_le (by unfold wholes at h; omega)

/-! ### Acts made valid -/
theorem fine1_may (last : Int) (a : Act) (h0 : 0 ≤ last) : may (fine1 last a) = true := by
  simp only [may, fine1, Bool.and_eq_true]
  refine ⟨⟨⟨⟨?_, ?_⟩, ?_⟩, ?_⟩, ?_⟩ <;> apply decide_eq_true <;> omega
theorem fine_ok : ∀ (l : List Act) (t : Int), 0 ≤ t → (∀ x ∈ l, x.Wf) → okFrom t (fine t l) = true := by
  intro l
  induction l with
  | nil => intro t _ _; rfl
  | cons a l ih =>
    intro t h0 hw
    simp only [fine, okFrom, Bool.and_eq_true, decide_eq_true_eq]
    refine ⟨⟨fine1_may t a h0, ?_⟩, ih _ ?_ (fun x hx => hw x (by simp [hx]))⟩
    · simp only [fine1]; omega
    · simp only [fine1]; omega
theorem fine_wfs : ∀ (l : List Act) (t : Int), 0 ≤ t → t ≤ 2147483647 → (∀ x ∈ l, x.Wf) → ∀ x ∈ fine t l, x.Wf := by
  intro l
  induction l with
  | nil => intro t _ _ _ x hx; cases hx
  | cons a l ih =>
    intro t h0 h1 hw x hx
    have hwa := hw a (by simp)
    rcases List.mem_cons.1 hx with rfl | hx
    · obtain ⟨a1, a2, a3, a4, a5⟩ := hwa
      refine ⟨?_, ?_, ?_, a4, a5⟩ <;> simp only [fine1] <;> omega
    · refine ih _ ?_ ?_ (fun x hx => hw x (by simp [hx])) x hx <;> simp only [fine1] <;> omega
theorem fine_fine {l : List Act} (hw : ∀ x ∈ l, x.Wf) : okFrom 0 (fine 0 l) = true ∧ ∀ x ∈ fine 0 l, x.Wf :=
  ⟨fine_ok l 0 (by omega) hw, fine_wfs l 0 (by omega) (by omega) hw⟩

theorem recs_append (l m : List Act) : ∀ s, recs s (l ++ m) = recs s l ++ recs (sums s l) m := by
  induction l with
  | nil => intro s; rfl
  | cons x l ih => intro s; simp only [List.cons_append, recs, sums]; rw [ih, List.append_assoc]
theorem okFrom_takes {l : List Act} (h : okFrom 0 l = true) (k : Nat) : okFrom 0 (l.take k) = true := by
  have := okFrom_append (l.take k) (l.drop k) 0
  rw [List.take_append_drop, h] at this
  exact (Bool.and_eq_true _ _ ▸ this.symm : _ ∧ _).1
theorem wf_takes {l : List Act} (h : ∀ x ∈ l, x.Wf) (k : Nat) : ∀ x ∈ l.take k, x.Wf := fun x hx => h x (List.mem_of_mem_take hx)
theorem recs_take (l : List Act) (s j : Nat) (h : j ≤ l.length) : (recs s l).take (18 * j) = recs s (l.take j) := by
  conv => lhs; rw [← List.take_append_drop j l, recs_append]
  exact List.take_left' (by rw [recs_length, List.length_take, Nat.min_eq_left h])
theorem recs_drop (l : List Act) (s j : Nat) (h : j ≤ l.length) : (recs s l).drop (18 * j) = recs (sums s (l.take j)) (l.drop j) := by
  conv => lhs; rw [← List.take_append_drop j l, recs_append]
  exact List.drop_left' (by rw [recs_length, List.length_take, Nat.min_eq_left h])

/-- A journal that is cut, with bytes behind it that are no record. -/
theorem cut {l : List Act} (hok : okFrom 0 l = true) (hw : ∀ x ∈ l, x.Wf) (j : Nat) (hj : j ≤ l.length) (more : List UInt8) (hm : more.length < 18) :
    wholes ((recs 0 l).take (18 * j) ++ more) = l.take j := by
  rw [recs_take l 0 j hj, wholes_recs (okFrom_takes hok j) (wf_takes hw j), whole_short hm, List.append_nil]
theorem cut_at {l : List Act} (hok : okFrom 0 l = true) (hw : ∀ x ∈ l, x.Wf) (k : Nat) (hk : k ≤ 18 * l.length) : wholes ((recs 0 l).take k) = l.take (k / 18) := by
  have e : (recs 0 l).take k = (recs 0 l).take (18 * (k / 18)) ++ ((recs 0 l).drop (18 * (k / 18))).take (k % 18) := by
    conv => lhs; rw [← Nat.div_add_mod k 18]
    rw [List.take_add]
  rw [e]
  refine cut hok hw _ (by omega) _ ?_
  have := Nat.mod_lt k (show 0 < 18 by omega)
  rw [List.length_take]
  omega

/-- Whole stops at a record that is not the one of its act. -/
theorem stops {l : List Act} (hok : okFrom 0 l = true) (hw : ∀ x ∈ l, x.Wf) (rest : List UInt8) (h : rec (act (rest.take 18)) (sums 0 l) ≠ rest.take 18) : wholes (recs 0 l ++ rest) = l := by
  rw [wholes_recs hok hw, whole_no (by simp [h]), List.append_nil]

end Go.Proofs.Ytobdibhadgfldaa.J
