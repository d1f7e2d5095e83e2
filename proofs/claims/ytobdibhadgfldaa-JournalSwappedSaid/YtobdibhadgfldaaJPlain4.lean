/- Bits of a journal inverted within 32 consecutive ones. Plain Lean. -/
import Derived.Test.YtobdibhadgfldaaJPlain3
namespace Go.Proofs.Ytobdibhadgfldaa.J

/-- One bit inverted. -/
def flip1 (b : List UInt8) (k : Nat) : List UInt8 := b.set (k / 8) (UInt8.ofNat ((b.getD (k / 8) 0).toNat ^^^ 2 ^ (k % 8)))
/-- The bits of a pattern, from a place on. -/
def tear (first m : Nat) : Nat → List UInt8 → List UInt8
  | 0, b => b
  | i + 1, b => if m / 2 ^ i % 2 = 1 ∧ first + i < 8 * b.length then flip1 (tear first m i b) (first + i) else tear first m i b
theorem flip1_length (b : List UInt8) (k : Nat) : (flip1 b k).length = b.length := List.length_set
theorem tear_length (first m i : Nat) (b : List UInt8) : (tear first m i b).length = b.length := by
  induction i with
  | zero => rfl
  | succ i ih =>
    rw [tear]
    split
    · rw [flip1_length, ih]
    · exact ih
theorem N_flip1 : ∀ (b : List UInt8) (k : Nat), k < 8 * b.length → N (flip1 b k) = N b ^^^ 2 ^ k := by
  intro b
  induction b with
  | nil => intro k h; simp at h
  | cons x l ih =>
    intro k h
    have hx := x.toNat_lt
    have e0 : N (x :: l) = x.toNat ^^^ 2 ^ 8 * N l := add_xor x.toNat (N l) 8 hx
    by_cases h8 : k < 8
    · have e1 : k / 8 = 0 := by omega
      have e2 : k % 8 = k := by omega
      have hk : (2 : Nat) ^ k < 2 ^ 8 := Nat.pow_lt_pow_right (by omega) h8
      have hlt : x.toNat ^^^ 2 ^ k < 2 ^ 8 := Nat.xor_lt_two_pow hx hk
      have hf : flip1 (x :: l) k = UInt8.ofNat (x.toNat ^^^ 2 ^ k) :: l := by
        unfold flip1; rw [e1, e2]; rfl
      have e3 : N (UInt8.ofNat (x.toNat ^^^ 2 ^ k) :: l) = (x.toNat ^^^ 2 ^ k) + 2 ^ 8 * N l := by
        show (UInt8.ofNat (x.toNat ^^^ 2 ^ k)).toNat + _ = _
        rw [UInt8.toNat_ofNat', Nat.mod_eq_of_lt hlt]
      rw [hf, e3, add_xor _ _ 8 hlt, e0, Nat.xor_assoc, Nat.xor_assoc, Nat.xor_comm (2 ^ k)]
    · have hf : flip1 (x :: l) k = x :: flip1 l (k - 8) := by
        unfold flip1
        have e1 : k / 8 = (k - 8) / 8 + 1 := by omega
        have e2 : (k - 8) % 8 = k % 8 := by omega
        rw [e1, e2]
        simp
      have e3 : N (x :: flip1 l (k - 8)) = x.toNat ^^^ 2 ^ 8 * N (flip1 l (k - 8)) := add_xor x.toNat _ 8 hx
      have e4 : 2 ^ 8 * 2 ^ (k - 8) = 2 ^ k := by rw [← Nat.pow_add, show 8 + (k - 8) = k by omega]
      rw [hf, e3, ih (k - 8) (by simp at h; omega), e0, mul_xor, e4, Nat.xor_assoc]
theorem N_tear (first m i : Nat) (b : List UInt8) : N (tear first m i b) = N b ^^^ (2 ^ first * (m % 2 ^ i)) % 2 ^ (8 * b.length) := by
  induction i with
  | zero => simp [tear, Nat.mod_one]
  | succ i ih =>
    have hm : m % 2 ^ (i + 1) = m % 2 ^ i ^^^ 2 ^ i * (m / 2 ^ i % 2) := by
      rw [← add_xor _ _ i (Nat.mod_lt _ (Nat.two_pow_pos i)), Nat.pow_succ, Nat.mod_mul]
    rw [hm, mul_xor, Nat.xor_mod_two_pow, ← Nat.xor_assoc, ← ih]
    rw [tear]
    split
    · rename_i h
      have hlt : 2 ^ (first + i) < 2 ^ (8 * b.length) := Nat.pow_lt_pow_right (by omega) h.2
      rw [N_flip1 _ _ (by rw [tear_length]; exact h.2), h.1, Nat.mul_one, ← Nat.pow_add, Nat.mod_eq_of_lt hlt]
    · rename_i h
      have : m / 2 ^ i % 2 = 0 ∨ m / 2 ^ i % 2 = 1 := by omega
      rcases this with q | q
      · simp [q]
      · have hle : 8 * b.length ≤ first + i := by
          rcases Nat.lt_or_ge (first + i) (8 * b.length) with z | z
          · exact absurd ⟨q, z⟩ h
          · exact z
        rw [q, Nat.mul_one, ← Nat.pow_add]
        have : 2 ^ (first + i) = 2 ^ (8 * b.length) * 2 ^ (first + i - 8 * b.length) := by rw [← Nat.pow_add, Nat.add_sub_cancel' hle]
        rw [this, Nat.mul_mod_right, Nat.xor_zero]

/-- A torn journal: its whole acts are those of the records before the first one that was changed. -/
theorem torn {l : List Act} (hok : okFrom 0 l = true) (hw : ∀ x ∈ l, x.Wf) (first m : Nat) (hm : m < 4294967296) (hodd : m % 2 = 1) (hf : first < 144 * l.length) :
    wholes (tear first m 32 (recs 0 l)) = l.take (first / 144) := by
  have hj : first / 144 < l.length := by omega
  have hlen : (tear first m 32 (recs 0 l)).length = 18 * l.length := by rw [tear_length, recs_length]
  have hN := N_tear first m 32 (recs 0 l)
  rw [recs_length, Nat.mod_eq_of_lt (show m < 2 ^ 32 from hm)] at hN
  have hfe : first = 144 * (first / 144) + first % 144 := (Nat.div_add_mod first 144).symm
  generalize hjd : first / 144 = j at hj hfe ⊢
  generalize hfd : first % 144 = f at hfe
  have hf144 : f < 144 := by omega
  generalize hT : tear first m 32 (recs 0 l) = T at hlen hN ⊢
  -- what is in front of the record
  have hp : (256 : Nat) ^ (18 * j) = 2 ^ (144 * j) := by rw [show (256 : Nat) = 2 ^ 8 by decide, ← Nat.pow_mul]; congr 1; omega
  have hsplit : (2 : Nat) ^ first * m = 2 ^ (144 * j) * (2 ^ f * m) := by rw [hfe, Nat.pow_add, Nat.mul_assoc]
  have h8 : (2 : Nat) ^ (8 * (18 * l.length)) = 2 ^ (144 * j) * 2 ^ (144 * (l.length - j)) := by rw [← Nat.pow_add]; congr 1; omega
  have hE : (2 ^ first * m) % 2 ^ (8 * (18 * l.length)) = 2 ^ (144 * j) * ((2 ^ f * m) % 2 ^ (144 * (l.length - j))) := by
    rw [hsplit, h8, Nat.mul_mod_mul_left]
  rw [hE] at hN
  have hfront : T.take (18 * j) = (recs 0 l).take (18 * j) := by
    refine N_inj (by rw [List.length_take, List.length_take, hlen, recs_length]) ?_
    rw [N_take, N_take, hN, hp, Nat.xor_mod_two_pow, Nat.mul_mod_right, Nat.xor_zero]
  -- the record itself
  have hrec : N ((T.drop (18 * j)).take 18) = N (((recs 0 l).drop (18 * j)).take 18) ^^^ 2 ^ f * (m % 2 ^ (144 - f)) := by
    have h18 : (256 : Nat) ^ 18 = 2 ^ 144 := by decide
    rw [N_take, N_take, N_drop, N_drop, hN, hp, h18]
    have hd : (N (recs 0 l) ^^^ 2 ^ (144 * j) * ((2 ^ f * m) % 2 ^ (144 * (l.length - j)))) / 2 ^ (144 * j) = N (recs 0 l) / 2 ^ (144 * j) ^^^ (2 ^ f * m) % 2 ^ (144 * (l.length - j)) := by
      have := Nat.shiftRight_xor_distrib (a := N (recs 0 l)) (b := 2 ^ (144 * j) * ((2 ^ f * m) % 2 ^ (144 * (l.length - j)))) (i := 144 * j)
      simp only [Nat.shiftRight_eq_div_pow] at this
      rw [this, Nat.mul_div_cancel_left _ (Nat.two_pow_pos _)]
    rw [hd, Nat.xor_mod_two_pow]
    congr 1
    have hdvd : (2 : Nat) ^ 144 ∣ 2 ^ (144 * (l.length - j)) := Nat.pow_dvd_pow 2 (by omega)
    rw [Nat.mod_mod_of_dvd _ hdvd]
    have : (2 : Nat) ^ 144 = 2 ^ f * 2 ^ (144 - f) := by rw [← Nat.pow_add, show f + (144 - f) = 144 by omega]
    rw [this, Nat.mul_mod_mul_left]
  have hT2 : T = recs 0 (l.take j) ++ T.drop (18 * j) := by
    conv => lhs; rw [← List.take_append_drop (18 * j) T]
    rw [hfront, recs_take l 0 j (by omega)]
  rw [hT2]
  refine stops (okFrom_takes hok j) (wf_takes hw j) _ ?_
  intro hbad
  have hold : ((recs 0 l).drop (18 * j)).take 18 = rec l[j] (sums 0 (l.take j)) := by
    rw [recs_drop l 0 j (by omega), List.drop_eq_getElem_cons hj, recs, take_rec]
  refine burst (sums_lt (l.take j) 0 (by omega)) (r := ((recs 0 l).drop (18 * j)).take 18) (r' := (T.drop (18 * j)).take 18) ?_ ?_ (rec_valid _ hold.symm) (rec_valid _ hbad) f (m % 2 ^ (144 - f)) (by omega) (Nat.lt_of_le_of_lt (Nat.mod_le _ _) hm) ?_ hrec
  · rw [hold, rec_length]
  · rw [List.length_take, List.length_drop, hlen]; omega
  · intro z
    have h2 : m % 2 ^ (144 - f) % 2 = m % 2 := Nat.mod_mod_of_dvd _ ⟨2 ^ (143 - f), by rw [← Nat.pow_succ']; congr 1; omega⟩
    rw [z] at h2
    omega

/-- Two neighbouring records exchanged. -/
theorem swapped {l : List Act} (hok : okFrom 0 l = true) (hw : ∀ x ∈ l, x.Wf) (j : Nat) (hj : j + 1 < l.length) (hne : sums 0 (l.take j) ≠ sums 0 (l.take (j + 1))) (rest : List UInt8) :
    wholes ((recs 0 l).take (18 * j) ++ (((recs 0 l).drop (18 * j + 18)).take 18 ++ rest)) = l.take j := by
  rw [recs_take l 0 j (by omega)]
  refine stops (okFrom_takes hok j) (wf_takes hw j) _ ?_
  have e : ((recs 0 l).drop (18 * j + 18)).take 18 = rec l[j + 1] (sums 0 (l.take (j + 1))) := by
    rw [show 18 * j + 18 = 18 * (j + 1) by omega, recs_drop l 0 (j + 1) (by omega), List.drop_eq_getElem_cons hj, recs, take_rec]
  rw [e, take_rec]
  have hmem : l[j + 1] ∈ l := List.getElem_mem hj
  rw [act_rec (hw _ hmem) (okFrom_may l 0 hok _ hmem)]
  intro h
  have h2 := congrArg (List.drop 14) h
  rw [rec_drop, rec_drop] at h2
  have h3 := congrArg num h2
  rw [num_four _ (sum_lt _ _), num_four _ (sum_lt _ _)] at h3
  exact hne (sum_inj (sums_lt _ 0 (by omega)) (sums_lt _ 0 (by omega)) h3)
/-- The four bytes of the checksum behind the first j records. -/
theorem sum_at (l : List Act) (j : Nat) (hj : j < l.length) : ((recs 0 l).drop (18 * j + 14)).take 4 = four (sums 0 (l.take (j + 1))) := by
  have e : (recs 0 l).drop (18 * j + 14) = ((recs 0 l).drop (18 * j)).drop 14 := by rw [List.drop_drop]
  rw [e, recs_drop l 0 j (by omega), List.drop_eq_getElem_cons hj, recs, List.take_succ_eq_append_getElem hj, sums_snoc]
  rw [List.drop_append_of_le_length (by rw [rec_length]; omega), rec_drop]
  exact List.take_left' (by simp [four])
theorem four_inj {n m : Nat} (hn : n < 4294967296) (hm : m < 4294967296) (h : four n = four m) : n = m := by
  rw [← num_four n hn, ← num_four m hm, h]

end Go.Proofs.Ytobdibhadgfldaa.J
