/- The journal in plain Lean: records, checksums, what Put and Whole give. No program is in sight. -/
namespace Go.Proofs.Ytobdibhadgfldaa.J

/-- One bit of the checksum. -/
def crcBit (r : Nat) : Nat := (r / 2) ^^^ (3988292384 * (r % 2))
/-- Some bits. -/
def crcN : Nat → Nat → Nat
  | 0, r => r
  | i + 1, r => crcBit (crcN i r)
/-- Eight bits. -/
def crc8 (r : Nat) : Nat := crcN 8 r
def crcFold (r : Nat) (l : List UInt8) : Nat := l.foldl (fun r x => crc8 (r ^^^ x.toNat)) r
/-- The checksum of bytes. -/
def crc (l : List UInt8) : Nat := 4294967295 - crcFold 4294967295 l

/-- The four bytes of a number. -/
def four (n : Nat) : List UInt8 := [UInt8.ofNat n, UInt8.ofNat (n / 256), UInt8.ofNat (n / 65536), UInt8.ofNat (n / 16777216)]
/-- The number with which bytes begin. -/
def num (l : List UInt8) : Nat := (l.getD 0 0).toNat + 256 * (l.getD 1 0).toNat + 65536 * (l.getD 2 0).toNat + 16777216 * (l.getD 3 0).toNat

structure Act where
  t : Int
  n : Int
  k : Int
  c : Int
  x : Int
  deriving DecidableEq, Inhabited

/-- The fields are of their types. -/
structure Act.Wf (a : Act) : Prop where
  t : -2147483648 ≤ a.t ∧ a.t ≤ 2147483647
  n : -9223372036854775808 ≤ a.n ∧ a.n ≤ 9223372036854775807
  k : 0 ≤ a.k ∧ a.k ≤ 255
  c : -2147483648 ≤ a.c ∧ a.c ≤ 2147483647
  x : -2147483648 ≤ a.x ∧ a.x ≤ 2147483647

/-- A word without sign. -/
def u32 (n : Int) : Nat := (n % 4294967296).toNat
/-- A word with sign. -/
def i32 (n : Nat) : Int := ((n : Int) + 2147483648) % 4294967296 - 2147483648

def may (a : Act) : Bool := decide (0 ≤ a.t) && decide (-1 ≤ a.n) && decide (a.n < 8) && decide (1 ≤ a.k) && decide (a.k ≤ 9)

/-- The two bytes of a record with the node and the kind. -/
def mid (n k : Int) : List UInt8 := [UInt8.ofNat ((n + 1) % 256).toNat, UInt8.ofNat k.toNat]
/-- The first 14 bytes of a record. -/
def body (a : Act) : List UInt8 := four (u32 a.t) ++ mid a.n a.k ++ four (u32 a.c) ++ four (u32 a.x)
/-- The checksum of a record behind one with a checksum. -/
def sum (a : Act) (before : Nat) : Nat := crc (four before ++ body a)
def rec (a : Act) (before : Nat) : List UInt8 := body a ++ four (sum a before)

/-- The records of acts. -/
def recs : Nat → List Act → List UInt8
  | _, [] => []
  | s, a :: l => rec a s ++ recs (sum a s) l

/-- The checksum behind acts. -/
def sums : Nat → List Act → Nat
  | s, [] => s
  | s, a :: l => sums (sum a s) l

/-- Acts that are valid, their times not less than one. -/
def okFrom : Int → List Act → Bool
  | _, [] => true
  | t, a :: l => may a && decide (t ≤ a.t) && okFrom a.t l

/-- The act that a record holds. -/
def act (r : List UInt8) : Act :=
  { t := i32 (num r), n := ((r.getD 4 0).toNat : Int) - 1, k := ((r.getD 5 0).toNat : Int), c := i32 (num (r.drop 6)), x := i32 (num (r.drop 10)) }

/-- The acts of the longest beginning that is whole. -/
def whole : Nat → Nat → Int → List UInt8 → List Act
  | 0, _, _, _ => []
  | f + 1, s, t, b =>
    if b.length < 18 then [] else
      let a := act (b.take 18)
      if may a && decide (t ≤ a.t) && decide (rec a s = b.take 18) then a :: whole f (num ((b.take 18).drop 14)) a.t (b.drop 18) else []

/-- The communications among acts. -/
def comms (l : List Act) : List Act := l.filter fun a => a.k == 8
theorem comms_yes (l : List Act) (k : Nat) (h : k < l.length) (hk : (l[k].k == 8) = true) : comms (l.take (k + 1)) = comms (l.take k) ++ [l[k]] := by
  rw [List.take_succ_eq_append_getElem h, comms, List.filter_append]
  simp only [List.filter_cons, List.filter_nil, hk, if_true]
  rfl
theorem comms_no (l : List Act) (k : Nat) (h : k < l.length) (hk : (l[k].k == 8) = false) : comms (l.take (k + 1)) = comms (l.take k) := by
  rw [List.take_succ_eq_append_getElem h, comms, List.filter_append]
  simp only [List.filter_cons, List.filter_nil, hk, Bool.false_eq_true, if_false, List.append_nil]
  rfl
theorem comms_le (l : List Act) (k : Nat) : (comms (l.take k)).length ≤ k :=
  Nat.le_trans (List.length_filter_le _ _) (by rw [List.length_take]; exact Nat.min_le_left _ _)

/-- An act made valid, behind one with a time. -/
def fine1 (last : Int) (a : Act) : Act := { a with t := max (a.t % 2147483648) last, n := (a.n % 16) % 9 - 1, k := 1 + a.k % 9 }
/-- Acts made valid. -/
def fine : Int → List Act → List Act
  | _, [] => []
  | last, a :: l => fine1 last a :: fine (fine1 last a).t l
/-- The last time of acts, or one. -/
def lastT : Int → List Act → Int
  | t, [] => t
  | _, a :: l => lastT a.t l

theorem fine_snoc (l : List Act) (a : Act) : ∀ t, fine t (l ++ [a]) = fine t l ++ [fine1 (lastT t (fine t l)) a] := by
  induction l with
  | nil => intro t; rfl
  | cons x l ih => intro t; simp only [List.cons_append, fine, lastT]; rw [ih]
theorem fine_length (l : List Act) : ∀ t, (fine t l).length = l.length := by
  induction l with
  | nil => intro t; rfl
  | cons x l ih => intro t; simp [fine, ih]
theorem lastT_snoc (l : List Act) (a : Act) : ∀ t, lastT t (l ++ [a]) = a.t := by
  induction l with
  | nil => intro t; rfl
  | cons x l ih => intro t; simp only [List.cons_append, lastT]; rw [ih]
/-- All times of valid acts. -/
theorem lastT_bd (l : List Act) : ∀ t, 0 ≤ t → t ≤ 2147483647 → 0 ≤ lastT t (fine t l) ∧ lastT t (fine t l) ≤ 2147483647 := by
  induction l with
  | nil => intro t h1 h2; exact ⟨h1, h2⟩
  | cons x l ih =>
    intro t h1 h2
    simp only [fine, lastT]
    refine ih _ ?_ ?_ <;> simp only [fine1] <;> omega

theorem okFrom_append (l m : List Act) : ∀ t, okFrom t (l ++ m) = (okFrom t l && okFrom (lastT t l) m) := by
  induction l with
  | nil => intro t; simp [okFrom, lastT]
  | cons x l ih => intro t; simp only [List.cons_append, okFrom, lastT]; rw [ih]; simp only [Bool.and_assoc]
theorem okFrom_take {l : List Act} {k : Nat} (h : k < l.length) : okFrom 0 (l.take (k + 1)) = (okFrom 0 (l.take k) && (may l[k] && decide (lastT 0 (l.take k) ≤ l[k].t))) := by
  rw [List.take_succ_eq_append_getElem h, okFrom_append]
  simp [okFrom]
theorem okFrom_no {l : List Act} {k : Nat} (h : okFrom 0 (l.take k) = false) : okFrom 0 l = false := by
  have := okFrom_append (l.take k) (l.drop k) 0
  rw [List.take_append_drop, h] at this
  simpa using this
theorem lastT_take {l : List Act} {k : Nat} (h : k < l.length) : lastT 0 (l.take (k + 1)) = l[k].t := by
  rw [List.take_succ_eq_append_getElem h, lastT_snoc]
theorem may_t {a : Act} (h : may a = true) : 0 ≤ a.t ∧ -1 ≤ a.n ∧ a.n < 8 ∧ 1 ≤ a.k ∧ a.k ≤ 9 := by
  simp [may] at h
  omega
theorem sums_snoc (l : List Act) (a : Act) : ∀ s, sums s (l ++ [a]) = sum a (sums s l) := by
  induction l with
  | nil => intro s; rfl
  | cons x l ih => intro s; simp only [List.cons_append, sums]; rw [ih]
theorem recs_snoc (l : List Act) (a : Act) : ∀ s, recs s (l ++ [a]) = recs s l ++ rec a (sums s l) := by
  induction l with
  | nil => intro s; simp [recs, sums]
  | cons x l ih => intro s; simp only [List.cons_append, recs, sums]; rw [ih, List.append_assoc]
theorem rec_length (a : Act) (s : Nat) : (rec a s).length = 18 := by simp [rec, body, four, mid]
theorem body_length (a : Act) : (body a).length = 14 := by simp [body, four, mid]
theorem recs_length (l : List Act) : ∀ s, (recs s l).length = 18 * l.length := by
  induction l with
  | nil => intro s; rfl
  | cons x l ih => intro s; rw [recs, List.length_append, rec_length, ih, List.length_cons]; omega
theorem num_four (n : Nat) (h : n < 4294967296) : num (four n) = n := by
  simp [num, four, UInt8.toNat_ofNat']
  omega
theorem rec_drop (a : Act) (s : Nat) : (rec a s).drop 14 = four (sum a s) := by
  rw [rec, List.drop_left' (body_length a)]

theorem okFrom_may (l : List Act) : ∀ t, okFrom t l = true → ∀ x ∈ l, may x = true := by
  induction l with
  | nil => intro t _ x hx; cases hx
  | cons y l ih =>
    intro t h x hx
    simp only [okFrom, Bool.and_eq_true] at h
    rcases List.mem_cons.1 hx with rfl | hx
    · exact h.1.1
    · exact ih _ h.2 x hx

def wholes (b : List UInt8) : List Act := whole (b.length + 1) 0 0 b

theorem whole_short {f s : Nat} {t : Int} {b : List UInt8} (h : b.length < 18) : whole f s t b = [] := by
  cases f with
  | zero => rfl
  | succ f => simp [whole, h]
theorem whole_no {f s : Nat} {t : Int} {b : List UInt8} (h : (may (act (b.take 18)) && decide (t ≤ (act (b.take 18)).t) && decide (rec (act (b.take 18)) s = b.take 18)) = false) : whole f s t b = [] := by
  cases f with
  | zero => rfl
  | succ f =>
    unfold whole
    split
    · rfl
    · simp [h]
theorem whole_yes {f s : Nat} {t : Int} {b : List UInt8} (h0 : ¬ b.length < 18) (h : (may (act (b.take 18)) && decide (t ≤ (act (b.take 18)).t) && decide (rec (act (b.take 18)) s = b.take 18)) = true) :
    whole (f + 1) s t b = act (b.take 18) :: whole f (num ((b.take 18).drop 14)) (act (b.take 18)).t (b.drop 18) := by
  rw [whole]
  simp only [h0, if_false, h, if_true]

theorem i32_bd (n : Nat) : -2147483648 ≤ i32 n ∧ i32 n ≤ 2147483647 := by unfold i32; omega
theorem act_wf (r : List UInt8) : (act r).Wf := by
  have h4 := (r.getD 4 0).toNat_lt
  have h5 := (r.getD 5 0).toNat_lt
  refine ⟨i32_bd _, ?_, ?_, i32_bd _, i32_bd _⟩
  · show -9223372036854775808 ≤ ((r.getD 4 0).toNat : Int) - 1 ∧ ((r.getD 4 0).toNat : Int) - 1 ≤ 9223372036854775807
    omega
  · show 0 ≤ ((r.getD 5 0).toNat : Int) ∧ ((r.getD 5 0).toNat : Int) ≤ 255
    omega

theorem crcBit_lt {r : Nat} (h : r < 4294967296) : crcBit r < 4294967296 := by
  unfold crcBit
  exact Nat.xor_lt_two_pow (n := 32) (by omega) (by have : r % 2 < 2 := Nat.mod_lt _ (by omega); show 3988292384 * (r % 2) < 4294967296; omega)
theorem crcN_lt (i : Nat) {r : Nat} (h : r < 4294967296) : crcN i r < 4294967296 := by
  induction i with
  | zero => exact h
  | succ i ih => exact crcBit_lt ih
theorem crcX_lt {r : Nat} (h : r < 4294967296) (x : UInt8) : r ^^^ x.toNat < 4294967296 :=
  Nat.xor_lt_two_pow (n := 32) h (by have := x.toNat_lt; show x.toNat < 4294967296; omega)
theorem crcFold_lt (l : List UInt8) : ∀ {r : Nat}, r < 4294967296 → crcFold r l < 4294967296 := by
  induction l with
  | nil => intro r h; exact h
  | cons x l ih => intro r h; exact ih (crcN_lt 8 (crcX_lt h x))
theorem crc_lt (l : List UInt8) : crc l < 4294967296 := by
  have := crcFold_lt l (r := 4294967295) (by omega)
  unfold crc
  omega
theorem crcFold_snoc (r : Nat) (l : List UInt8) (k : Nat) (h : k < l.length) : crcFold r (l.take (k + 1)) = crcN 8 (crcFold r (l.take k) ^^^ l[k].toNat) := by
  rw [List.take_succ_eq_append_getElem h]
  unfold crcFold
  rw [List.foldl_append]
  rfl
/-- The reference's register, which takes the byte's bits one by one. -/
def refR : Nat → Nat → Nat → Nat
  | 0, r, _ => r
  | i + 1, r, x => (if (x / 2 ^ i ^^^ refR i r x) % 2 = 1 then (refR i r x / 2) ^^^ 3988292384 else refR i r x / 2)
theorem refR_lt (i : Nat) {r : Nat} (h : r < 4294967296) (x : Nat) : refR i r x < 4294967296 := by
  induction i with
  | zero => exact h
  | succ i ih =>
    unfold refR
    split
    · exact Nat.xor_lt_two_pow (n := 32) (by omega) (by omega)
    · omega
theorem refR_succ (i r x : Nat) : refR (i + 1) r x = if (x / 2 ^ i ^^^ refR i r x) % 2 = 1 then (refR i r x / 2) ^^^ 3988292384 else refR i r x / 2 := rfl
theorem xor_half (a b : Nat) : (a ^^^ b) / 2 = (a / 2) ^^^ (b / 2) := by
  have := Nat.shiftRight_xor_distrib (a := a) (b := b) (i := 1)
  simpa [Nat.shiftRight_eq_div_pow] using this
theorem crcN_ref (i : Nat) (r x : Nat) : crcN i (r ^^^ x) = refR i r x ^^^ (x / 2 ^ i) := by
  induction i with
  | zero => simp [crcN, refR]
  | succ i ih =>
    rw [crcN, ih, refR, crcBit]
    have e1 : (refR i r x ^^^ x / 2 ^ i) / 2 = (refR i r x / 2) ^^^ (x / 2 ^ (i + 1)) := by
      rw [Nat.pow_succ, ← Nat.div_div_eq_div_mul, xor_half]
    rw [e1, Nat.xor_comm (x / 2 ^ i)]
    split
    · rename_i h
      rw [h, Nat.mul_one, Nat.xor_assoc, Nat.xor_comm (x / _), ← Nat.xor_assoc]
    · rename_i h
      have : (refR i r x ^^^ x / 2 ^ i) % 2 = 0 := by omega
      rw [this]
      simp
theorem refR_8 (r : Nat) (x : UInt8) : refR 8 r x.toNat = crcN 8 (r ^^^ x.toNat) := by
  have hx := x.toNat_lt
  rw [crcN_ref]
  have : x.toNat / 2 ^ 8 = 0 := by omega
  rw [this]
  simp

theorem sum_lt (a : Act) (s : Nat) : sum a s < 4294967296 := crc_lt _
theorem sums_lt (l : List Act) : ∀ s, s < 4294967296 → sums s l < 4294967296 := by
  induction l with
  | nil => intro s h; exact h
  | cons x l ih => intro s h; exact ih _ (sum_lt _ _)
theorem u32_lt (n : Int) : u32 n < 4294967296 := by unfold u32; omega

end Go.Proofs.Ytobdibhadgfldaa.J
