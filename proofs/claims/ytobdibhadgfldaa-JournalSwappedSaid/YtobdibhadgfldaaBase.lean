/- Small definitions and lemmas on reading memory that all walks of this seat share. -/
import Derived.WalkKit
import Derived.WalkSpells
import Derived.WalkLawsBesides
import Derived.Lib.Hide
import Derived.Laws.AppendOwnNone
import Derived.OwnWalkIn
import Derived.Deep.QuietTactic
import Derived.BigQuiet
namespace Go.Proofs.Ytobdibhadgfldaa
open Go.RowKit

/-- A byte as a value. -/
abbrev bv (x : UInt8) : Value := .int .u8 (x.toNat : Int)

/-- READING: the cells xs lie at a, each in a block below B. -/
def Rd (w : World) (B : Nat) (a : Option Addr) (xs : List Value) : Prop :=
  ∀ j x, xs[j]? = some x → ∃ b o, a = some ⟨b, o, none⟩ ∧ b < B ∧ w.cell? ⟨b, o + j, none⟩ = some x

theorem Rd.nil (w : World) (B : Nat) (a : Option Addr) : Rd w B a [] := by intro j x h; simp at h

theorem Rd.below {w w' : World} {B B' : Nat} {a : Option Addr} {xs : List Value} (h : Rd w B a xs) (hb : Below B' w w') (hB : B ≤ B') : Rd w' B a xs := by
  intro j x hx
  obtain ⟨b, o, e, hlt, hc⟩ := h j x hx
  exact ⟨b, o, e, hlt, (hb.cell (p := ⟨b, o + j, none⟩) (by show b < B'; omega)).trans hc⟩

theorem Rd.mono {w : World} {B B' : Nat} {a : Option Addr} {xs : List Value} (h : Rd w B a xs) (hB : B ≤ B') : Rd w B' a xs := by
  intro j x hx
  obtain ⟨b, o, e, hlt, hc⟩ := h j x hx
  exact ⟨b, o, e, by omega, hc⟩

/-- Every cell that is read lies in the heap. -/
theorem Rd.size {w : World} {B : Nat} {a : Option Addr} {xs : List Value} (h : Rd w B a xs) : Rd w w.heap.size a xs := by
  intro j x hx
  obtain ⟨b, o, e, hlt, hc⟩ := h j x hx
  exact ⟨b, o, e, World.block_lt_of_cell? w ⟨b, o + j, none⟩ hc, hc⟩

/-- The address and the cells, of a reading that is not empty. -/
theorem Rd.at {w : World} {B : Nat} {a : Option Addr} {xs : List Value} (h : Rd w B a xs) (hne : 0 < xs.length) :
    ∃ b o, a = some ⟨b, o, none⟩ ∧ b < B ∧ ∀ j x, xs[j]? = some x → w.cell? ⟨b, o + j, none⟩ = some x := by
  obtain ⟨b, o, e, hlt, _⟩ := h 0 xs[0] (by simp [hne])
  refine ⟨b, o, e, hlt, fun j x hx => ?_⟩
  obtain ⟨b', o', e', _, hc⟩ := h j x hx
  rw [e] at e'
  cases e'
  exact hc

/-- What is owned can be read. -/
theorem Rd.of_owns {w : World} {base : Nat} {e : TypeId} {size : Nat} {a : Option Addr} {n c : Nat} {xs : List Value}
    (h : w.ownsRow base e size (.slice a n c) n xs) : Rd w w.heap.size a xs := by
  intro j x hx
  rcases h.2 with ⟨hv, hn⟩ | ⟨g, cap, cur, hv, _⟩
  · have hl := h.1
    subst hn
    simp at hl
    subst hl
    simp at hx
  · simp at hv
    obtain ⟨rfl, rfl⟩ := hv
    have hc := h.cells (g := g) (by simp [Value.ownBlock]) j x hx
    have ha : (⟨g, 0, none⟩ : Addr).add j = ⟨g, 0 + j, none⟩ := by unfold Addr.add; split <;> simp_all
    rw [ha] at hc
    exact ⟨g, 0, rfl, World.block_lt_of_cell? w ⟨g, 0 + j, none⟩ hc, hc⟩

/-- The shape of an owned slice. -/
theorem owns_shape {w : World} {base : Nat} {e : TypeId} {size : Nat} {v : Value} {n : Nat} {xs : List Value}
    (h : w.ownsRow base e size v n xs) : ∃ a c, v = .slice a n c ∧ n ≤ c ∧ c ≤ maxLen ∧ (a = none → c = 0) := by
  rcases h.2 with ⟨rfl, rfl⟩ | ⟨g, cap, cur, rfl, _, _, h1, h2, _⟩
  · exact ⟨none, 0, rfl, Nat.le_refl _, Nat.zero_le _, fun _ => rfl⟩
  · exact ⟨_, cap, rfl, h1, h2, fun h => by cases h⟩

/-- Part of a reading. -/
theorem Rd.drop {w : World} {B : Nat} {b o : Nat} {xs : List Value} (h : Rd w B (some ⟨b, o, none⟩) xs) (k : Nat) : Rd w B (some ⟨b, o + k, none⟩) (xs.drop k) := by
  intro j x hx
  rw [List.getElem?_drop] at hx
  obtain ⟨b', o', e, hlt, hc⟩ := h (k + j) x hx
  cases e
  exact ⟨b, o + k, rfl, hlt, by rw [Nat.add_assoc]; exact hc⟩

theorem Rd.take {w : World} {B : Nat} {a : Option Addr} {xs : List Value} (h : Rd w B a xs) (k : Nat) : Rd w B a (xs.take k) := by
  intro j x hx
  refine h j x ?_
  rw [List.getElem?_take] at hx
  split at hx
  · exact hx
  · cases hx

/-- A byte of bytes. -/
theorem rd_byte {w : World} {b o : Nat} {l : List UInt8} (h : ∀ j x, (l.map bv)[j]? = some x → w.cell? ⟨b, o + j, none⟩ = some x) (k : Nat) (hk : k < l.length) :
    w.cell? ⟨b, o + k, none⟩ = some (bv l[k]) := h k _ (by simp [hk])

theorem Rd.byte {w : World} {B : Nat} {a : Option Addr} {l : List UInt8} (h : Rd w B a (l.map bv)) (k : Nat) (hk : k < l.length) :
    ∃ b o, a = some ⟨b, o, none⟩ ∧ b < B ∧ w.cell? ⟨b, o + k, none⟩ = some (bv l[k]) := h k _ (by simp [hk])

/-- A slice value .slice a n c reads the cells xs: 'size' cells an element. -/
structure Sl (w : World) (B : Nat) (a : Option Addr) (n c size : Nat) (xs : List Value) : Prop where
  len : xs.length = n * size
  rd : Rd w B a xs
  cap : n ≤ c
  max : c ≤ maxLen
  nil : a = none → c = 0

theorem Sl.below {w w' : World} {B B' : Nat} {a : Option Addr} {n c size : Nat} {xs : List Value} (h : Sl w B a n c size xs) (hb : Below B' w w') (hB : B ≤ B') : Sl w' B a n c size xs :=
  ⟨h.len, h.rd.below hb hB, h.cap, h.max, h.nil⟩
theorem Sl.mono {w : World} {B B' : Nat} {a : Option Addr} {n c size : Nat} {xs : List Value} (h : Sl w B a n c size xs) (hB : B ≤ B') : Sl w B' a n c size xs :=
  ⟨h.len, h.rd.mono hB, h.cap, h.max, h.nil⟩
theorem Sl.size {w : World} {B : Nat} {a : Option Addr} {n c size : Nat} {xs : List Value} (h : Sl w B a n c size xs) : Sl w w.heap.size a n c size xs :=
  ⟨h.len, h.rd.size, h.cap, h.max, h.nil⟩
/-- In a later world, whatever has been written beyond what was there. -/
theorem Sl.later {w w' : World} {B : Nat} {a : Option Addr} {n c size : Nat} {xs : List Value} (h : Sl w B a n c size xs) (hb : Below w.heap.size w w') : Sl w' w'.heap.size a n c size xs :=
  ((h.size).below hb (Nat.le_refl _)).mono hb.size
theorem Sl.of_nil (w : World) (B size : Nat) : Sl w B none 0 0 size [] := ⟨by simp, Rd.nil _ _ _, Nat.le_refl _, Nat.zero_le _, fun _ => rfl⟩

/-- What is owned is a slice that can be read. -/
theorem Sl.of_owns {w : World} {base : Nat} {e : TypeId} {size : Nat} {a : Option Addr} {n c : Nat} {xs : List Value}
    (h : w.ownsRow base e size (.slice a n c) n xs) : Sl w w.heap.size a n c size xs := by
  refine ⟨h.1, Rd.of_owns h, ?_, ?_, ?_⟩ <;>
  · rcases h.2 with ⟨hv, hn⟩ | ⟨g, cap, cur, hv, _, _, h1, h2, _⟩ <;> simp at hv <;> obtain ⟨rfl, h'⟩ := hv <;> simp_all

theorem owns_at {w : World} {base : Nat} {e : TypeId} {size : Nat} {a : Option Addr} {n c : Nat} {xs : List Value}
    (h : w.ownsRow base e size (.slice a n c) n xs) (hn : 0 < n) : ∃ g, a = some ⟨g, 0, none⟩ ∧ base ≤ g ∧ n ≤ c ∧ c ≤ maxLen := by
  rcases h.2 with ⟨hv, hn'⟩ | ⟨g, cap, cur, hv, hb, _, h1, h2, _⟩
  · omega
  · simp at hv
    obtain ⟨rfl, rfl⟩ := hv
    exact ⟨g, rfl, hb, h1, h2⟩

/-- The element's row of the table, in one. -/
def Elem (P : Program) (t e : TypeId) (size bytes : Nat) : Prop :=
  ∃ i z, P.underlying t = some (.slice e) ∧ P.info? e = some i ∧ i.zero = some z ∧ i.size = size ∧ i.bytes = bytes ∧ z.cells.size = size ∧ 0 < size

theorem elem_mk {P : Program} {t e : TypeId} {z : Value} {size bytes : Nat} (h : (P.info? e).map (fun i => (i.zero, i.size, i.bytes)) = some (some z, size, bytes))
    (ht : P.underlying t = some (.slice e)) (hz : z.cells.size = size) (h0 : 0 < size) : Elem P t e size bytes := by
  obtain ⟨i, h1, h2, h3, h4⟩ := info_parts h
  exact ⟨i, z, ht, h1, h2, h3, h4, hz, h0⟩

/-- A block that has just been laid is a slice. -/
theorem sl_new (w : World) (xs : List Value) (e : TypeId) (n size : Nat) (h : xs.length = n * size) (hm : n ≤ maxLen) :
    Sl (w.alloc (.cells xs.toArray e)) (w.heap.size + 1) (some ⟨w.heap.size, 0, none⟩) n n size xs := by
  refine ⟨h, ?_, Nat.le_refl _, hm, fun h => by cases h⟩
  intro j x hx
  refine ⟨w.heap.size, 0, rfl, Nat.lt_succ_self _, ?_⟩
  rw [Nat.zero_add, cell_of_row _ w.heap.size j xs.toArray e (0, 0) (heap_alloc_new w _)]
  simpa using hx

/-- s[k:]. -/
theorem Sl.from {w : World} {B b o n c size : Nat} {xs : List Value} (h : Sl w B (some ⟨b, o, none⟩) n c size xs) (k : Nat) (hk : k ≤ n) :
    Sl w B (some ⟨b, o + k * size, none⟩) (n - k) (c - k) size (xs.drop (k * size)) := by
  refine ⟨?_, h.rd.drop _, by have := h.cap; omega, by have := h.max; omega, fun h => by cases h⟩
  rw [List.length_drop, h.len, Nat.sub_mul]
/-- s[k:] of bytes. -/
theorem Sl.from1 {w : World} {B b o n c : Nat} {xs : List Value} (h : Sl w B (some ⟨b, o, none⟩) n c 1 xs) (k : Nat) (hk : k ≤ n) :
    Sl w B (some ⟨b, o + k, none⟩) (n - k) (c - k) 1 (xs.drop k) := by
  have := h.from k hk
  rwa [Nat.mul_one] at this
/-- s[:k]. -/
theorem Sl.upto {w : World} {B n c size : Nat} {a : Option Addr} {xs : List Value} (h : Sl w B a n c size xs) (k : Nat) (hk : k ≤ n) :
    Sl w B a k c size (xs.take (k * size)) := by
  refine ⟨?_, h.rd.take _, by have := h.cap; omega, h.max, h.nil⟩
  rw [List.length_take, h.len]
  exact Nat.min_eq_left (Nat.mul_le_mul_right _ hk)
theorem Sl.upto1 {w : World} {B n c : Nat} {a : Option Addr} {xs : List Value} (h : Sl w B a n c 1 xs) (k : Nat) (hk : k ≤ n) :
    Sl w B a k c 1 (xs.take k) := by
  have := h.upto k hk
  rwa [Nat.mul_one] at this

/-- What is owned stays owned where nothing that was there is written. -/
theorem owns_later {w w' : World} {base : Nat} {e : TypeId} {size : Nat} {v : Value} {n : Nat} {xs : List Value} (h : w.ownsRow base e size v n xs) {B : Nat} (hb : Below B w w') (hB : w.heap.size ≤ B) : w'.ownsRow base e size v n xs := by
  refine ⟨h.1, ?_⟩
  rcases h.2 with h2 | ⟨g, cap, cur, hv, hg, hh, r⟩
  · exact .inl h2
  · exact .inr ⟨g, cap, cur, hv, hg, by rw [hb.block g (Nat.lt_of_lt_of_le (Array.getElem?_eq_some_iff.1 hh).1 hB)]; exact hh, r⟩
/-- Owned from a lower base on. -/
theorem owns_mono {w : World} {base base' : Nat} {e : TypeId} {size : Nat} {v : Value} {n : Nat} {xs : List Value} (h : w.ownsRow base e size v n xs) (hB : base' ≤ base) : w.ownsRow base' e size v n xs := by
  refine ⟨h.1, ?_⟩
  rcases h.2 with h2 | ⟨g, cap, cur, hv, hg, hh, r⟩
  · exact .inl h2
  · exact .inr ⟨g, cap, cur, hv, Nat.le_trans hB hg, hh, r⟩
/-- A block that has just been laid is owned. -/
theorem owns_new (w : World) (xs : List Value) (e : TypeId) (n size base : Nat) (h : xs.length = n * size) (hm : n ≤ maxLen) (hb : base ≤ w.heap.size) :
    (w.alloc (.cells xs.toArray e)).ownsRow base e size (.slice (some ⟨w.heap.size, 0, none⟩) n n) n xs :=
  ⟨h, .inr ⟨w.heap.size, n, xs.toArray, rfl, hb, heap_alloc_new w _, Nat.le_refl _, hm, by simpa using h, by simp [← h]⟩⟩

theorem grown_below {w w' : World} {base : Nat} {e : TypeId} {size : Nat} {v : Value} {n : Nat} {xs : List Value} (hown : w.ownsRow base e size v n xs) (hb : base ≤ w.heap.size)
    (hg : w.grownBy w' v.ownBlock) : Below base w w' :=
  (Below.refl base w).grown hg hb (fun k hk => (hown.lt k hk).1)

/-- append of whatever slice onto one that is the call's own. -/
theorem app_own {P : Program} {w : World} {ops : Array Oper} {rest : List Oper} {o : Oper} {a : Act} {Q : Exit → Act → World → Prop} (hgd : o.guard = none) (s x : Operand) (t : TypeId)
    (ho : o.op = .call { callee := .builtin .append, args := #[s, x], argTypes := #[t, t] })
    {e : TypeId} {size bytes : Nat} (he : Elem P t e size bytes)
    {base : Nat} {va : Option Addr} {n c : Nat} {xs : List Value} (hs : a.eval s = .slice va n c) (hown : w.ownsRow base e size (.slice va n c) n xs)
    {B : Nat} {xa : Option Addr} {m xc : Nat} {news : List Value} (hx : a.eval x = .slice xa m xc) (hsl : Sl w B xa m xc size news) (h1 : ∀ u ∈ news, u.oneCell' = true)
    (h63 : n + m ≤ 1000000000000) (hby : bytes ≤ 128) (hbase : base ≤ w.heap.size)
    (h : ∀ a' c' w', w'.ownsRow base e size (.slice a' (n + m) c') (n + m) (xs ++ news) → w.grownBy w' (Value.slice va n c).ownBlock → Below base w w' → wpList P ops Q rest (a.put o.dst (.slice a' (n + m) c')) w') :
    wpList P ops Q (o :: rest) a w := by
  obtain ⟨i, z, ht, hi, hz, hsize, hbytes, hzs, hpos⟩ := he
  have hbound : (n + m) * bytes ≤ 140737488355328 := Nat.le_trans (Nat.mul_le_mul h63 hby) (by omega)
  cases xa with
  | none =>
    have hc0 := hsl.nil rfl
    have hm0 : m = 0 := by have := hsl.cap; omega
    subst hm0; subst hc0
    have hn0 : news = [] := List.eq_nil_of_length_eq_zero (by have := hsl.len; omega)
    subst hn0
    refine wpList_append_own_none hgd s x t ho base e i size ht hi _ n xs hs hown hx ?_
    have := h va c w (by simpa using hown) ⟨rfl, rfl, rfl, Nat.le_refl _, fun _ _ _ => rfl⟩ (Below.refl _ _)
    simpa using this
  | some ad =>
    refine wpList_append_own w hgd s x t ho base e i z size bytes ht hi hz hsize hbytes hzs hpos _ n xs hs hown ad m xc news hx hsl.len ?_ h1 (by unfold maxLen; omega) hbound hbase ?_
    · intro j u hu
      obtain ⟨b, o', e', _, hc⟩ := hsl.rd j u hu
      cases e'
      have ha : (⟨b, o', none⟩ : Addr).add j = ⟨b, o' + j, none⟩ := by unfold Addr.add; split <;> simp_all
      rw [ha]
      exact hc
    · intro v' w' hown' hg _
      obtain ⟨a', c', rfl, _⟩ := owns_shape hown'
      exact h a' c' w' hown' hg (grown_below hown hbase hg)

/-- A box below which all stays: its cells in the later world. -/
theorem bbox {b j : Nat} {w w' : World} {x : Value} (h : Below (b + 1) w w') (hc : w.cell? ⟨b, j, none⟩ = some x) : w'.cell? ⟨b, j, none⟩ = some x :=
  (h.cell (p := ⟨b, j, none⟩) (Nat.lt_succ_self _)).trans hc

/-- string(b). -/
theorem conv_bytes {P : Program} {w : World} {B : Nat} {a : Option Addr} {n c : Nat} {l : List UInt8} (h : Sl w B a n c 1 (l.map bv)) (src dst e : TypeId)
    (hs : P.underlying src = some (.slice e)) (he : P.underlying e = some (.int .u8)) (hd : P.underlying dst = some .string) :
    (convert src dst (.slice a n c)).run P w = .ok (.string ⟨l.toArray⟩) w := by
  have hn : l.length = n := by have := h.len; simpa using this
  subst hn
  cases a with
  | none =>
    have h1 := h.nil rfl
    have h2 := h.cap
    have : l = [] := List.eq_nil_of_length_eq_zero (by omega)
    subst this
    exact run_convert_bytes_nil w src e hs he _ _ dst hd
  | some ad =>
    refine run_convert_bytes_back w src dst e ad c l hs he hd fun j hj => ?_
    obtain ⟨b, o, e', _, hc⟩ := h.rd.byte j hj
    cases e'
    have ha : (⟨b, o, none⟩ : Addr).add j = ⟨b, o + j, none⟩ := by unfold Addr.add; split <;> simp_all
    rw [ha]
    exact hc

/-! ### A region that draws its order, whose operations read and whose callees make memory and hand back a value that does not hang on it -/
/-- A later world. -/
structure Fam (B : Nat) (W : World) where
  w : World
  below : Below B W w
def Fam.first (B : Nat) (W : World) : Fam B W := ⟨W.drew, (Below.refl _ _).drew⟩

instance fam_nonempty (B : Nat) (W : World) : Nonempty (Fam B W) := ⟨Fam.first B W⟩

theorem wp_region_fam {P : Program} {id : Nat} {Q : Exit → Act → World → Prop} {a : Act} {w : World} {l : List Oper} (B : Nat) (hm : P.follows .mixedOrders = true) (hB : Region.lexB .any l.toArray = true)
    (h : wpQuiet P l.toArray (fun w' => ∃ n : Fam B w, w' = n.w) (fun a' => ∀ w', (∃ n : Fam B w, w' = n.w) → Q .normal a' w') l a) : (Code.region id l.toArray true).wp P Q a w :=
  wp_region_quiet (C := fun w' => ∃ n : Fam B w, w' = n.w) hm hB ⟨Fam.first B w, rfl⟩ (by simpa using h)

theorem fam_cell {B : Nat} {W : World} {b o : Nat} {v : Value} (h : W.cell? ⟨b, o, none⟩ = some v) (hb : b < B) : ∀ n : Fam B W, n.w.cell? ⟨b, o, none⟩ = some v :=
  fun n => (n.below.cell (p := ⟨b, o, none⟩) hb).trans h

/-- A box that has just been laid: its five cells in every later world. -/
theorem fam_box5 {w W : World} {t : TypeId} {v0 v1 v2 v3 v4 : Value} (h : w.alloc (.cells #[v0, v1, v2, v3, v4] t) = W) :
    Below w.heap.size w W ∧ w.heap.size < W.heap.size ∧ (∀ n : Fam W.heap.size W, n.w.cell? ⟨w.heap.size, 0, none⟩ = some v0) ∧ (∀ n : Fam W.heap.size W, n.w.cell? ⟨w.heap.size, 1, none⟩ = some v1) ∧
      (∀ n : Fam W.heap.size W, n.w.cell? ⟨w.heap.size, 2, none⟩ = some v2) ∧ (∀ n : Fam W.heap.size W, n.w.cell? ⟨w.heap.size, 3, none⟩ = some v3) ∧ (∀ n : Fam W.heap.size W, n.w.cell? ⟨w.heap.size, 4, none⟩ = some v4) := by
  subst h
  have hl : w.heap.size < (w.alloc (.cells #[v0, v1, v2, v3, v4] t)).heap.size := by simp
  refine ⟨(Below.refl _ _).alloc (Nat.le_refl _) _, hl, ?_, ?_, ?_, ?_, ?_⟩ <;> exact fam_cell (by simp [go_sem]) hl

theorem fam_call {P : Program} {f : FuncId} {args : Array Value} {B : Nat} {W : World} {v : Value} {n : Fam B W} (hB : B ≤ W.heap.size)
    (h : Calls P f args n.w fun e w' => e = .returned v ∧ Below n.w.heap.size n.w w') : Calls P f args n.w fun e w'' => e = .returned v ∧ ∃ m : Fam B W, w'' = m.w :=
  h.mono fun _ w' ⟨he, hb⟩ => ⟨he, ⟨w', n.below.trans (hb.mono (Nat.le_trans hB n.below.size))⟩, rfl⟩

theorem oneCell_bytes (l : List UInt8) : ∀ u ∈ l.map bv, u.oneCell' = true := by
  intro u hu
  obtain ⟨x, _, rfl⟩ := List.mem_map.1 hu
  rfl

end Go.Proofs.Ytobdibhadgfldaa
