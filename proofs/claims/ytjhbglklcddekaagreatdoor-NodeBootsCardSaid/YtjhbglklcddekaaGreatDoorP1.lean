/- Parts: Base, Base2, D1. -/
import Derived.WalkKit
import Derived.WalkSpells
import Derived.WalkLawsBesides
import Derived.Lib.Hide
import Derived.Laws.AppendOwnNone
import Derived.OwnWalkIn
import Derived.Deep.QuietTactic
import Derived.BigQuiet
set_option linter.all false
set_option maxRecDepth 100000
set_option maxHeartbeats 16000000
namespace Go.Proofs.YtjhbglklcddekaaGreatDoor
open Go.RowKit
section
abbrev bv (x : UInt8) : Value := .int .u8 (x.toNat : Int)
def Rd (w : World) (B : Nat) (a : Option Addr) (xs : List Value) : Prop :=
  ∀ j x, xs[j]? = some x → ∃ b o, a = some ⟨b, o, none⟩ ∧ b < B ∧ w.cell? ⟨b, o + j, none⟩ = some x
theorem Rd.nil (w : World) (B : Nat) (a : Option Addr) : Rd w B a [] := by intro j x h; simp at h
theorem Rd.below {w w' : World} {B B' : Nat} {a : Option Addr} {xs : List Value} (h : Rd w B a xs) (hb : Below B' w w') (hB : B ≤ B') : Rd w' B a xs := by
  intro j x hx
  obtain ⟨b, o, e, hlt, hc⟩ := h j x hx
  exact ⟨b, o, e, hlt, (hb.cell (p := ⟨b, o + j, none⟩) (by show b < B'; omega)).trans hc⟩
theorem Rd.mono {w : World} {B B' : Nat} {a : Option Addr} {xs : List Value} (h : Rd w B a xs) (hB : B ≤ B') : Rd w B' a xs := by
  intro j x hx
  obtain ⟨b, o, e, hlt, hc⟩ := h j x hx
  exact ⟨b, o, e, by omega, hc⟩
theorem Rd.size {w : World} {B : Nat} {a : Option Addr} {xs : List Value} (h : Rd w B a xs) : Rd w w.heap.size a xs := by
  intro j x hx
  obtain ⟨b, o, e, hlt, hc⟩ := h j x hx
  exact ⟨b, o, e, World.block_lt_of_cell? w ⟨b, o + j, none⟩ hc, hc⟩
theorem Rd.at {w : World} {B : Nat} {a : Option Addr} {xs : List Value} (h : Rd w B a xs) (hne : 0 < xs.length) :
    ∃ b o, a = some ⟨b, o, none⟩ ∧ b < B ∧ ∀ j x, xs[j]? = some x → w.cell? ⟨b, o + j, none⟩ = some x := by
  obtain ⟨b, o, e, hlt, _⟩ := h 0 xs[0] (by simp [hne])
  refine ⟨b, o, e, hlt, fun j x hx => ?_⟩
  obtain ⟨b', o', e', _, hc⟩ := h j x hx
  rw [e] at e'
  cases e'
  exact hc
theorem Rd.of_owns {w : World} {base : Nat} {e : TypeId} {size : Nat} {a : Option Addr} {n c : Nat} {xs : List Value}
    (h : w.ownsRow base e size (.slice a n c) n xs) : Rd w w.heap.size a xs := by
  intro j x hx
  rcases h.2 with ⟨hv, hn⟩ | ⟨g, cap, cur, hv, _⟩
  · have hl := h.1
    subst hn
    simp at hl
    subst hl
    simp at hx
  · simp at hv
    obtain ⟨rfl, rfl⟩ := hv
    have hc := h.cells (g := g) (by simp [Value.ownBlock]) j x hx
    have ha : (⟨g, 0, none⟩ : Addr).add j = ⟨g, 0 + j, none⟩ := by unfold Addr.add; split <;> simp_all
    rw [ha] at hc
    exact ⟨g, 0, rfl, World.block_lt_of_cell? w ⟨g, 0 + j, none⟩ hc, hc⟩
theorem owns_shape {w : World} {base : Nat} {e : TypeId} {size : Nat} {v : Value} {n : Nat} {xs : List Value}
    (h : w.ownsRow base e size v n xs) : ∃ a c, v = .slice a n c ∧ n ≤ c ∧ c ≤ maxLen ∧ (a = none → c = 0) := by
  rcases h.2 with ⟨rfl, rfl⟩ | ⟨g, cap, cur, rfl, _, _, h1, h2, _⟩
  · exact ⟨none, 0, rfl, Nat.le_refl _, Nat.zero_le _, fun _ => rfl⟩
  · exact ⟨_, cap, rfl, h1, h2, fun h => by cases h⟩
theorem Rd.drop {w : World} {B : Nat} {b o : Nat} {xs : List Value} (h : Rd w B (some ⟨b, o, none⟩) xs) (k : Nat) : Rd w B (some ⟨b, o + k, none⟩) (xs.drop k) := by
  intro j x hx
  rw [List.getElem?_drop] at hx
  obtain ⟨b', o', e, hlt, hc⟩ := h (k + j) x hx
  cases e
  exact ⟨b, o + k, rfl, hlt, by rw [Nat.add_assoc]; exact hc⟩
theorem Rd.take {w : World} {B : Nat} {a : Option Addr} {xs : List Value} (h : Rd w B a xs) (k : Nat) : Rd w B a (xs.take k) := by
  intro j x hx
  refine h j x ?_
  rw [List.getElem?_take] at hx
  split at hx
  · exact hx
  · cases hx
theorem rd_byte {w : World} {b o : Nat} {l : List UInt8} (h : ∀ j x, (l.map bv)[j]? = some x → w.cell? ⟨b, o + j, none⟩ = some x) (k : Nat) (hk : k < l.length) :
    w.cell? ⟨b, o + k, none⟩ = some (bv l[k]) := h k _ (by simp [hk])
theorem Rd.byte {w : World} {B : Nat} {a : Option Addr} {l : List UInt8} (h : Rd w B a (l.map bv)) (k : Nat) (hk : k < l.length) :
    ∃ b o, a = some ⟨b, o, none⟩ ∧ b < B ∧ w.cell? ⟨b, o + k, none⟩ = some (bv l[k]) := h k _ (by simp [hk])
structure Sl (w : World) (B : Nat) (a : Option Addr) (n c size : Nat) (xs : List Value) : Prop where
  len : xs.length = n * size
  rd : Rd w B a xs
  cap : n ≤ c
  max : c ≤ maxLen
  nil : a = none → c = 0
theorem Sl.below {w w' : World} {B B' : Nat} {a : Option Addr} {n c size : Nat} {xs : List Value} (h : Sl w B a n c size xs) (hb : Below B' w w') (hB : B ≤ B') : Sl w' B a n c size xs :=
  ⟨h.len, h.rd.below hb hB, h.cap, h.max, h.nil⟩
theorem Sl.mono {w : World} {B B' : Nat} {a : Option Addr} {n c size : Nat} {xs : List Value} (h : Sl w B a n c size xs) (hB : B ≤ B') : Sl w B' a n c size xs :=
  ⟨h.len, h.rd.mono hB, h.cap, h.max, h.nil⟩
theorem Sl.size {w : World} {B : Nat} {a : Option Addr} {n c size : Nat} {xs : List Value} (h : Sl w B a n c size xs) : Sl w w.heap.size a n c size xs :=
  ⟨h.len, h.rd.size, h.cap, h.max, h.nil⟩
theorem Sl.later {w w' : World} {B : Nat} {a : Option Addr} {n c size : Nat} {xs : List Value} (h : Sl w B a n c size xs) (hb : Below w.heap.size w w') : Sl w' w'.heap.size a n c size xs :=
  ((h.size).below hb (Nat.le_refl _)).mono hb.size
theorem Sl.of_nil (w : World) (B size : Nat) : Sl w B none 0 0 size [] := ⟨by simp, Rd.nil _ _ _, Nat.le_refl _, Nat.zero_le _, fun _ => rfl⟩
theorem Sl.of_owns {w : World} {base : Nat} {e : TypeId} {size : Nat} {a : Option Addr} {n c : Nat} {xs : List Value}
    (h : w.ownsRow base e size (.slice a n c) n xs) : Sl w w.heap.size a n c size xs := by
  refine ⟨h.1, Rd.of_owns h, ?_, ?_, ?_⟩ <;>
  · rcases h.2 with ⟨hv, hn⟩ | ⟨g, cap, cur, hv, _, _, h1, h2, _⟩ <;> simp at hv <;> obtain ⟨rfl, h'⟩ := hv <;> simp_all
theorem owns_at {w : World} {base : Nat} {e : TypeId} {size : Nat} {a : Option Addr} {n c : Nat} {xs : List Value}
    (h : w.ownsRow base e size (.slice a n c) n xs) (hn : 0 < n) : ∃ g, a = some ⟨g, 0, none⟩ ∧ base ≤ g ∧ n ≤ c ∧ c ≤ maxLen := by
  rcases h.2 with ⟨hv, hn'⟩ | ⟨g, cap, cur, hv, hb, _, h1, h2, _⟩
  · omega
  · simp at hv
    obtain ⟨rfl, rfl⟩ := hv
    exact ⟨g, rfl, hb, h1, h2⟩
def Elem (P : Program) (t e : TypeId) (size bytes : Nat) : Prop :=
  ∃ i z, P.underlying t = some (.slice e) ∧ P.info? e = some i ∧ i.zero = some z ∧ i.size = size ∧ i.bytes = bytes ∧ z.cells.size = size ∧ 0 < size
theorem elem_mk {P : Program} {t e : TypeId} {z : Value} {size bytes : Nat} (h : (P.info? e).map (fun i => (i.zero, i.size, i.bytes)) = some (some z, size, bytes))
    (ht : P.underlying t = some (.slice e)) (hz : z.cells.size = size) (h0 : 0 < size) : Elem P t e size bytes := by
  obtain ⟨i, h1, h2, h3, h4⟩ := info_parts h
  exact ⟨i, z, ht, h1, h2, h3, h4, hz, h0⟩
theorem sl_new (w : World) (xs : List Value) (e : TypeId) (n size : Nat) (h : xs.length = n * size) (hm : n ≤ maxLen) :
    Sl (w.alloc (.cells xs.toArray e)) (w.heap.size + 1) (some ⟨w.heap.size, 0, none⟩) n n size xs := by
  refine ⟨h, ?_, Nat.le_refl _, hm, fun h => by cases h⟩
  intro j x hx
  refine ⟨w.heap.size, 0, rfl, Nat.lt_succ_self _, ?_⟩
  rw [Nat.zero_add, cell_of_row _ w.heap.size j xs.toArray e (0, 0) (heap_alloc_new w _)]
  simpa using hx
theorem Sl.from {w : World} {B b o n c size : Nat} {xs : List Value} (h : Sl w B (some ⟨b, o, none⟩) n c size xs) (k : Nat) (hk : k ≤ n) :
    Sl w B (some ⟨b, o + k * size, none⟩) (n - k) (c - k) size (xs.drop (k * size)) := by
  refine ⟨?_, h.rd.drop _, by have := h.cap; omega, by have := h.max; omega, fun h => by cases h⟩
  rw [List.length_drop, h.len, Nat.sub_mul]
theorem Sl.from1 {w : World} {B b o n c : Nat} {xs : List Value} (h : Sl w B (some ⟨b, o, none⟩) n c 1 xs) (k : Nat) (hk : k ≤ n) :
    Sl w B (some ⟨b, o + k, none⟩) (n - k) (c - k) 1 (xs.drop k) := by
  have := h.from k hk
  rwa [Nat.mul_one] at this
theorem Sl.upto {w : World} {B n c size : Nat} {a : Option Addr} {xs : List Value} (h : Sl w B a n c size xs) (k : Nat) (hk : k ≤ n) :
    Sl w B a k c size (xs.take (k * size)) := by
  refine ⟨?_, h.rd.take _, by have := h.cap; omega, h.max, h.nil⟩
  rw [List.length_take, h.len]
  exact Nat.min_eq_left (Nat.mul_le_mul_right _ hk)
theorem Sl.upto1 {w : World} {B n c : Nat} {a : Option Addr} {xs : List Value} (h : Sl w B a n c 1 xs) (k : Nat) (hk : k ≤ n) :
    Sl w B a k c 1 (xs.take k) := by
  have := h.upto k hk
  rwa [Nat.mul_one] at this
theorem owns_later {w w' : World} {base : Nat} {e : TypeId} {size : Nat} {v : Value} {n : Nat} {xs : List Value} (h : w.ownsRow base e size v n xs) {B : Nat} (hb : Below B w w') (hB : w.heap.size ≤ B) : w'.ownsRow base e size v n xs := by
  refine ⟨h.1, ?_⟩
  rcases h.2 with h2 | ⟨g, cap, cur, hv, hg, hh, r⟩
  · exact .inl h2
  · exact .inr ⟨g, cap, cur, hv, hg, by rw [hb.block g (Nat.lt_of_lt_of_le (Array.getElem?_eq_some_iff.1 hh).1 hB)]; exact hh, r⟩
theorem owns_mono {w : World} {base base' : Nat} {e : TypeId} {size : Nat} {v : Value} {n : Nat} {xs : List Value} (h : w.ownsRow base e size v n xs) (hB : base' ≤ base) : w.ownsRow base' e size v n xs := by
  refine ⟨h.1, ?_⟩
  rcases h.2 with h2 | ⟨g, cap, cur, hv, hg, hh, r⟩
  · exact .inl h2
  · exact .inr ⟨g, cap, cur, hv, Nat.le_trans hB hg, hh, r⟩
theorem owns_new (w : World) (xs : List Value) (e : TypeId) (n size base : Nat) (h : xs.length = n * size) (hm : n ≤ maxLen) (hb : base ≤ w.heap.size) :
    (w.alloc (.cells xs.toArray e)).ownsRow base e size (.slice (some ⟨w.heap.size, 0, none⟩) n n) n xs :=
  ⟨h, .inr ⟨w.heap.size, n, xs.toArray, rfl, hb, heap_alloc_new w _, Nat.le_refl _, hm, by simpa using h, by simp [← h]⟩⟩
theorem grown_below {w w' : World} {base : Nat} {e : TypeId} {size : Nat} {v : Value} {n : Nat} {xs : List Value} (hown : w.ownsRow base e size v n xs) (hb : base ≤ w.heap.size)
    (hg : w.grownBy w' v.ownBlock) : Below base w w' :=
  (Below.refl base w).grown hg hb (fun k hk => (hown.lt k hk).1)
theorem app_own {P : Program} {w : World} {ops : Array Oper} {rest : List Oper} {o : Oper} {a : Act} {Q : Exit → Act → World → Prop} (hgd : o.guard = none) (s x : Operand) (t : TypeId)
    (ho : o.op = .call { callee := .builtin .append, args := #[s, x], argTypes := #[t, t] })
    {e : TypeId} {size bytes : Nat} (he : Elem P t e size bytes)
    {base : Nat} {va : Option Addr} {n c : Nat} {xs : List Value} (hs : a.eval s = .slice va n c) (hown : w.ownsRow base e size (.slice va n c) n xs)
    {B : Nat} {xa : Option Addr} {m xc : Nat} {news : List Value} (hx : a.eval x = .slice xa m xc) (hsl : Sl w B xa m xc size news) (h1 : ∀ u ∈ news, u.oneCell' = true)
    (h63 : n + m ≤ 100000000000) (hby : bytes ≤ 1024) (hbase : base ≤ w.heap.size)
    (h : ∀ a' c' w', w'.ownsRow base e size (.slice a' (n + m) c') (n + m) (xs ++ news) → w.grownBy w' (Value.slice va n c).ownBlock → Below base w w' → wpList P ops Q rest (a.put o.dst (.slice a' (n + m) c')) w') :
    wpList P ops Q (o :: rest) a w := by
  obtain ⟨i, z, ht, hi, hz, hsize, hbytes, hzs, hpos⟩ := he
  have hbound : (n + m) * bytes ≤ 140737488355328 := Nat.le_trans (Nat.mul_le_mul h63 hby) (by omega)
  cases xa with
  | none =>
    have hc0 := hsl.nil rfl
    have hm0 : m = 0 := by have := hsl.cap; omega
    subst hm0; subst hc0
    have hn0 : news = [] := List.eq_nil_of_length_eq_zero (by have := hsl.len; omega)
    subst hn0
    refine wpList_append_own_none hgd s x t ho base e i size ht hi _ n xs hs hown hx ?_
    have := h va c w (by simpa using hown) ⟨rfl, rfl, rfl, Nat.le_refl _, fun _ _ _ => rfl⟩ (Below.refl _ _)
    simpa using this
  | some ad =>
    refine wpList_append_own w hgd s x t ho base e i z size bytes ht hi hz hsize hbytes hzs hpos _ n xs hs hown ad m xc news hx hsl.len ?_ h1 (by unfold maxLen; omega) hbound hbase ?_
    · intro j u hu
      obtain ⟨b, o', e', _, hc⟩ := hsl.rd j u hu
      cases e'
      have ha : (⟨b, o', none⟩ : Addr).add j = ⟨b, o' + j, none⟩ := by unfold Addr.add; split <;> simp_all
      rw [ha]
      exact hc
    · intro v' w' hown' hg _
      obtain ⟨a', c', rfl, _⟩ := owns_shape hown'
      exact h a' c' w' hown' hg (grown_below hown hbase hg)
theorem bbox {b j : Nat} {w w' : World} {x : Value} (h : Below (b + 1) w w') (hc : w.cell? ⟨b, j, none⟩ = some x) : w'.cell? ⟨b, j, none⟩ = some x :=
  (h.cell (p := ⟨b, j, none⟩) (Nat.lt_succ_self _)).trans hc
theorem conv_bytes {P : Program} {w : World} {B : Nat} {a : Option Addr} {n c : Nat} {l : List UInt8} (h : Sl w B a n c 1 (l.map bv)) (src dst e : TypeId)
    (hs : P.underlying src = some (.slice e)) (he : P.underlying e = some (.int .u8)) (hd : P.underlying dst = some .string) :
    (convert src dst (.slice a n c)).run P w = .ok (.string ⟨l.toArray⟩) w := by
  have hn : l.length = n := by have := h.len; simpa using this
  subst hn
  cases a with
  | none =>
    have h1 := h.nil rfl
    have h2 := h.cap
    have : l = [] := List.eq_nil_of_length_eq_zero (by omega)
    subst this
    exact run_convert_bytes_nil w src e hs he _ _ dst hd
  | some ad =>
    refine run_convert_bytes_back w src dst e ad c l hs he hd fun j hj => ?_
    obtain ⟨b, o, e', _, hc⟩ := h.rd.byte j hj
    cases e'
    have ha : (⟨b, o, none⟩ : Addr).add j = ⟨b, o + j, none⟩ := by unfold Addr.add; split <;> simp_all
    rw [ha]
    exact hc
structure Fam (B : Nat) (W : World) where
  w : World
  below : Below B W w
def Fam.first (B : Nat) (W : World) : Fam B W := ⟨W.drew, (Below.refl _ _).drew⟩
instance fam_nonempty (B : Nat) (W : World) : Nonempty (Fam B W) := ⟨Fam.first B W⟩
theorem wp_region_fam {P : Program} {id : Nat} {Q : Exit → Act → World → Prop} {a : Act} {w : World} {l : List Oper} (B : Nat) (hm : P.follows .mixedOrders = true) (hB : Region.lexB .any l.toArray = true)
    (h : wpQuiet P l.toArray (fun w' => ∃ n : Fam B w, w' = n.w) (fun a' => ∀ w', (∃ n : Fam B w, w' = n.w) → Q .normal a' w') l a) : (Code.region id l.toArray true).wp P Q a w :=
  wp_region_quiet (C := fun w' => ∃ n : Fam B w, w' = n.w) hm hB ⟨Fam.first B w, rfl⟩ (by simpa using h)
theorem fam_cell {B : Nat} {W : World} {b o : Nat} {v : Value} (h : W.cell? ⟨b, o, none⟩ = some v) (hb : b < B) : ∀ n : Fam B W, n.w.cell? ⟨b, o, none⟩ = some v :=
  fun n => (n.below.cell (p := ⟨b, o, none⟩) hb).trans h
theorem fam_box5 {w W : World} {t : TypeId} {v0 v1 v2 v3 v4 : Value} (h : w.alloc (.cells #[v0, v1, v2, v3, v4] t) = W) :
    Below w.heap.size w W ∧ w.heap.size < W.heap.size ∧ (∀ n : Fam W.heap.size W, n.w.cell? ⟨w.heap.size, 0, none⟩ = some v0) ∧ (∀ n : Fam W.heap.size W, n.w.cell? ⟨w.heap.size, 1, none⟩ = some v1) ∧
      (∀ n : Fam W.heap.size W, n.w.cell? ⟨w.heap.size, 2, none⟩ = some v2) ∧ (∀ n : Fam W.heap.size W, n.w.cell? ⟨w.heap.size, 3, none⟩ = some v3) ∧ (∀ n : Fam W.heap.size W, n.w.cell? ⟨w.heap.size, 4, none⟩ = some v4) := by
  subst h
  have hl : w.heap.size < (w.alloc (.cells #[v0, v1, v2, v3, v4] t)).heap.size := by simp
  refine ⟨(Below.refl _ _).alloc (Nat.le_refl _) _, hl, ?_, ?_, ?_, ?_, ?_⟩ <;> exact fam_cell (by simp [go_sem]) hl
theorem fam_call {P : Program} {f : FuncId} {args : Array Value} {B : Nat} {W : World} {v : Value} {n : Fam B W} (hB : B ≤ W.heap.size)
    (h : Calls P f args n.w fun e w' => e = .returned v ∧ Below n.w.heap.size n.w w') : Calls P f args n.w fun e w'' => e = .returned v ∧ ∃ m : Fam B W, w'' = m.w :=
  h.mono fun _ w' ⟨he, hb⟩ => ⟨he, ⟨w', n.below.trans (hb.mono (Nat.le_trans hB n.below.size))⟩, rfl⟩
theorem oneCell_bytes (l : List UInt8) : ∀ u ∈ l.map bv, u.oneCell' = true := by
  intro u hu
  obtain ⟨x, _, rfl⟩ := List.mem_map.1 hu
  rfl
end
section
theorem mk_own {P : Program} {w : World} {ops : Array Oper} {rest : List Oper} {o : Oper} {a : Act} {Q : Exit → Act → World → Prop} (hgd : o.guard = none) (l c : Operand) (t : TypeId)
    (ho : o.op = Op.makeSlice t l c) {e : TypeId} {size bytes : Nat} (he : Elem P t e size bytes) (kl kc : IntKind) (C : Int) (n : Nat) (hl : a.eval l = .int kl 0) (hc : a.eval c = .int kc C) (hC : C = (n : Int))
    (hn : n ≤ 100000000000) (hby : bytes ≤ 1024)
    (h : ∀ w', w'.ownsRow w.heap.size e size (.slice (some ⟨w.heap.size, 0, none⟩) 0 n) 0 [] → Below w.heap.size w w' → wpList P ops Q rest (a.put o.dst (.slice (some ⟨w.heap.size, 0, none⟩) 0 n)) w') :
    wpList P ops Q (o :: rest) a w := by
  obtain ⟨i, z, ht, hi, hz, hsize, hbytes, hzs, hpos⟩ := he
  refine wpList_make_own w hgd l c t ho w.heap.size e i z size ht hi hz hsize kl kc C n hl hc hC ?_ (by unfold maxLen; omega) (Nat.le_refl _) ?_
  · rw [hbytes]
    exact Nat.le_trans (Nat.mul_le_mul hby hn) (by omega)
  · intro w' h1 h2
    exact h w' h1 ((Below.refl _ _).grown h2 (Nat.le_refl _) (fun k hk => by cases hk))
theorem Sl.at {w : World} {B : Nat} {a : Option Addr} {n c size : Nat} {xs : List Value} (h : Sl w B a n c size xs) (hn : 0 < n * size) : ∃ b o, a = some ⟨b, o, none⟩ ∧ b < B := by
  obtain ⟨b, o, e, hb, _⟩ := h.rd.at (by rw [h.len]; exact hn)
  exact ⟨b, o, e, hb⟩
end
section
inductive D where
  | int (k : IntKind) (n : Int)
  | bool (b : Bool)
  | str (s : ByteArray)
  | raw (v : Value)
  | list (sz : Nat) (xs : List D)
  | nil (sz : Nat)
  | agg (cs : List D)
  | ref (cs : List D) (off : Nat)
  | clo (fn : Fn) (first caps : List D)
  | map (ks vs : List D)
def sysO : Obj → Bool
  | .deferred _ => true
  | .loop _ => true
  | _ => false
def Reads (w : World) (M : Nat → Nat → Prop) (a : Option Addr) (ys : List Value) : Prop :=
  ∀ j y, ys[j]? = some y → ∃ b o, a = some ⟨b, o, none⟩ ∧ ¬ M b (o + j) ∧ w.cell? ⟨b, o + j, none⟩ = some y
mutual
def RepD (w : World) (M : Nat → Nat → Prop) : D → Value → Prop
  | .int k n, v => v = .int k n
  | .bool b, v => v = .bool b
  | .str s, v => v = .string s
  | .raw x, v => v = x ∧ x.oneCell' = true
  | .nil _, v => v = .slice none 0 0
  | .list sz xs, v => ∃ (a : Option Addr) (c : Nat) (ys : List Value), v = .slice a xs.length c ∧ xs.length ≤ c ∧ c ≤ maxLen ∧ (a = none → c = 0) ∧ RepE w M sz xs ys ∧ Reads w M a ys
  | .agg cs, v => ∃ vs : List Value, v = .agg vs.toArray ∧ RepA w M cs vs
  | .ref cs off, v => ∃ (b o : Nat) (vs : List Value), v = .pointer (some ⟨b, o + off, none⟩) ∧ RepA w M cs vs ∧ Reads w M (some ⟨b, o, none⟩) vs
  | .clo fn f c, v => ∃ fs gs : List Value, v = .func fn fs.toArray gs.toArray ∧ RepA w M f fs ∧ RepA w M c gs
  | .map ks vs, v => ∃ (r : Nat) (es : Array MapEntry) (c : Nat), v = .map (some r) ∧ w.heap[r]? = some (.map es c) ∧ (∀ o, ¬ M r o) ∧ RepB w M ks (es.toList.map (·.key)) ∧ RepB w M vs (es.toList.map (·.val))
def RepA (w : World) (M : Nat → Nat → Prop) : List D → List Value → Prop
  | [], vs => vs = []
  | x :: xs, vs => ∃ (v : Value) (r : List Value), vs = v :: r ∧ v.oneCell' = true ∧ RepD w M x v ∧ RepA w M xs r
def RepB (w : World) (M : Nat → Nat → Prop) : List D → List Value → Prop
  | [], vs => vs = []
  | x :: xs, vs => ∃ (v : Value) (r : List Value), vs = v :: r ∧ RepD w M x v ∧ RepB w M xs r
def RepE (w : World) (M : Nat → Nat → Prop) (sz : Nat) : List D → List Value → Prop
  | [], vs => vs = []
  | x :: xs, vs => ∃ (v : Value) (r : List Value), vs = v.cells.toList ++ r ∧ v.cells.size = sz ∧ RepD w M x v ∧ RepE w M sz xs r
end
structure Keeps (w : World) (M : Nat → Nat → Prop) (w' : World) (M' : Nat → Nat → Prop) : Prop where
  cell : ∀ b o y, ¬ M b o → w.cell? ⟨b, o, none⟩ = some y → ¬ M' b o ∧ w'.cell? ⟨b, o, none⟩ = some y
  obj : ∀ b ob, sysO ob = false → (∀ o, ¬ M b o) → w.heap[b]? = some ob → (∀ o, ¬ M' b o) ∧ w'.heap[b]? = some ob
theorem Keeps.trans {a b c : World} {A B C : Nat → Nat → Prop} (h : Keeps a A b B) (k : Keeps b B c C) : Keeps a A c C :=
  ⟨fun x o y h1 h2 => let ⟨h3, h4⟩ := h.cell x o y h1 h2; k.cell x o y h3 h4, fun x o hs h1 h2 => let ⟨h3, h4⟩ := h.obj x o hs h1 h2; k.obj x o hs h3 h4⟩
theorem Keeps.refl (a : World) (A : Nat → Nat → Prop) : Keeps a A a A := ⟨fun _ _ _ h1 h2 => ⟨h1, h2⟩, fun _ _ _ h1 h2 => ⟨h1, h2⟩⟩
theorem Keeps.weak {a : World} {A B : Nat → Nat → Prop} (h : ∀ b o, B b o → A b o) : Keeps a A a B := ⟨fun _ _ _ h1 h2 => ⟨fun h3 => h1 (h _ _ h3), h2⟩, fun _ _ _ h1 h2 => ⟨fun o h3 => h1 o (h _ _ h3), h2⟩⟩
theorem Reads.keep {w w' : World} {M M' : Nat → Nat → Prop} (k : Keeps w M w' M') {a : Option Addr} {ys : List Value} (h : Reads w M a ys) : Reads w' M' a ys := fun j y hj => by
  obtain ⟨b, o, e, hm, hc⟩ := h j y hj
  obtain ⟨h1, h2⟩ := k.cell b (o + j) y hm hc
  exact ⟨b, o, e, h1, h2⟩
mutual
theorem RepD.keep {w w' : World} {M M' : Nat → Nat → Prop} (k : Keeps w M w' M') : ∀ (x : D) (v : Value), RepD w M x v → RepD w' M' x v
  | .int _ _, _, h => h
  | .bool _, _, h => h
  | .str _, _, h => h
  | .raw _, _, h => h
  | .nil _, _, h => h
  | .list _ xs, _, ⟨a, c, ys, h1, h2, h3, h4, h5, h6⟩ => ⟨a, c, ys, h1, h2, h3, h4, RepE.keep k _ xs ys h5, h6.keep k⟩
  | .agg cs, _, ⟨vs, h1, h2⟩ => ⟨vs, h1, RepA.keep k cs vs h2⟩
  | .ref cs _, _, ⟨b, o, vs, h1, h2, h3⟩ => ⟨b, o, vs, h1, RepA.keep k cs vs h2, h3.keep k⟩
  | .clo _ f c, _, ⟨fs, gs, h1, h2, h3⟩ => ⟨fs, gs, h1, RepA.keep k f fs h2, RepA.keep k c gs h3⟩
  | .map ks vs, _, ⟨r, es, c, h1, h2, h3, h4, h5⟩ => ⟨r, es, c, h1, (k.obj r _ rfl h3 h2).2, (k.obj r _ rfl h3 h2).1, RepB.keep k ks _ h4, RepB.keep k vs _ h5⟩
theorem RepA.keep {w w' : World} {M M' : Nat → Nat → Prop} (k : Keeps w M w' M') : ∀ (xs : List D) (vs : List Value), RepA w M xs vs → RepA w' M' xs vs
  | [], _, h => h
  | x :: xs, _, ⟨v, r, h1, h2, h3, h4⟩ => ⟨v, r, h1, h2, RepD.keep k x v h3, RepA.keep k xs r h4⟩
theorem RepB.keep {w w' : World} {M M' : Nat → Nat → Prop} (k : Keeps w M w' M') : ∀ (xs : List D) (vs : List Value), RepB w M xs vs → RepB w' M' xs vs
  | [], _, h => h
  | x :: xs, _, ⟨v, r, h1, h3, h4⟩ => ⟨v, r, h1, RepD.keep k x v h3, RepB.keep k xs r h4⟩
theorem RepE.keep {w w' : World} {M M' : Nat → Nat → Prop} (k : Keeps w M w' M') : ∀ (sz : Nat) (xs : List D) (vs : List Value), RepE w M sz xs vs → RepE w' M' sz xs vs
  | _, [], _, h => h
  | sz, x :: xs, _, ⟨v, r, h1, h2, h3, h4⟩ => ⟨v, r, h1, h2, RepD.keep k x v h3, RepE.keep k sz xs r h4⟩
end
theorem RepA.length {w : World} {M : Nat → Nat → Prop} : ∀ {xs : List D} {vs : List Value}, RepA w M xs vs → vs.length = xs.length
  | [], _, h => by simp only [RepA] at h; subst h; rfl
  | _ :: xs, _, h => by
    simp only [RepA] at h
    obtain ⟨v, r, rfl, _, _, h4⟩ := h
    simp [RepA.length h4]
theorem RepE.length {w : World} {M : Nat → Nat → Prop} {sz : Nat} : ∀ {xs : List D} {vs : List Value}, RepE w M sz xs vs → vs.length = xs.length * sz
  | [], _, h => by simp only [RepE] at h; subst h; simp
  | _ :: xs, _, h => by
    simp only [RepE] at h
    obtain ⟨v, r, rfl, h2, _, h4⟩ := h
    simp [RepE.length h4, h2, Nat.add_mul, Nat.add_comm]
theorem RepA.one {w : World} {M : Nat → Nat → Prop} : ∀ {xs : List D} {vs : List Value}, RepA w M xs vs → ∀ u ∈ vs, u.oneCell' = true
  | [], _, h, _, hu => by simp only [RepA] at h; subst h; cases hu
  | _ :: xs, _, h, u, hu => by
    simp only [RepA] at h
    obtain ⟨v, r, rfl, h2, _, h4⟩ := h
    rcases List.mem_cons.1 hu with rfl | hu
    · exact h2
    · exact RepA.one h4 u hu
theorem RepD.one {w : World} {M : Nat → Nat → Prop} {x : D} {v : Value} (h : RepD w M x v) : ∀ u ∈ v.cells.toList, u.oneCell' = true := by
  intro u hu
  cases x <;> simp only [RepD] at h
  case agg cs =>
    obtain ⟨vs, rfl, h2⟩ := h
    exact RepA.one h2 u (by simpa [Value.cells] using hu)
  case raw x => obtain ⟨rfl, h1⟩ := h; cases v <;> simp_all [Value.cells, Value.oneCell']
  case list => obtain ⟨a, c, ys, rfl, _⟩ := h; simp [Value.cells] at hu; subst hu; rfl
  case ref => obtain ⟨a, c, ys, rfl, _⟩ := h; simp [Value.cells] at hu; subst hu; rfl
  case clo => obtain ⟨a, c, rfl, _⟩ := h; simp [Value.cells] at hu; subst hu; rfl
  case map => obtain ⟨r, es, c, rfl, _⟩ := h; simp [Value.cells] at hu; subst hu; rfl
  all_goals subst h; simp [Value.cells] at hu; subst hu; rfl
theorem RepE.one {w : World} {M : Nat → Nat → Prop} {sz : Nat} : ∀ {xs : List D} {vs : List Value}, RepE w M sz xs vs → ∀ u ∈ vs, u.oneCell' = true
  | [], _, h, _, hu => by simp only [RepE] at h; subst h; cases hu
  | _ :: xs, _, h, u, hu => by
    simp only [RepE] at h
    obtain ⟨v, r, rfl, _, h3, h4⟩ := h
    rcases List.mem_append.1 hu with hu | hu
    · exact h3.one u hu
    · exact RepE.one h4 u hu
theorem RepA.get {w : World} {M : Nat → Nat → Prop} : ∀ {xs : List D} {vs : List Value}, RepA w M xs vs → ∀ {i : Nat} {x : D}, xs[i]? = some x → ∃ v, vs[i]? = some v ∧ v.oneCell' = true ∧ RepD w M x v
  | [], _, _, _, _, hx => by simp at hx
  | y :: xs, _, h, 0, x, hx => by
    simp only [RepA] at h
    obtain ⟨v, r, rfl, h2, h3, _⟩ := h
    simp at hx
    subst hx
    exact ⟨v, rfl, h2, h3⟩
  | y :: xs, _, h, i + 1, x, hx => by
    simp only [RepA] at h
    obtain ⟨v, r, rfl, h2, h3, h4⟩ := h
    simpa using RepA.get h4 (i := i) (x := x) (by simpa using hx)
theorem RepE.get {w : World} {M : Nat → Nat → Prop} {sz : Nat} : ∀ {xs : List D} {vs : List Value}, RepE w M sz xs vs → ∀ {i : Nat} {x : D}, xs[i]? = some x →
    ∃ v, RepD w M x v ∧ v.cells.size = sz ∧ ∀ j u, v.cells.toList[j]? = some u → vs[i * sz + j]? = some u
  | [], _, _, _, _, hx => by simp at hx
  | y :: xs, _, h, 0, x, hx => by
    simp only [RepE] at h
    obtain ⟨v, r, rfl, h2, h3, _⟩ := h
    simp at hx
    subst hx
    refine ⟨v, h3, h2, fun j u hu => ?_⟩
    have hj : j < v.cells.toList.length := (List.getElem?_eq_some_iff.1 hu).1
    rw [Nat.zero_mul, Nat.zero_add, List.getElem?_append_left hj]
    exact hu
  | y :: xs, _, h, i + 1, x, hx => by
    simp only [RepE] at h
    obtain ⟨v, r, rfl, h2, h3, h4⟩ := h
    obtain ⟨u, k1, k2, k3⟩ := RepE.get h4 (i := i) (x := x) (by simpa using hx)
    refine ⟨u, k1, k2, fun j t ht => ?_⟩
    rw [List.getElem?_append_right (by simp [h2, Nat.add_mul]; omega)]
    have := k3 j t ht
    rwa [show (i + 1) * sz + j - v.cells.toList.length = i * sz + j by simp [h2, Nat.add_mul]; omega]
theorem RepA.append {w : World} {M : Nat → Nat → Prop} : ∀ {xs : List D} {vs : List Value}, RepA w M xs vs → ∀ {ys : List D} {us : List Value}, RepA w M ys us → RepA w M (xs ++ ys) (vs ++ us)
  | [], _, h, _, _, h' => by simp only [RepA] at h; subst h; exact h'
  | y :: xs, _, h, _, _, h' => by
    simp only [RepA] at h
    obtain ⟨v, r, rfl, h2, h3, h4⟩ := h
    exact ⟨v, _, rfl, h2, h3, RepA.append h4 h'⟩
theorem RepE.append {w : World} {M : Nat → Nat → Prop} {sz : Nat} : ∀ {xs : List D} {vs : List Value}, RepE w M sz xs vs → ∀ {ys : List D} {us : List Value}, RepE w M sz ys us → RepE w M sz (xs ++ ys) (vs ++ us)
  | [], _, h, _, _, h' => by simp only [RepE] at h; subst h; exact h'
  | y :: xs, _, h, _, _, h' => by
    simp only [RepE] at h
    obtain ⟨v, r, rfl, h2, h3, h4⟩ := h
    exact ⟨v, _, by rw [List.append_assoc], h2, h3, RepE.append h4 h'⟩
theorem RepA.drop {w : World} {M : Nat → Nat → Prop} : ∀ (k : Nat) {xs : List D} {vs : List Value}, RepA w M xs vs → RepA w M (xs.drop k) (vs.drop k)
  | 0, _, _, h => h
  | k + 1, [], _, h => by simp only [RepA] at h; subst h; simp [RepA]
  | k + 1, y :: xs, _, h => by
    simp only [RepA] at h
    obtain ⟨v, r, rfl, _, _, h4⟩ := h
    exact RepA.drop k h4
theorem RepA.take {w : World} {M : Nat → Nat → Prop} : ∀ (k : Nat) {xs : List D} {vs : List Value}, RepA w M xs vs → RepA w M (xs.take k) (vs.take k)
  | 0, _, _, _ => by simp [RepA]
  | k + 1, [], _, h => by simp only [RepA] at h; subst h; simp [RepA]
  | k + 1, y :: xs, _, h => by
    simp only [RepA] at h
    obtain ⟨v, r, rfl, h2, h3, h4⟩ := h
    exact ⟨v, _, rfl, h2, h3, RepA.take k h4⟩
theorem RepE.drop {w : World} {M : Nat → Nat → Prop} {sz : Nat} : ∀ (k : Nat) {xs : List D} {vs : List Value}, RepE w M sz xs vs → k ≤ xs.length → RepE w M sz (xs.drop k) (vs.drop (k * sz))
  | 0, _, _, h, _ => by simpa using h
  | k + 1, [], _, h, hk => by simp at hk
  | k + 1, y :: xs, _, h, hk => by
    simp only [RepE] at h
    obtain ⟨v, r, rfl, h2, _, h4⟩ := h
    have := RepE.drop k h4 (by simpa using hk)
    have e : (v.cells.toList ++ r).drop ((k + 1) * sz) = r.drop (k * sz) := by
      have hl : v.cells.toList.length = sz := by simpa using h2
      rw [List.drop_append, List.drop_of_length_le (l := v.cells.toList) (by rw [hl, Nat.add_mul]; omega), hl, Nat.add_mul, Nat.one_mul, Nat.add_sub_cancel]
      rfl
    rw [e]
    exact this
theorem RepE.take {w : World} {M : Nat → Nat → Prop} {sz : Nat} : ∀ (k : Nat) {xs : List D} {vs : List Value}, RepE w M sz xs vs → k ≤ xs.length → RepE w M sz (xs.take k) (vs.take (k * sz))
  | 0, _, _, _, _ => by simp [RepE]
  | k + 1, [], _, h, hk => by simp at hk
  | k + 1, y :: xs, _, h, hk => by
    simp only [RepE] at h
    obtain ⟨v, r, rfl, h2, h3, h4⟩ := h
    have := RepE.take k h4 (by simpa using hk)
    refine ⟨v, _, ?_, h2, h3, this⟩
    rw [List.take_append, List.take_of_length_le (by simp [h2, Nat.add_mul])]
    simp [h2, Nat.add_mul]
theorem Reads.drop {w : World} {M : Nat → Nat → Prop} {b o : Nat} {ys : List Value} (h : Reads w M (some ⟨b, o, none⟩) ys) (k : Nat) : Reads w M (some ⟨b, o + k, none⟩) (ys.drop k) := fun j y hj => by
  rw [List.getElem?_drop] at hj
  obtain ⟨b', o', e, h1, h2⟩ := h (k + j) y hj
  cases e
  exact ⟨b, o + k, rfl, by rwa [Nat.add_assoc], by rwa [Nat.add_assoc]⟩
theorem Reads.take {w : World} {M : Nat → Nat → Prop} {a : Option Addr} {ys : List Value} (h : Reads w M a ys) (k : Nat) : Reads w M a (ys.take k) := fun j y hj => by
  rw [List.getElem?_take] at hj
  split at hj
  · exact h j y hj
  · cases hj
theorem Reads.nil (w : World) (M : Nat → Nat → Prop) (a : Option Addr) : Reads w M a [] := fun j y h => by simp at h
theorem Keeps.below {w w' : World} {M : Nat → Nat → Prop} (h : Below w.heap.size w w') : Keeps w M w' M := ⟨fun b o y h1 h2 =>
  ⟨h1, (h.cell (p := ⟨b, o, none⟩) (World.block_lt_of_cell? w ⟨b, o, none⟩ h2)).trans h2⟩, fun b ob _ h1 h2 => ⟨h1, (h.block b (Array.getElem?_eq_some_iff.1 h2).1).trans h2⟩⟩
def GlobB (w : World) (M : Nat → Nat → Prop) (g : Nat) (cs : List D) : Prop := ∃ (vs : List Value) (t : TypeId) (f : Nat × Nat), w.heap[g]? = some (.cells vs.toArray t f) ∧ (∀ o, ¬ M g o) ∧ RepA w M cs vs
theorem GlobB.keep {w w' : World} {M M' : Nat → Nat → Prop} (k : Keeps w M w' M') {g : Nat} {cs : List D} (h : GlobB w M g cs) : GlobB w' M' g cs := by
  obtain ⟨vs, t, f, h1, h2, h3⟩ := h
  obtain ⟨q1, q2⟩ := k.obj g _ rfl h2 h1
  exact ⟨vs, t, f, q2, q1, RepA.keep k _ _ h3⟩
theorem GlobB.ref {w : World} {M : Nat → Nat → Prop} {g : Nat} {cs : List D} (h : GlobB w M g cs) : RepD w M (.ref cs 0) (.pointer (some ⟨g, 0, none⟩)) := by
  obtain ⟨vs, t, f, h1, h2, h3⟩ := h
  refine ⟨g, 0, vs, rfl, h3, fun j y hy => ⟨g, 0, rfl, h2 _, ?_⟩⟩
  simp [World.cell?, h1, hy]
theorem RepB.length {w : World} {M : Nat → Nat → Prop} : ∀ {xs : List D} {vs : List Value}, RepB w M xs vs → vs.length = xs.length
  | [], _, h => by simp only [RepB] at h; subst h; rfl
  | _ :: xs, _, h => by
    simp only [RepB] at h
    obtain ⟨v, r, rfl, _, h4⟩ := h
    simp [RepB.length h4]
theorem RepB.get {w : World} {M : Nat → Nat → Prop} : ∀ {xs : List D} {vs : List Value}, RepB w M xs vs → ∀ {i : Nat} {x : D}, xs[i]? = some x → ∃ v, vs[i]? = some v ∧ RepD w M x v
  | [], _, _, _, _, hx => by simp at hx
  | y :: xs, _, h, 0, x, hx => by
    simp only [RepB] at h
    obtain ⟨v, r, rfl, h3, _⟩ := h
    simp at hx
    subst hx
    exact ⟨v, rfl, h3⟩
  | y :: xs, _, h, i + 1, x, hx => by
    simp only [RepB] at h
    obtain ⟨v, r, rfl, h3, h4⟩ := h
    simpa using RepB.get h4 (i := i) (x := x) (by simpa using hx)
theorem RepB.append {w : World} {M : Nat → Nat → Prop} : ∀ {xs : List D} {vs : List Value}, RepB w M xs vs → ∀ {ys : List D} {us : List Value}, RepB w M ys us → RepB w M (xs ++ ys) (vs ++ us)
  | [], _, h, _, _, h' => by simp only [RepB] at h; subst h; exact h'
  | y :: xs, _, h, _, _, h' => by
    simp only [RepB] at h
    obtain ⟨v, r, rfl, h3, h4⟩ := h
    exact ⟨v, _, rfl, h3, RepB.append h4 h'⟩
theorem RepB.set {w : World} {M : Nat → Nat → Prop} : ∀ {xs : List D} {vs : List Value}, RepB w M xs vs → ∀ (i : Nat) {x : D} {v : Value}, RepD w M x v → RepB w M (xs.set i x) (vs.set i v)
  | [], _, h, i, _, _, _ => by simp only [RepB] at h; subst h; simp [RepB]
  | y :: xs, _, h, 0, x, v, hx => by
    simp only [RepB] at h
    obtain ⟨u, r, rfl, h2, h3⟩ := h
    exact ⟨v, r, rfl, hx, h3⟩
  | y :: xs, _, h, i + 1, x, v, hx => by
    simp only [RepB] at h
    obtain ⟨u, r, rfl, h2, h3⟩ := h
    exact ⟨u, _, rfl, h2, RepB.set h3 i hx⟩
end
end Go.Proofs.YtjhbglklcddekaaGreatDoor
