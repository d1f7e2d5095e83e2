/- Parts: Base, Base2, Mix, Mix2, Mix4, Mix3, Base3. -/
import Derived.WalkKit
import Derived.WalkSpells
import Derived.WalkLawsBesides
import Derived.Lib.Hide
import Derived.Laws.AppendOwnNone
import Derived.OwnWalkIn
import Derived.Deep.QuietTactic
import Derived.BigQuiet
import Derived.TacticsInMore
import Derived.OrdersIn
import Derived.Maps.AppendAt
set_option linter.all false
set_option linter.unusedVariables false
set_option linter.unusedSimpArgs false
namespace Go.Proofs.YtcblefmjacofgaaGreatDoor
open Go.RowKit
abbrev bv (x : UInt8) : Value := .int .u8 (x.toNat : Int)
def Rd (w : World) (B : Nat) (a : Option Addr) (xs : List Value) : Prop :=
  ∀ j x, xs[j]? = some x → ∃ b o, a = some ⟨b, o, none⟩ ∧ b < B ∧ w.cell? ⟨b, o + j, none⟩ = some x
theorem Rd.nil (w : World) (B : Nat) (a : Option Addr) : Rd w B a [] := by intro j x h; simp at h
theorem Rd.below {w w' : World} {B B' : Nat} {a : Option Addr} {xs : List Value} (h : Rd w B a xs) (hb : Below B' w w') (hB : B ≤ B') : Rd w' B a xs := by
  intro j x hx
  obtain ⟨b, o, e, hlt, hc⟩ := h j x hx
  exact ⟨b, o, e, hlt, (hb.cell (p := ⟨b, o + j, none⟩) (by show b < B'; omega)).trans hc⟩
theorem Rd.mono {w : World} {B B' : Nat} {a : Option Addr} {xs : List Value} (h : Rd w B a xs) (hB : B ≤ B') : Rd w B' a xs := by
  intro j x hx
  obtain ⟨b, o, e, hlt, hc⟩ := h j x hx
  exact ⟨b, o, e, by omega, hc⟩
theorem Rd.size {w : World} {B : Nat} {a : Option Addr} {xs : List Value} (h : Rd w B a xs) : Rd w w.heap.size a xs := by
  intro j x hx
  obtain ⟨b, o, e, hlt, hc⟩ := h j x hx
  exact ⟨b, o, e, World.block_lt_of_cell? w ⟨b, o + j, none⟩ hc, hc⟩
theorem Rd.at {w : World} {B : Nat} {a : Option Addr} {xs : List Value} (h : Rd w B a xs) (hne : 0 < xs.length) :
    ∃ b o, a = some ⟨b, o, none⟩ ∧ b < B ∧ ∀ j x, xs[j]? = some x → w.cell? ⟨b, o + j, none⟩ = some x := by
  obtain ⟨b, o, e, hlt, _⟩ := h 0 xs[0] (by simp [hne])
  refine ⟨b, o, e, hlt, fun j x hx => ?_⟩
  obtain ⟨b', o', e', _, hc⟩ := h j x hx
  rw [e] at e'
  cases e'
  exact hc
theorem Rd.of_owns {w : World} {base : Nat} {e : TypeId} {size : Nat} {a : Option Addr} {n c : Nat} {xs : List Value}
    (h : w.ownsRow base e size (.slice a n c) n xs) : Rd w w.heap.size a xs := by
  intro j x hx
  rcases h.2 with ⟨hv, hn⟩ | ⟨g, cap, cur, hv, _⟩
  · have hl := h.1
    subst hn
    simp at hl
    subst hl
    simp at hx
  · simp at hv
    obtain ⟨rfl, rfl⟩ := hv
    have hc := h.cells (g := g) (by simp [Value.ownBlock]) j x hx
    have ha : (⟨g, 0, none⟩ : Addr).add j = ⟨g, 0 + j, none⟩ := by unfold Addr.add; split <;> simp_all
    rw [ha] at hc
    exact ⟨g, 0, rfl, World.block_lt_of_cell? w ⟨g, 0 + j, none⟩ hc, hc⟩
theorem owns_shape {w : World} {base : Nat} {e : TypeId} {size : Nat} {v : Value} {n : Nat} {xs : List Value}
    (h : w.ownsRow base e size v n xs) : ∃ a c, v = .slice a n c ∧ n ≤ c ∧ c ≤ maxLen ∧ (a = none → c = 0) := by
  rcases h.2 with ⟨rfl, rfl⟩ | ⟨g, cap, cur, rfl, _, _, h1, h2, _⟩
  · exact ⟨none, 0, rfl, Nat.le_refl _, Nat.zero_le _, fun _ => rfl⟩
  · exact ⟨_, cap, rfl, h1, h2, fun h => by cases h⟩
theorem Rd.drop {w : World} {B : Nat} {b o : Nat} {xs : List Value} (h : Rd w B (some ⟨b, o, none⟩) xs) (k : Nat) : Rd w B (some ⟨b, o + k, none⟩) (xs.drop k) := by
  intro j x hx
  rw [List.getElem?_drop] at hx
  obtain ⟨b', o', e, hlt, hc⟩ := h (k + j) x hx
  cases e
  exact ⟨b, o + k, rfl, hlt, by rw [Nat.add_assoc]; exact hc⟩
theorem Rd.take {w : World} {B : Nat} {a : Option Addr} {xs : List Value} (h : Rd w B a xs) (k : Nat) : Rd w B a (xs.take k) := by
  intro j x hx
  refine h j x ?_
  rw [List.getElem?_take] at hx
  split at hx
  · exact hx
  · cases hx
theorem rd_byte {w : World} {b o : Nat} {l : List UInt8} (h : ∀ j x, (l.map bv)[j]? = some x → w.cell? ⟨b, o + j, none⟩ = some x) (k : Nat) (hk : k < l.length) :
    w.cell? ⟨b, o + k, none⟩ = some (bv l[k]) := h k _ (by simp [hk])
theorem Rd.byte {w : World} {B : Nat} {a : Option Addr} {l : List UInt8} (h : Rd w B a (l.map bv)) (k : Nat) (hk : k < l.length) :
    ∃ b o, a = some ⟨b, o, none⟩ ∧ b < B ∧ w.cell? ⟨b, o + k, none⟩ = some (bv l[k]) := h k _ (by simp [hk])
structure Sl (w : World) (B : Nat) (a : Option Addr) (n c size : Nat) (xs : List Value) : Prop where
  len : xs.length = n * size
  rd : Rd w B a xs
  cap : n ≤ c
  max : c ≤ maxLen
  nil : a = none → c = 0
theorem Sl.below {w w' : World} {B B' : Nat} {a : Option Addr} {n c size : Nat} {xs : List Value} (h : Sl w B a n c size xs) (hb : Below B' w w') (hB : B ≤ B') : Sl w' B a n c size xs :=
  ⟨h.len, h.rd.below hb hB, h.cap, h.max, h.nil⟩
theorem Sl.mono {w : World} {B B' : Nat} {a : Option Addr} {n c size : Nat} {xs : List Value} (h : Sl w B a n c size xs) (hB : B ≤ B') : Sl w B' a n c size xs :=
  ⟨h.len, h.rd.mono hB, h.cap, h.max, h.nil⟩
theorem Sl.size {w : World} {B : Nat} {a : Option Addr} {n c size : Nat} {xs : List Value} (h : Sl w B a n c size xs) : Sl w w.heap.size a n c size xs :=
  ⟨h.len, h.rd.size, h.cap, h.max, h.nil⟩
theorem Sl.later {w w' : World} {B : Nat} {a : Option Addr} {n c size : Nat} {xs : List Value} (h : Sl w B a n c size xs) (hb : Below w.heap.size w w') : Sl w' w'.heap.size a n c size xs :=
  ((h.size).below hb (Nat.le_refl _)).mono hb.size
theorem Sl.of_nil (w : World) (B size : Nat) : Sl w B none 0 0 size [] := ⟨by simp, Rd.nil _ _ _, Nat.le_refl _, Nat.zero_le _, fun _ => rfl⟩
theorem Sl.of_owns {w : World} {base : Nat} {e : TypeId} {size : Nat} {a : Option Addr} {n c : Nat} {xs : List Value}
    (h : w.ownsRow base e size (.slice a n c) n xs) : Sl w w.heap.size a n c size xs := by
  refine ⟨h.1, Rd.of_owns h, ?_, ?_, ?_⟩ <;>
  · rcases h.2 with ⟨hv, hn⟩ | ⟨g, cap, cur, hv, _, _, h1, h2, _⟩ <;> simp at hv <;> obtain ⟨rfl, h'⟩ := hv <;> simp_all
theorem owns_at {w : World} {base : Nat} {e : TypeId} {size : Nat} {a : Option Addr} {n c : Nat} {xs : List Value}
    (h : w.ownsRow base e size (.slice a n c) n xs) (hn : 0 < n) : ∃ g, a = some ⟨g, 0, none⟩ ∧ base ≤ g ∧ n ≤ c ∧ c ≤ maxLen := by
  rcases h.2 with ⟨hv, hn'⟩ | ⟨g, cap, cur, hv, hb, _, h1, h2, _⟩
  · omega
  · simp at hv
    obtain ⟨rfl, rfl⟩ := hv
    exact ⟨g, rfl, hb, h1, h2⟩
def Elem (P : Program) (t e : TypeId) (size bytes : Nat) : Prop :=
  ∃ i z, P.underlying t = some (.slice e) ∧ P.info? e = some i ∧ i.zero = some z ∧ i.size = size ∧ i.bytes = bytes ∧ z.cells.size = size ∧ 0 < size
theorem elem_mk {P : Program} {t e : TypeId} {z : Value} {size bytes : Nat} (h : (P.info? e).map (fun i => (i.zero, i.size, i.bytes)) = some (some z, size, bytes))
    (ht : P.underlying t = some (.slice e)) (hz : z.cells.size = size) (h0 : 0 < size) : Elem P t e size bytes := by
  obtain ⟨i, h1, h2, h3, h4⟩ := info_parts h
  exact ⟨i, z, ht, h1, h2, h3, h4, hz, h0⟩
theorem sl_new (w : World) (xs : List Value) (e : TypeId) (n size : Nat) (h : xs.length = n * size) (hm : n ≤ maxLen) :
    Sl (w.alloc (.cells xs.toArray e)) (w.heap.size + 1) (some ⟨w.heap.size, 0, none⟩) n n size xs := by
  refine ⟨h, ?_, Nat.le_refl _, hm, fun h => by cases h⟩
  intro j x hx
  refine ⟨w.heap.size, 0, rfl, Nat.lt_succ_self _, ?_⟩
  rw [Nat.zero_add, cell_of_row _ w.heap.size j xs.toArray e (0, 0) (heap_alloc_new w _)]
  simpa using hx
theorem Sl.from {w : World} {B b o n c size : Nat} {xs : List Value} (h : Sl w B (some ⟨b, o, none⟩) n c size xs) (k : Nat) (hk : k ≤ n) :
    Sl w B (some ⟨b, o + k * size, none⟩) (n - k) (c - k) size (xs.drop (k * size)) := by
  refine ⟨?_, h.rd.drop _, by have := h.cap; omega, by have := h.max; omega, fun h => by cases h⟩
  rw [List.length_drop, h.len, Nat.sub_mul]
theorem Sl.from1 {w : World} {B b o n c : Nat} {xs : List Value} (h : Sl w B (some ⟨b, o, none⟩) n c 1 xs) (k : Nat) (hk : k ≤ n) :
    Sl w B (some ⟨b, o + k, none⟩) (n - k) (c - k) 1 (xs.drop k) := by
  have := h.from k hk
  rwa [Nat.mul_one] at this
theorem Sl.upto {w : World} {B n c size : Nat} {a : Option Addr} {xs : List Value} (h : Sl w B a n c size xs) (k : Nat) (hk : k ≤ n) :
    Sl w B a k c size (xs.take (k * size)) := by
  refine ⟨?_, h.rd.take _, by have := h.cap; omega, h.max, h.nil⟩
  rw [List.length_take, h.len]
  exact Nat.min_eq_left (Nat.mul_le_mul_right _ hk)
theorem Sl.upto1 {w : World} {B n c : Nat} {a : Option Addr} {xs : List Value} (h : Sl w B a n c 1 xs) (k : Nat) (hk : k ≤ n) :
    Sl w B a k c 1 (xs.take k) := by
  have := h.upto k hk
  rwa [Nat.mul_one] at this
theorem owns_later {w w' : World} {base : Nat} {e : TypeId} {size : Nat} {v : Value} {n : Nat} {xs : List Value} (h : w.ownsRow base e size v n xs) {B : Nat} (hb : Below B w w') (hB : w.heap.size ≤ B) : w'.ownsRow base e size v n xs := by
  refine ⟨h.1, ?_⟩
  rcases h.2 with h2 | ⟨g, cap, cur, hv, hg, hh, r⟩
  · exact .inl h2
  · exact .inr ⟨g, cap, cur, hv, hg, by rw [hb.block g (Nat.lt_of_lt_of_le (Array.getElem?_eq_some_iff.1 hh).1 hB)]; exact hh, r⟩
theorem owns_mono {w : World} {base base' : Nat} {e : TypeId} {size : Nat} {v : Value} {n : Nat} {xs : List Value} (h : w.ownsRow base e size v n xs) (hB : base' ≤ base) : w.ownsRow base' e size v n xs := by
  refine ⟨h.1, ?_⟩
  rcases h.2 with h2 | ⟨g, cap, cur, hv, hg, hh, r⟩
  · exact .inl h2
  · exact .inr ⟨g, cap, cur, hv, Nat.le_trans hB hg, hh, r⟩
theorem owns_new (w : World) (xs : List Value) (e : TypeId) (n size base : Nat) (h : xs.length = n * size) (hm : n ≤ maxLen) (hb : base ≤ w.heap.size) :
    (w.alloc (.cells xs.toArray e)).ownsRow base e size (.slice (some ⟨w.heap.size, 0, none⟩) n n) n xs :=
  ⟨h, .inr ⟨w.heap.size, n, xs.toArray, rfl, hb, heap_alloc_new w _, Nat.le_refl _, hm, by simpa using h, by simp [← h]⟩⟩
theorem grown_below {w w' : World} {base : Nat} {e : TypeId} {size : Nat} {v : Value} {n : Nat} {xs : List Value} (hown : w.ownsRow base e size v n xs) (hb : base ≤ w.heap.size)
    (hg : w.grownBy w' v.ownBlock) : Below base w w' :=
  (Below.refl base w).grown hg hb (fun k hk => (hown.lt k hk).1)
theorem app_own {P : Program} {w : World} {ops : Array Oper} {rest : List Oper} {o : Oper} {a : Act} {Q : Exit → Act → World → Prop} (hgd : o.guard = none) (s x : Operand) (t : TypeId)
    (ho : o.op = .call { callee := .builtin .append, args := #[s, x], argTypes := #[t, t] })
    {e : TypeId} {size bytes : Nat} (he : Elem P t e size bytes)
    {base : Nat} {va : Option Addr} {n c : Nat} {xs : List Value} (hs : a.eval s = .slice va n c) (hown : w.ownsRow base e size (.slice va n c) n xs)
    {B : Nat} {xa : Option Addr} {m xc : Nat} {news : List Value} (hx : a.eval x = .slice xa m xc) (hsl : Sl w B xa m xc size news) (h1 : ∀ u ∈ news, u.oneCell' = true)
    (h63 : n + m ≤ 1000000000000) (hby : bytes ≤ 128) (hbase : base ≤ w.heap.size)
    (h : ∀ a' c' w', w'.ownsRow base e size (.slice a' (n + m) c') (n + m) (xs ++ news) → w.grownBy w' (Value.slice va n c).ownBlock → Below base w w' → wpList P ops Q rest (a.put o.dst (.slice a' (n + m) c')) w') :
    wpList P ops Q (o :: rest) a w := by
  obtain ⟨i, z, ht, hi, hz, hsize, hbytes, hzs, hpos⟩ := he
  have hbound : (n + m) * bytes ≤ 140737488355328 := Nat.le_trans (Nat.mul_le_mul h63 hby) (by omega)
  cases xa with
  | none =>
    have hc0 := hsl.nil rfl
    have hm0 : m = 0 := by have := hsl.cap; omega
    subst hm0; subst hc0
    have hn0 : news = [] := List.eq_nil_of_length_eq_zero (by have := hsl.len; omega)
    subst hn0
    refine wpList_append_own_none hgd s x t ho base e i size ht hi _ n xs hs hown hx ?_
    have := h va c w (by simpa using hown) ⟨rfl, rfl, rfl, Nat.le_refl _, fun _ _ _ => rfl⟩ (Below.refl _ _)
    simpa using this
  | some ad =>
    refine wpList_append_own w hgd s x t ho base e i z size bytes ht hi hz hsize hbytes hzs hpos _ n xs hs hown ad m xc news hx hsl.len ?_ h1 (by unfold maxLen; omega) hbound hbase ?_
    · intro j u hu
      obtain ⟨b, o', e', _, hc⟩ := hsl.rd j u hu
      cases e'
      have ha : (⟨b, o', none⟩ : Addr).add j = ⟨b, o' + j, none⟩ := by unfold Addr.add; split <;> simp_all
      rw [ha]
      exact hc
    · intro v' w' hown' hg _
      obtain ⟨a', c', rfl, _⟩ := owns_shape hown'
      exact h a' c' w' hown' hg (grown_below hown hbase hg)
theorem bbox {b j : Nat} {w w' : World} {x : Value} (h : Below (b + 1) w w') (hc : w.cell? ⟨b, j, none⟩ = some x) : w'.cell? ⟨b, j, none⟩ = some x :=
  (h.cell (p := ⟨b, j, none⟩) (Nat.lt_succ_self _)).trans hc
theorem conv_bytes {P : Program} {w : World} {B : Nat} {a : Option Addr} {n c : Nat} {l : List UInt8} (h : Sl w B a n c 1 (l.map bv)) (src dst e : TypeId)
    (hs : P.underlying src = some (.slice e)) (he : P.underlying e = some (.int .u8)) (hd : P.underlying dst = some .string) :
    (convert src dst (.slice a n c)).run P w = .ok (.string ⟨l.toArray⟩) w := by
  have hn : l.length = n := by have := h.len; simpa using this
  subst hn
  cases a with
  | none =>
    have h1 := h.nil rfl
    have h2 := h.cap
    have : l = [] := List.eq_nil_of_length_eq_zero (by omega)
    subst this
    exact run_convert_bytes_nil w src e hs he _ _ dst hd
  | some ad =>
    refine run_convert_bytes_back w src dst e ad c l hs he hd fun j hj => ?_
    obtain ⟨b, o, e', _, hc⟩ := h.rd.byte j hj
    cases e'
    have ha : (⟨b, o, none⟩ : Addr).add j = ⟨b, o + j, none⟩ := by unfold Addr.add; split <;> simp_all
    rw [ha]
    exact hc
structure Fam (B : Nat) (W : World) where
  w : World
  below : Below B W w
def Fam.first (B : Nat) (W : World) : Fam B W := ⟨W.drew, (Below.refl _ _).drew⟩
instance fam_nonempty (B : Nat) (W : World) : Nonempty (Fam B W) := ⟨Fam.first B W⟩
theorem wp_region_fam {P : Program} {id : Nat} {Q : Exit → Act → World → Prop} {a : Act} {w : World} {l : List Oper} (B : Nat) (hm : P.follows .mixedOrders = true) (hB : Region.lexB .any l.toArray = true)
    (h : wpQuiet P l.toArray (fun w' => ∃ n : Fam B w, w' = n.w) (fun a' => ∀ w', (∃ n : Fam B w, w' = n.w) → Q .normal a' w') l a) : (Code.region id l.toArray true).wp P Q a w :=
  wp_region_quiet (C := fun w' => ∃ n : Fam B w, w' = n.w) hm hB ⟨Fam.first B w, rfl⟩ (by simpa using h)
theorem fam_cell {B : Nat} {W : World} {b o : Nat} {v : Value} (h : W.cell? ⟨b, o, none⟩ = some v) (hb : b < B) : ∀ n : Fam B W, n.w.cell? ⟨b, o, none⟩ = some v :=
  fun n => (n.below.cell (p := ⟨b, o, none⟩) hb).trans h
theorem fam_box5 {w W : World} {t : TypeId} {v0 v1 v2 v3 v4 : Value} (h : w.alloc (.cells #[v0, v1, v2, v3, v4] t) = W) :
    Below w.heap.size w W ∧ w.heap.size < W.heap.size ∧ (∀ n : Fam W.heap.size W, n.w.cell? ⟨w.heap.size, 0, none⟩ = some v0) ∧ (∀ n : Fam W.heap.size W, n.w.cell? ⟨w.heap.size, 1, none⟩ = some v1) ∧
      (∀ n : Fam W.heap.size W, n.w.cell? ⟨w.heap.size, 2, none⟩ = some v2) ∧ (∀ n : Fam W.heap.size W, n.w.cell? ⟨w.heap.size, 3, none⟩ = some v3) ∧ (∀ n : Fam W.heap.size W, n.w.cell? ⟨w.heap.size, 4, none⟩ = some v4) := by
  subst h
  have hl : w.heap.size < (w.alloc (.cells #[v0, v1, v2, v3, v4] t)).heap.size := by simp
  refine ⟨(Below.refl _ _).alloc (Nat.le_refl _) _, hl, ?_, ?_, ?_, ?_, ?_⟩ <;> exact fam_cell (by simp [go_sem]) hl
theorem fam_call {P : Program} {f : FuncId} {args : Array Value} {B : Nat} {W : World} {v : Value} {n : Fam B W} (hB : B ≤ W.heap.size)
    (h : Calls P f args n.w fun e w' => e = .returned v ∧ Below n.w.heap.size n.w w') : Calls P f args n.w fun e w'' => e = .returned v ∧ ∃ m : Fam B W, w'' = m.w :=
  h.mono fun _ w' ⟨he, hb⟩ => ⟨he, ⟨w', n.below.trans (hb.mono (Nat.le_trans hB n.below.size))⟩, rfl⟩
theorem oneCell_bytes (l : List UInt8) : ∀ u ∈ l.map bv, u.oneCell' = true := by
  intro u hu
  obtain ⟨x, _, rfl⟩ := List.mem_map.1 hu
  rfl
end Go.Proofs.YtcblefmjacofgaaGreatDoor
namespace Go.Proofs.YtcblefmjacofgaaGreatDoor
open Go.RowKit
theorem mk_own {P : Program} {w : World} {ops : Array Oper} {rest : List Oper} {o : Oper} {a : Act} {Q : Exit → Act → World → Prop} (hgd : o.guard = none) (l c : Operand) (t : TypeId)
    (ho : o.op = Op.makeSlice t l c) {e : TypeId} {size bytes : Nat} (he : Elem P t e size bytes) (kl kc : IntKind) (C : Int) (n : Nat) (hl : a.eval l = .int kl 0) (hc : a.eval c = .int kc C) (hC : C = (n : Int))
    (hn : n ≤ 1000000000000) (hby : bytes ≤ 128)
    (h : ∀ w', w'.ownsRow w.heap.size e size (.slice (some ⟨w.heap.size, 0, none⟩) 0 n) 0 [] → Below w.heap.size w w' → wpList P ops Q rest (a.put o.dst (.slice (some ⟨w.heap.size, 0, none⟩) 0 n)) w') :
    wpList P ops Q (o :: rest) a w := by
  obtain ⟨i, z, ht, hi, hz, hsize, hbytes, hzs, hpos⟩ := he
  refine wpList_make_own w hgd l c t ho w.heap.size e i z size ht hi hz hsize kl kc C n hl hc hC ?_ (by unfold maxLen; omega) (Nat.le_refl _) ?_
  · rw [hbytes]
    exact Nat.le_trans (Nat.mul_le_mul hby hn) (by omega)
  · intro w' h1 h2
    exact h w' h1 ((Below.refl _ _).grown h2 (Nat.le_refl _) (fun k hk => by cases hk))
theorem Sl.at {w : World} {B : Nat} {a : Option Addr} {n c size : Nat} {xs : List Value} (h : Sl w B a n c size xs) (hn : 0 < n * size) : ∃ b o, a = some ⟨b, o, none⟩ ∧ b < B := by
  obtain ⟨b, o, e, hb, _⟩ := h.rd.at (by rw [h.len]; exact hn)
  exact ⟨b, o, e, hb⟩
end Go.Proofs.YtcblefmjacofgaaGreatDoor
namespace Go.Proofs.YtcblefmjacofgaaGreatDoor
open Go.RowKit
def Grows (w w' : World) : Prop := Below w.heap.size w w'
theorem Grows.refl (w : World) : Grows w w := Below.refl _ _
theorem Grows.trans {a b c : World} (h : Grows a b) (k : Grows b c) : Grows a c := Below.trans h (Below.mono k h.size)
theorem Grows.drew (w : World) : Grows w w.drew := (Below.refl _ _).drew
theorem Grows.alloc (w : World) (o : Obj) : Grows w (w.alloc o) := (Below.refl _ _).alloc (Nat.le_refl _) _
structure Late (W : World) where
  w : World
  grows : Grows W w
def Late.first (w : World) : Late w := ⟨w, Grows.refl w⟩
instance late_nonempty (w : World) : Nonempty (Late w) := ⟨Late.first w⟩
section
variable {P : Program} {ops : Array Oper} {Q : Exit → Act → World → Prop} {md : Region.Mode}
def opG (P : Program) (ops : Array Oper) (Q : Exit → Act → World → Prop) (i : Nat) (K : Act → World → Prop) (a : Act) (w : World) : Prop :=
  match ops[i]? with
  | none => K a w
  | some o => if Region.wanted o (yielded ops a.tmps) = true then o.wp P a w K Q else K (a.put o.dst undef) w
theorem opG_mono {i : Nat} {K K' : Act → World → Prop} {a : Act} {w : World} (h : ∀ a w, K a w → K' a w) (hh : opG P ops Q i K a w) : opG P ops Q i K' a w := by
  unfold opG at *
  split
  · rename_i ho; simp only [ho] at hh; exact h _ _ hh
  · rename_i o ho
    simp only [ho] at hh
    split
    · rename_i hw; rw [if_pos hw] at hh; exact Oper.wp_mono h hh
    · rename_i hw; rw [if_neg hw] at hh; exact h _ _ hh
def AnyG (P : Program) (md : Region.Mode) (ops : Array Oper) (Q : Exit → Act → World → Prop) (bar : Nat → Bool) : Nat → Array Bool → Act → World → Prop
  | 0, listed, a, w => ∀ w', Grows w w' → Region.ready md ops listed = [] ∧ Q .normal a w'
  | f + 1, listed, a, w => ∀ w', Grows w w' → (Region.ready md ops listed = [] → Q .normal a w') ∧
      ∀ i ∈ Region.ready md ops listed, opG P ops Q i (fun a' w'' => (bar i = false → Grows w' w'') ∧ AnyG P md ops Q bar f (listed.setIfInBounds i true) a' w'') a w'
theorem AnyG.up {bar : Nat → Bool} {f : Nat} {listed : Array Bool} {a : Act} {w w' : World} (h : AnyG P md ops Q bar f listed a w) (hg : Grows w w') : AnyG P md ops Q bar f listed a w' := by
  cases f with
  | zero => exact fun w2 h2 => h w2 (hg.trans h2)
  | succ f => exact fun w2 h2 => h w2 (hg.trans h2)
theorem AnyG.any {bar : Nat → Bool} : ∀ (f : Nat) (listed : Array Bool) (a : Act) (w : World), AnyG P md ops Q bar f listed a w → wpAny P md ops Q f listed a w := by
  intro f
  induction f with
  | zero => intro listed a w h; exact h w (Grows.refl w)
  | succ f ih =>
    intro listed a w h
    obtain ⟨h1, h2⟩ := h w (Grows.refl w)
    refine ⟨h1, fun i hi => ?_⟩
    have h3 := h2 i hi
    unfold opG at h3
    unfold wpOp
    split
    · rename_i ho; simp only [ho] at h3; exact ih _ _ _ h3.2
    · rename_i o ho
      simp only [ho] at h3
      split
      · rename_i hw; rw [if_pos hw] at h3; exact .inl (Oper.wp_mono (fun a w h => ih _ _ _ h.2) h3)
      · rename_i hw; rw [if_neg hw] at h3; exact ih _ _ _ h3.2
def YieldsG (P : Program) (ops : Array Oper) (o : Oper) (v : Value) (a : Act) (w : World) : Prop :=
  (Region.wanted o (yielded ops a.tmps) = true ∧ ∀ w', Grows w w' → Oper.quietUpon P (Grows w') w' v ((execOp a.eval o).run P w')) ∨
  (Region.wanted o (yielded ops a.tmps) = false ∧ v = undef)
theorem YieldsG.up {o : Oper} {v : Value} {a : Act} {w w' : World} (h : YieldsG P ops o v a w) (hg : Grows w w') : YieldsG P ops o v a w' :=
  h.imp (fun ⟨h1, h2⟩ => ⟨h1, fun w2 g => h2 w2 (hg.trans g)⟩) id
theorem YieldsG.of_same {o : Oper} {v : Value} {a a' : Act} {w : World} (hy : YieldsG P ops o v a w) (he : execOp a'.eval o = execOp a.eval o)
    (hw : Region.wanted o (yielded ops a'.tmps) = Region.wanted o (yielded ops a.tmps)) : YieldsG P ops o v a' w := by
  unfold YieldsG at *
  rw [he, hw]
  exact hy
theorem YieldsG.opG {i : Nat} {o : Oper} {v : Value} {a : Act} {w w' : World} (hi : ops[i]? = some o) (hy : YieldsG P ops o v a w) (hg : Grows w w') {K : Act → World → Prop}
    (h : ∀ w'', Grows w' w'' → K (a.put o.dst v) w'') : opG P ops Q i K a w' := by
  unfold Go.Proofs.YtcblefmjacofgaaGreatDoor.opG
  simp only [hi]
  rcases hy with ⟨hw, hv⟩ | ⟨hw, rfl⟩
  · rw [if_pos hw]
    have h3 := hv w' hg
    unfold Oper.wp
    generalize (execOp a.eval o).run P w' = r at *
    cases r with
    | ok x w2 =>
      cases x <;> simp only [Oper.quietUpon] at h3 <;> simp only [Oper.upon]
      case value u => obtain ⟨rfl, rfl⟩ := h3; exact h _ (Grows.refl _)
      case skip => obtain ⟨rfl, rfl⟩ := h3; exact h _ (Grows.refl _)
      case enter f args =>
        obtain ⟨rfl, hc⟩ := h3
        exact hc.mono fun e w3 ⟨he, hg3⟩ => by subst he; exact h _ hg3
    | halt x w2 => simp only [Oper.quietUpon] at h3
  · rw [if_neg (by rw [hw]; decide)]
    exact h _ (Grows.refl _)
theorem opG_put {j : Nat} {oi oj : Oper} {v : Value} (hj : ops[j]? = some oj) (hap : oi.apart ops oj = true)
    (hsi : ∀ cs b, oi.op ≠ .select cs b) (hsj : ∀ cs b, oj.op ≠ .select cs b)
    (hQ : ∀ c a w, Q (.panic c) (a.put oi.dst v) w → Q (.panic c) a w) {K : Act → World → Prop} {a : Act} {w w0 : World}
    (hy : YieldsG P ops oi v a w0) (h : opG P ops Q j K (a.put oi.dst v) w) :
    opG P ops Q j (fun a' w' => YieldsG P ops oi v a' w0 ∧ K (a'.put oi.dst v) w') a w := by
  obtain ⟨h1, h2, h3⟩ := Oper.apart_spec hap
  have keep : ∀ (b : Act), YieldsG P ops oi v b w0 → ∀ u, YieldsG P ops oi v (b.put oj.dst u) w0 := fun b hb u =>
    hb.of_same (execOp_put oi hsi b oj.dst u h3) (wanted_put oi b oj.dst u h3)
  unfold opG at *
  simp only [hj] at *
  rw [wanted_put oj a oi.dst v h1] at h
  split
  · rename_i hw
    rw [if_pos hw] at h
    unfold Oper.wp at *
    rw [execOp_put oj hsj a oi.dst v h1] at h
    generalize (execOp a.eval oj).run P w = r at *
    cases r with
    | ok x w' =>
      cases x <;> simp only [Oper.upon] at h ⊢
      case value u => exact ⟨keep a hy u, by rw [← Act.put_comm a v u h2]; exact h⟩
      case skip => exact ⟨keep a hy _, by rw [← Act.put_comm a v undef h2]; exact h⟩
      case defer d =>
        refine ⟨keep { a with defers := d :: a.defers } (hy.of_same rfl rfl) _, ?_⟩
        rw [← Act.put_comm _ v undef h2, ← Act.put_defers]
        exact h
      case enter f args =>
        refine Calls.mono h fun e w'' he => ?_
        cases e with
        | returned u => exact ⟨keep a hy u, by rw [← Act.put_comm a v u h2]; exact he⟩
        | panicked c => exact hQ _ _ _ he
        | outgrown => exact he
      case row row args => exact Rows.mono h fun u w'' he => ⟨keep a hy u, by rw [← Act.put_comm a v u h2]; exact he⟩
    | halt x w' =>
      cases x <;> simp only [Oper.upon] at h ⊢
      case panic u => exact hQ _ _ _ h
  · rename_i hw
    rw [if_neg hw] at h
    exact ⟨keep a hy _, by rw [← Act.put_comm a v undef h2]; exact h⟩
theorem AnyG.first {bar : Nat → Bool} {i : Nat} {oi : Oper} {v : Value} (hi : ops[i]? = some oi) (hsel : ∀ (j : Nat) (o : Oper) cs b, ops[j]? = some o → o.op ≠ .select cs b)
    (hQ : ∀ c a w, Q (.panic c) (a.put oi.dst v) w → Q (.panic c) a w)
    (hbar : ∀ j oj, ops[j]? = some oj → bar j = true → ∃ e ∈ oj.after, Region.binds md e = true ∧ e.on = i) :
    ∀ (f : Nat) (listed : Array Bool) (a : Act) (w : World),
      (∀ j oj, ops[j]? = some oj → j ≠ i → listed.getD j true = false → (∀ e ∈ oj.after, Region.binds md e = true → e.on ≠ i) → oi.apart ops oj = true) →
      i ∈ Region.ready md ops listed → YieldsG P ops oi v a w →
      AnyG P md ops Q bar f (listed.setIfInBounds i true) (a.put oi.dst v) w → AnyG P md ops Q bar (f + 1) listed a w := by
  intro f
  induction f with
  | zero =>
    intro listed a w _ hr hy H w' hg
    refine ⟨fun h => (by rw [h] at hr; cases hr), fun j hj => ?_⟩
    by_cases hji : j = i
    · subst hji
      exact hy.opG hi hg fun w'' g => ⟨fun _ => g, H.up (hg.trans g)⟩
    · have := ready_mono hj hji
      rw [(H w' hg).1] at this
      cases this
  | succ f ih =>
    intro listed a w hfree hr hy H w' hg
    refine ⟨fun h => (by rw [h] at hr; cases hr), fun j hj => ?_⟩
    by_cases hji : j = i
    · subst hji
      exact hy.opG hi hg fun w'' g => ⟨fun _ => g, H.up (hg.trans g)⟩
    · obtain ⟨hjun, oj, hoj, hall⟩ := mem_ready.1 hj
      have hnot : ∀ e ∈ oj.after, Region.binds md e = true → e.on ≠ i := fun e he hb heq => by
        have h1 := hall e he hb
        have h0 := (mem_ready.1 hr).1
        rw [heq] at h1
        rcases Nat.lt_or_ge i listed.size with h' | h'
        · simp [h'] at h0 h1; rw [h0] at h1; cases h1
        · simp [Array.getElem?_eq_none h'] at h1
      have hbj : bar j = false := by
        cases hb : bar j with
        | false => rfl
        | true =>
          obtain ⟨e, he, hb1, hb2⟩ := hbar j oj hoj hb
          exact absurd hb2 (hnot e he hb1)
      have h1 := (H w' hg).2 j (ready_mono hj hji)
      have h2 := opG_put hoj (hfree j oj hoj hji hjun hnot) (fun cs b => hsel i oi cs b hi) (fun cs b => hsel j oj cs b hoj) hQ hy h1
      have hfree' : ∀ k ok, ops[k]? = some ok → k ≠ i → (listed.setIfInBounds j true).getD k true = false →
          (∀ e ∈ ok.after, Region.binds md e = true → e.on ≠ i) → oi.apart ops ok = true := fun k ok hk hki hun hno => by
        refine hfree k ok hk hki ?_ hno
        by_cases hjk : j = k
        · subst hjk; exact hjun
        · rw [getD_set_ne true hjk] at hun; exact hun
      refine opG_mono (fun a' w'' h3 => ⟨fun _ => h3.2.1 hbj, ih (listed.setIfInBounds j true) a' w'' hfree' (ready_mono hr (Ne.symm hji)) (h3.1.up (hg.trans (h3.2.1 hbj))) ?_⟩) h2
      rw [Array.setIfInBounds_comm _ _ hji]
      exact h3.2.2
inductive Way where
  | quiet
  | grow
  | bar
def wpMix (P : Program) (ops : Array Oper) (Q : Exit → Act → World → Prop) : List (Oper × Way) → Act → World → Prop
  | [], a, w => ∀ n : Late w, Q .normal a n.w
  | (o, .quiet) :: rest, a, w =>
    if Region.wanted o (yielded ops a.tmps) = true then ∃ v, (∀ n : Late w, Oper.quietUpon P (Grows n.w) n.w v ((execOp a.eval o).run P n.w)) ∧ wpMix P ops Q rest (a.put o.dst v) w
    else wpMix P ops Q rest (a.put o.dst undef) w
  | (o, .grow) :: rest, a, w => ∀ n : Late w,
    if Region.wanted o (yielded ops a.tmps) = true then o.wp P a n.w (fun a' w' => Grows n.w w' ∧ wpMix P ops Q rest a' w') Q else wpMix P ops Q rest (a.put o.dst undef) n.w
  | (o, .bar) :: rest, a, w => ∀ n : Late w,
    if Region.wanted o (yielded ops a.tmps) = true then o.wp P a n.w (fun a' w' => wpMix P ops Q rest a' w') Q else wpMix P ops Q rest (a.put o.dst undef) n.w
def mixOk (md : Region.Mode) (ops : Array Oper) (bars : List Nat) : Array Bool → List (Nat × Way) → Bool
  | listed, [] => (Region.ready md ops listed).isEmpty
  | listed, (i, .quiet) :: rest => (Region.ready md ops listed).contains i && Region.free md ops listed i &&
      bars.all (fun j => match ops[j]? with | some oj => oj.after.any (fun e => Region.binds md e && e.on == i) | none => false) && mixOk md ops bars (listed.setIfInBounds i true) rest
  | listed, (i, .grow) :: rest => (Region.ready md ops listed == [i]) && !bars.contains i && mixOk md ops bars (listed.setIfInBounds i true) rest
  | listed, (i, .bar) :: rest => (Region.ready md ops listed == [i]) && bars.contains i && mixOk md ops bars (listed.setIfInBounds i true) rest
def planOps (ops : Array Oper) : List (Nat × Way) → List (Oper × Way)
  | [] => []
  | (i, x) :: rest => match ops[i]? with
    | some o => (o, x) :: planOps ops rest
    | none => []
theorem anyG_of_mix (bars : List Nat) (hs : Region.noSelect ops = true) (hQ : ∀ c (a : Act) d v w, Q (.panic c) (a.put d v) w → Q (.panic c) a w) :
    ∀ (plan : List (Nat × Way)) (listed : Array Bool) (a : Act) (w : World), mixOk md ops bars listed plan = true → wpMix P ops Q (planOps ops plan) a w →
      AnyG P md ops Q (fun j => bars.contains j) plan.length listed a w := by
  intro plan
  induction plan with
  | nil =>
    intro listed a w h0 h w' hg
    exact ⟨by simpa [mixOk] using h0, h ⟨w', hg⟩⟩
  | cons p rest ih =>
    intro listed a w h0 h
    obtain ⟨i, x⟩ := p
    cases x with
    | quiet =>
      simp only [mixOk, Bool.and_eq_true] at h0
      obtain ⟨⟨⟨hr, hf⟩, hb⟩, h0⟩ := h0
      have hr : i ∈ Region.ready md ops listed := by simpa using hr
      obtain ⟨_, o, ho, _⟩ := mem_ready.1 hr
      simp only [planOps, ho, wpMix] at h
      have hbar : ∀ j oj, ops[j]? = some oj → bars.contains j = true → ∃ e ∈ oj.after, Region.binds md e = true ∧ e.on = i := by
        intro j oj hoj hj
        have := List.all_eq_true.1 hb j (by simpa using hj)
        simp only [hoj, Array.any_eq_true'] at this
        obtain ⟨e, he, h2⟩ := this
        simp only [Bool.and_eq_true, beq_iff_eq] at h2
        exact ⟨e, he, h2.1, h2.2⟩
      by_cases hw : Region.wanted o (yielded ops a.tmps) = true
      · rw [if_pos hw] at h
        obtain ⟨v, hv, h⟩ := h
        exact AnyG.first ho (Region.noSelect_spec hs) (fun c a w => hQ c a o.dst v w) hbar _ listed a w (Region.free_spec ho hf) hr (.inl ⟨hw, fun w' g => hv ⟨w', g⟩⟩) (ih _ _ _ h0 h)
      · rw [if_neg hw] at h
        exact AnyG.first ho (Region.noSelect_spec hs) (fun c a w => hQ c a o.dst undef w) hbar _ listed a w (Region.free_spec ho hf) hr (.inr ⟨by simpa using hw, rfl⟩) (ih _ _ _ h0 h)
    | grow =>
      simp only [mixOk, Bool.and_eq_true, beq_iff_eq] at h0
      obtain ⟨⟨hr, hnb⟩, h0⟩ := h0
      intro w' hg
      refine ⟨fun h1 => (by rw [h1] at hr; cases hr), fun j hj => ?_⟩
      rw [hr] at hj
      obtain rfl : j = i := by simpa using hj
      have hr' : j ∈ Region.ready md ops listed := by rw [hr]; simp
      obtain ⟨_, o, ho, _⟩ := mem_ready.1 hr'
      simp only [planOps, ho, wpMix] at h
      have h1 := h ⟨w', hg⟩
      unfold opG
      simp only [ho]
      split
      · rename_i hw
        rw [if_pos hw] at h1
        exact Oper.wp_mono (fun a2 w2 h2 => ⟨fun _ => h2.1, ih _ _ _ h0 h2.2⟩) h1
      · rename_i hw
        rw [if_neg hw] at h1
        exact ⟨fun _ => Grows.refl _, ih _ _ _ h0 h1⟩
    | bar =>
      simp only [mixOk, Bool.and_eq_true, beq_iff_eq] at h0
      obtain ⟨⟨hr, hnb⟩, h0⟩ := h0
      intro w' hg
      refine ⟨fun h1 => (by rw [h1] at hr; cases hr), fun j hj => ?_⟩
      rw [hr] at hj
      obtain rfl : j = i := by simpa using hj
      have hr' : j ∈ Region.ready md ops listed := by rw [hr]; simp
      obtain ⟨_, o, ho, _⟩ := mem_ready.1 hr'
      simp only [planOps, ho, wpMix] at h
      have h1 := h ⟨w', hg⟩
      unfold opG
      simp only [ho]
      split
      · rename_i hw
        rw [if_pos hw] at h1
        exact Oper.wp_mono (fun a2 w2 h2 => ⟨fun hb => (by rw [hnb] at hb; cases hb), ih _ _ _ h0 h2⟩) h1
      · rename_i hw
        rw [if_neg hw] at h1
        exact ⟨fun hb => (by rw [hnb] at hb; cases hb), ih _ _ _ h0 h1⟩
theorem wp_region_mix {id : Nat} {a : Act} {w : World} (bars : List Nat) (plan : List (Nat × Way)) (hm : P.follows .mixedOrders = true) (hs : Region.noSelect ops = true) (hl : plan.length = ops.size)
    (hB : mixOk .any ops bars (Array.replicate ops.size false) plan = true) (hQ : ∀ c (a : Act) d v w, Q (.panic c) (a.put d v) w → Q (.panic c) a w)
    (h : wpMix P ops Q (planOps ops plan) a w) : (Code.region id ops true).wp P Q a w := by
  refine wp_region_any hm ?_
  have h1 := anyG_of_mix (md := .any) bars hs hQ plan _ a w hB h
  rw [hl] at h1
  exact (h1.up (Grows.drew w)).any
def noDefer (ops : Array Oper) : Bool := ops.all fun o => match o.op with | .defer _ => false | _ => true
theorem noDefer_spec {ops : Array Oper} (h : noDefer ops = true) {i : Nat} {o : Oper} (ho : ops[i]? = some o) (c : Call) : o.op ≠ .defer c := by
  intro heq
  have := Array.all_eq_true_iff_forall_mem.1 h o (Array.mem_of_getElem? ho)
  simp [heq] at this
theorem wpIn_round_of_wp {o : Oper} {a : Act} {w : World} {K : Act → World → Prop} {l n : Nat} (hd : ∀ c, o.op ≠ .defer c) (h : o.wp P a w K Q) : o.wpIn (Fence.wide.inRound l) n P a w K Q := by
  unfold Oper.wp at h
  refine ⟨fun _ _ => trivial, ?_⟩
  rw [Oper.semAt_eq _ _ _ hd]
  generalize (execOp a.eval o).run P w = r at *
  cases r with
  | ok x w' =>
    cases x <;> simp only [Oper.upon] at h <;> simp only [Oper.uponIn]
    case value v => exact h
    case skip => exact h
    case defer d => exact h
    case enter f args => exact ⟨fun hx => by simp [Fence.wide] at hx, callsIn_wide.2 h⟩
    case row row args =>
      refine ⟨fun hx => by simp [Fence.wide] at hx, fun c cs _ => ?_⟩
      obtain ⟨v, w'', h1, h2⟩ := h c cs
      exact ⟨v, w'', h1, stepsIn_wide.2 h2⟩
  | halt x w' => cases x <;> simp only [Oper.upon] at h <;> simp only [Oper.uponIn] <;> exact h
theorem AnyG.anyIn {bar : Nat → Bool} {l n : Nat} (hd : noDefer ops = true) : ∀ (f : Nat) (listed : Array Bool) (a : Act) (w : World), AnyG P md ops Q bar f listed a w →
    wpAnyIn (Fence.wide.inRound l) n P md ops Q f listed a w := by
  intro f
  induction f with
  | zero => intro listed a w h; exact h w (Grows.refl w)
  | succ f ih =>
    intro listed a w h
    obtain ⟨h1, h2⟩ := h w (Grows.refl w)
    refine ⟨h1, fun i hi => ?_⟩
    have h3 := h2 i hi
    unfold opG at h3
    unfold wpOpIn
    split
    · rename_i ho; simp only [ho] at h3; exact ih _ _ _ h3.2
    · rename_i o ho
      simp only [ho] at h3
      split
      · rename_i hw; rw [if_pos hw] at h3; exact wpIn_round_of_wp (noDefer_spec hd ho) (Oper.wp_mono (fun a w h => ih _ _ _ h.2) h3)
      · rename_i hw; rw [if_neg hw] at h3; exact ⟨fun _ _ => trivial, ih _ _ _ h3.2⟩
theorem wpIn_region_mix {id : Nat} {a : Act} {w : World} {l n : Nat} (bars : List Nat) (plan : List (Nat × Way)) (hm : P.follows .mixedOrders = true) (hs : Region.noSelect ops = true) (hd : noDefer ops = true) (hl : plan.length = ops.size)
    (hB : mixOk .any ops bars (Array.replicate ops.size false) plan = true) (hQ : ∀ c (a : Act) d v w, Q (.panic c) (a.put d v) w → Q (.panic c) a w)
    (h : wpMix P ops Q (planOps ops plan) a w) : (Code.region id ops true).wpIn (Fence.wide.inRound l) n P Q a w := by
  refine wpIn_region_any hm ?_
  have h1 := anyG_of_mix (md := .any) bars hs hQ plan _ a w hB h
  rw [hl] at h1
  exact (h1.up (Grows.drew w)).anyIn hd _ _ _ _
end
theorem late_cell {W : World} {b o : Nat} {v : Value} (h : W.cell? ⟨b, o, none⟩ = some v) : ∀ n : Late W, n.w.cell? ⟨b, o, none⟩ = some v :=
  fun n => (n.grows.cell (p := ⟨b, o, none⟩) (World.block_lt_of_cell? W _ h)).trans h
theorem late_new_frozen {W : World} {xs : Array Value} {t : TypeId} : ∀ (n : Late (W.alloc (.cells xs t))) (j : Nat), n.w.frozen? ⟨W.heap.size, j, none⟩ = false :=
  fun n j => (n.grows.frozen (p := ⟨W.heap.size, j, none⟩) (by simp)).trans (frozen_of_row _ W.heap.size j xs t (heap_alloc_new W _))
theorem late_new_cell {W : World} {xs : List Value} {t : TypeId} {j : Nat} {v : Value} (h : xs[j]? = some v) : ∀ (n : Late (W.alloc (.cells xs.toArray t))), n.w.cell? ⟨W.heap.size, j, none⟩ = some v :=
  late_cell (by rw [cell_of_row _ W.heap.size j xs.toArray t (0, 0) (heap_alloc_new W _)]; simpa using h)
theorem Sl.late {W : World} {B : Nat} {a : Option Addr} {n c size : Nat} {xs : List Value} (h : Sl W B a n c size xs) (m : Late W) : Sl m.w m.w.heap.size a n c size xs := h.later m.grows
theorem toG {P : Program} {f : FuncId} {args : Array Value} {w : World} {v : Value} (h : Calls P f args w fun e w' => e = .returned v ∧ Below w.heap.size w w') : Calls P f args w fun e w' => e = .returned v ∧ Grows w w' := h
section
variable {P : Program} {ops : Array Oper} {Q : Exit → Act → World → Prop} {o : Oper} {rest : List (Oper × Way)} {a : Act} {w : World}
theorem mix_quiet (h : ∀ K : Act → Prop, (∀ a, wpMix P ops Q rest a w → K a) →
    if Region.wanted o (yielded ops a.tmps) = true then ∃ v, (∀ n : Late w, Oper.quietUpon P (Grows n.w) n.w v ((execOp a.eval o).run P n.w)) ∧ K (a.put o.dst v) else K (a.put o.dst undef)) :
    wpMix P ops Q ((o, .quiet) :: rest) a w := h _ fun _ h => h
theorem mix_grow (h : ∀ n : Late w, ∀ K : Act → World → Prop, (∀ a w', Grows n.w w' → wpMix P ops Q rest a w' → K a w') →
    if Region.wanted o (yielded ops a.tmps) = true then o.wp P a n.w K Q else K (a.put o.dst undef) n.w) :
    wpMix P ops Q ((o, .grow) :: rest) a w := fun n => by
  have := h n (fun a' w' => Grows n.w w' ∧ wpMix P ops Q rest a' w') (fun _ _ g h => ⟨g, h⟩)
  split
  · rename_i hw; rw [if_pos hw] at this; exact this
  · rename_i hw; rw [if_neg hw] at this; exact this.2
theorem mix_bar (h : ∀ n : Late w, ∀ K : Act → World → Prop, (∀ a w', wpMix P ops Q rest a w' → K a w') →
    if Region.wanted o (yielded ops a.tmps) = true then o.wp P a n.w K Q else K (a.put o.dst undef) n.w) :
    wpMix P ops Q ((o, .bar) :: rest) a w := fun n => h n _ (fun _ _ h => h)
theorem mix_nil (h : ∀ n : Late w, Q .normal a n.w) : wpMix P ops Q [] a w := h
end
end Go.Proofs.YtcblefmjacofgaaGreatDoor
namespace Go.Proofs.YtcblefmjacofgaaGreatDoor
open Go.RowKit
section
variable {P : Program} {ops : Array Oper} {Q : Exit → Act → World → Prop} {md : Region.Mode}
theorem AnyG.first2 {bar : Nat → Bool} {i : Nat} {oi : Oper} {v : Value} (hi : ops[i]? = some oi) (hsel : ∀ (j : Nat) (o : Oper) cs b, ops[j]? = some o → o.op ≠ .select cs b)
    (hQ : ∀ c a w, Q (.panic c) (a.put oi.dst v) w → Q (.panic c) a w)
    (D : Nat → Bool) (hD : ∀ k ok, ops[k]? = some ok → D k = true → ∃ e ∈ ok.after, Region.binds md e = true ∧ (e.on = i ∨ D e.on = true)) (hbar : ∀ j, bar j = true → D j = true) :
    ∀ (f : Nat) (listed : Array Bool) (a : Act) (w : World),
      (∀ j oj, ops[j]? = some oj → j ≠ i → listed.getD j true = false → (∀ e ∈ oj.after, Region.binds md e = true → e.on ≠ i) → oi.apart ops oj = true) →
      (∀ k, D k = true → listed.getD k true = false) → i ∈ Region.ready md ops listed → YieldsG P ops oi v a w →
      AnyG P md ops Q bar f (listed.setIfInBounds i true) (a.put oi.dst v) w → AnyG P md ops Q bar (f + 1) listed a w := by
  intro f
  induction f with
  | zero =>
    intro listed a w _ _ hr hy H w' hg
    refine ⟨fun h => (by rw [h] at hr; cases hr), fun j hj => ?_⟩
    by_cases hji : j = i
    · subst hji
      exact hy.opG hi hg fun w'' g => ⟨fun _ => g, H.up (hg.trans g)⟩
    · have := ready_mono hj hji
      rw [(H w' hg).1] at this
      cases this
  | succ f ih =>
    intro listed a w hfree hun0 hr hy H w' hg
    refine ⟨fun h => (by rw [h] at hr; cases hr), fun j hj => ?_⟩
    by_cases hji : j = i
    · subst hji
      exact hy.opG hi hg fun w'' g => ⟨fun _ => g, H.up (hg.trans g)⟩
    · obtain ⟨hjun, oj, hoj, hall⟩ := mem_ready.1 hj
      have hnot : ∀ e ∈ oj.after, Region.binds md e = true → e.on ≠ i := fun e he hb heq => by
        have h1 := hall e he hb
        have h0 := (mem_ready.1 hr).1
        rw [heq] at h1
        rcases Nat.lt_or_ge i listed.size with h' | h'
        · simp [h'] at h0 h1; rw [h0] at h1; cases h1
        · simp [Array.getElem?_eq_none h'] at h1
      have hDj : D j = false := by
        cases hb : D j with
        | false => rfl
        | true =>
          obtain ⟨e, he, hb1, hb2⟩ := hD j oj hoj hb
          rcases hb2 with hb2 | hb2
          · exact absurd hb2 (hnot e he hb1)
          · have h1 := hall e he hb1
            have h2 := hun0 _ hb2
            rcases Nat.lt_or_ge e.on listed.size with h' | h'
            · simp [h'] at h1 h2; rw [h2] at h1; cases h1
            · simp [Array.getElem?_eq_none h'] at h1
      have hbj : bar j = false := by
        cases hb : bar j with
        | false => rfl
        | true => rw [hbar j hb] at hDj; cases hDj
      have h1 := (H w' hg).2 j (ready_mono hj hji)
      have h2 := opG_put hoj (hfree j oj hoj hji hjun hnot) (fun cs b => hsel i oi cs b hi) (fun cs b => hsel j oj cs b hoj) hQ hy h1
      have hfree' : ∀ k ok, ops[k]? = some ok → k ≠ i → (listed.setIfInBounds j true).getD k true = false →
          (∀ e ∈ ok.after, Region.binds md e = true → e.on ≠ i) → oi.apart ops ok = true := fun k ok hk hki hun hno => by
        refine hfree k ok hk hki ?_ hno
        by_cases hjk : j = k
        · subst hjk; exact hjun
        · rw [getD_set_ne true hjk] at hun; exact hun
      refine opG_mono (fun a' w'' h3 => ⟨fun _ => h3.2.1 hbj, ih (listed.setIfInBounds j true) a' w'' hfree' (fun k hk => by
        rw [getD_set_ne true (show j ≠ k by rintro rfl; rw [hDj] at hk; cases hk)]
        exact hun0 k hk) (ready_mono hr (Ne.symm hji)) (h3.1.up (hg.trans (h3.2.1 hbj))) ?_⟩) h2
      rw [Array.setIfInBounds_comm _ _ hji]
      exact h3.2.2
def waits (md : Region.Mode) (ops : Array Oper) (i : Nat) : List (Nat × Way) → List Nat → List Nat
  | [], D => D
  | (k, _) :: rest, D => waits md ops i rest (match ops[k]? with
    | some ok => if ok.after.any (fun e => Region.binds md e && (e.on == i || D.contains e.on)) then k :: D else D
    | none => D)
def waitOk (md : Region.Mode) (ops : Array Oper) (bars : List Nat) (listed : Array Bool) (i : Nat) (D : List Nat) : Bool :=
  D.all (fun k => match ops[k]? with
    | some ok => ok.after.any (fun e => Region.binds md e && (e.on == i || D.contains e.on))
    | none => false) && D.all (fun k => !listed.getD k true) && bars.all (fun j => D.contains j)
def mixOk2 (md : Region.Mode) (ops : Array Oper) (bars : List Nat) : Array Bool → List (Nat × Way) → Bool
  | listed, [] => (Region.ready md ops listed).isEmpty
  | listed, (i, .quiet) :: rest => (Region.ready md ops listed).contains i && Region.free md ops listed i &&
      (waitOk md ops bars listed i (waits md ops i rest [])) && mixOk2 md ops bars (listed.setIfInBounds i true) rest
  | listed, (i, .grow) :: rest => (Region.ready md ops listed == [i]) && !bars.contains i && mixOk2 md ops bars (listed.setIfInBounds i true) rest
  | listed, (i, .bar) :: rest => (Region.ready md ops listed == [i]) && bars.contains i && mixOk2 md ops bars (listed.setIfInBounds i true) rest
theorem waitOk_spec {md : Region.Mode} {ops : Array Oper} {bars : List Nat} {listed : Array Bool} {i : Nat} {D : List Nat} (h : waitOk md ops bars listed i D = true) :
    (∀ k ok, ops[k]? = some ok → D.contains k = true → ∃ e ∈ ok.after, Region.binds md e = true ∧ (e.on = i ∨ D.contains e.on = true)) ∧ (∀ k, D.contains k = true → listed.getD k true = false) ∧ (∀ j, bars.contains j = true → D.contains j = true) := by
  simp only [waitOk, Bool.and_eq_true, List.all_eq_true] at h
  obtain ⟨⟨h1, h2⟩, h3⟩ := h
  refine ⟨fun k ok hk hD => ?_, fun k hD => by simpa using h2 k (by simpa using hD), fun j hj => h3 j (by simpa using hj)⟩
  have := h1 k (by simpa using hD)
  simp only [hk, Array.any_eq_true'] at this
  obtain ⟨e, he, h4⟩ := this
  simp only [Bool.and_eq_true, Bool.or_eq_true, beq_iff_eq] at h4
  exact ⟨e, he, h4.1, h4.2⟩
theorem anyG_of_mix2 (bars : List Nat) (hs : Region.noSelect ops = true) (hQ : ∀ c (a : Act) d v w, Q (.panic c) (a.put d v) w → Q (.panic c) a w) :
    ∀ (plan : List (Nat × Way)) (listed : Array Bool) (a : Act) (w : World), mixOk2 md ops bars listed plan = true → wpMix P ops Q (planOps ops plan) a w →
      AnyG P md ops Q (fun j => bars.contains j) plan.length listed a w := by
  intro plan
  induction plan with
  | nil =>
    intro listed a w h0 h w' hg
    exact ⟨by simpa [mixOk2] using h0, h ⟨w', hg⟩⟩
  | cons p rest ih =>
    intro listed a w h0 h
    obtain ⟨i, x⟩ := p
    cases x with
    | quiet =>
      simp only [mixOk2, Bool.and_eq_true] at h0
      obtain ⟨⟨⟨hr, hf⟩, hb⟩, h0⟩ := h0
      have hr : i ∈ Region.ready md ops listed := by simpa using hr
      obtain ⟨_, o, ho, _⟩ := mem_ready.1 hr
      simp only [planOps, ho, wpMix] at h
      obtain ⟨hD, hU, hb⟩ := waitOk_spec hb
      by_cases hw : Region.wanted o (yielded ops a.tmps) = true
      · rw [if_pos hw] at h
        obtain ⟨v, hv, h⟩ := h
        exact AnyG.first2 ho (Region.noSelect_spec hs) (fun c a w => hQ c a o.dst v w) (fun k => (waits md ops i rest []).contains k) hD hb _ listed a w (Region.free_spec ho hf) hU hr (.inl ⟨hw, fun w' g => hv ⟨w', g⟩⟩) (ih _ _ _ h0 h)
      · rw [if_neg hw] at h
        exact AnyG.first2 ho (Region.noSelect_spec hs) (fun c a w => hQ c a o.dst undef w) (fun k => (waits md ops i rest []).contains k) hD hb _ listed a w (Region.free_spec ho hf) hU hr (.inr ⟨by simpa using hw, rfl⟩) (ih _ _ _ h0 h)
    | grow =>
      simp only [mixOk2, Bool.and_eq_true, beq_iff_eq] at h0
      obtain ⟨⟨hr, hnb⟩, h0⟩ := h0
      intro w' hg
      refine ⟨fun h1 => (by rw [h1] at hr; cases hr), fun j hj => ?_⟩
      rw [hr] at hj
      obtain rfl : j = i := by simpa using hj
      have hr' : j ∈ Region.ready md ops listed := by rw [hr]; simp
      obtain ⟨_, o, ho, _⟩ := mem_ready.1 hr'
      simp only [planOps, ho, wpMix] at h
      have h1 := h ⟨w', hg⟩
      unfold opG
      simp only [ho]
      split
      · rename_i hw
        rw [if_pos hw] at h1
        exact Oper.wp_mono (fun a2 w2 h2 => ⟨fun _ => h2.1, ih _ _ _ h0 h2.2⟩) h1
      · rename_i hw
        rw [if_neg hw] at h1
        exact ⟨fun _ => Grows.refl _, ih _ _ _ h0 h1⟩
    | bar =>
      simp only [mixOk2, Bool.and_eq_true, beq_iff_eq] at h0
      obtain ⟨⟨hr, hnb⟩, h0⟩ := h0
      intro w' hg
      refine ⟨fun h1 => (by rw [h1] at hr; cases hr), fun j hj => ?_⟩
      rw [hr] at hj
      obtain rfl : j = i := by simpa using hj
      have hr' : j ∈ Region.ready md ops listed := by rw [hr]; simp
      obtain ⟨_, o, ho, _⟩ := mem_ready.1 hr'
      simp only [planOps, ho, wpMix] at h
      have h1 := h ⟨w', hg⟩
      unfold opG
      simp only [ho]
      split
      · rename_i hw
        rw [if_pos hw] at h1
        exact Oper.wp_mono (fun a2 w2 h2 => ⟨fun hb => (by rw [hnb] at hb; cases hb), ih _ _ _ h0 h2⟩) h1
      · rename_i hw
        rw [if_neg hw] at h1
        exact ⟨fun hb => (by rw [hnb] at hb; cases hb), ih _ _ _ h0 h1⟩
theorem wp_region_mix2 {id : Nat} {a : Act} {w : World} (bars : List Nat) (plan : List (Nat × Way)) (hm : P.follows .mixedOrders = true) (hs : Region.noSelect ops = true) (hl : plan.length = ops.size)
    (hB : mixOk2 .any ops bars (Array.replicate ops.size false) plan = true) (hQ : ∀ c (a : Act) d v w, Q (.panic c) (a.put d v) w → Q (.panic c) a w)
    (h : wpMix P ops Q (planOps ops plan) a w) : (Code.region id ops true).wp P Q a w := by
  refine wp_region_any hm ?_
  have h1 := anyG_of_mix2 (md := .any) bars hs hQ plan _ a w hB h
  rw [hl] at h1
  exact (h1.up (Grows.drew w)).any
theorem wpIn_region_mix2 {id : Nat} {a : Act} {w : World} {l n : Nat} (bars : List Nat) (plan : List (Nat × Way)) (hm : P.follows .mixedOrders = true) (hs : Region.noSelect ops = true) (hd : noDefer ops = true) (hl : plan.length = ops.size)
    (hB : mixOk2 .any ops bars (Array.replicate ops.size false) plan = true) (hQ : ∀ c (a : Act) d v w, Q (.panic c) (a.put d v) w → Q (.panic c) a w)
    (h : wpMix P ops Q (planOps ops plan) a w) : (Code.region id ops true).wpIn (Fence.wide.inRound l) n P Q a w := by
  refine wpIn_region_any hm ?_
  have h1 := anyG_of_mix2 (md := .any) bars hs hQ plan _ a w hB h
  rw [hl] at h1
  exact (h1.up (Grows.drew w)).anyIn hd _ _ _ _
end
end Go.Proofs.YtcblefmjacofgaaGreatDoor
namespace Go.Proofs.YtcblefmjacofgaaGreatDoor
open Go.RowKit
section
variable {P : Program} {ops : Array Oper} {Q : Exit → Act → World → Prop} {md : Region.Mode}
def YieldsJ (P : Program) (ops : Array Oper) (J : World → Prop) (o : Oper) (v : Value) (a : Act) : Prop :=
  (Region.wanted o (yielded ops a.tmps) = true ∧ ∀ w', J w' → (execOp a.eval o).run P w' = .ok (.value v) w') ∨
  (Region.wanted o (yielded ops a.tmps) = false ∧ v = undef)
theorem YieldsJ.of_same {J : World → Prop} {o : Oper} {v : Value} {a a' : Act} (hy : YieldsJ P ops J o v a) (he : execOp a'.eval o = execOp a.eval o)
    (hw : Region.wanted o (yielded ops a'.tmps) = Region.wanted o (yielded ops a.tmps)) : YieldsJ P ops J o v a' := by
  unfold YieldsJ at *
  rw [he, hw]
  exact hy
theorem YieldsJ.opG {J : World → Prop} {i : Nat} {o : Oper} {v : Value} {a : Act} {w' : World} (hi : ops[i]? = some o) (hy : YieldsJ P ops J o v a) (hJ : J w') {K : Act → World → Prop} (h : K (a.put o.dst v) w') : opG P ops Q i K a w' := by
  unfold Go.Proofs.YtcblefmjacofgaaGreatDoor.opG
  simp only [hi]
  rcases hy with ⟨hw, hv⟩ | ⟨hw, rfl⟩
  · rw [if_pos hw]
    unfold Oper.wp
    rw [hv w' hJ]
    exact h
  · rw [if_neg (by rw [hw]; decide)]
    exact h
theorem opJ_put {J : World → Prop} {j : Nat} {oi oj : Oper} {v : Value} (hj : ops[j]? = some oj) (hap : oi.apart ops oj = true)
    (hsi : ∀ cs b, oi.op ≠ .select cs b) (hsj : ∀ cs b, oj.op ≠ .select cs b)
    (hQ : ∀ c a w, Q (.panic c) (a.put oi.dst v) w → Q (.panic c) a w) {K : Act → World → Prop} {a : Act} {w : World}
    (hy : YieldsJ P ops J oi v a) (h : opG P ops Q j K (a.put oi.dst v) w) :
    opG P ops Q j (fun a' w' => YieldsJ P ops J oi v a' ∧ K (a'.put oi.dst v) w') a w := by
  obtain ⟨h1, h2, h3⟩ := Oper.apart_spec hap
  have keep : ∀ (b : Act), YieldsJ P ops J oi v b → ∀ u, YieldsJ P ops J oi v (b.put oj.dst u) := fun b hb u =>
    hb.of_same (execOp_put oi hsi b oj.dst u h3) (wanted_put oi b oj.dst u h3)
  unfold opG at *
  simp only [hj] at *
  rw [wanted_put oj a oi.dst v h1] at h
  split
  · rename_i hw
    rw [if_pos hw] at h
    unfold Oper.wp at *
    rw [execOp_put oj hsj a oi.dst v h1] at h
    generalize (execOp a.eval oj).run P w = r at *
    cases r with
    | ok x w' =>
      cases x <;> simp only [Oper.upon] at h ⊢
      case value u => exact ⟨keep a hy u, by rw [← Act.put_comm a v u h2]; exact h⟩
      case skip => exact ⟨keep a hy _, by rw [← Act.put_comm a v undef h2]; exact h⟩
      case defer d =>
        refine ⟨keep { a with defers := d :: a.defers } (hy.of_same rfl rfl) _, ?_⟩
        rw [← Act.put_comm _ v undef h2, ← Act.put_defers]
        exact h
      case enter f args =>
        refine Calls.mono h fun e w'' he => ?_
        cases e with
        | returned u => exact ⟨keep a hy u, by rw [← Act.put_comm a v u h2]; exact he⟩
        | panicked c => exact hQ _ _ _ he
        | outgrown => exact he
      case row row args => exact Rows.mono h fun u w'' he => ⟨keep a hy u, by rw [← Act.put_comm a v u h2]; exact he⟩
    | halt x w' =>
      cases x <;> simp only [Oper.upon] at h ⊢
      case panic u => exact hQ _ _ _ h
  · rename_i hw
    rw [if_neg hw] at h
    exact ⟨keep a hy _, by rw [← Act.put_comm a v undef h2]; exact h⟩
def AnyJ (P : Program) (md : Region.Mode) (ops : Array Oper) (Q : Exit → Act → World → Prop) (bar : Nat → Bool) (J : World → Prop) : Nat → Array Bool → Act → World → Prop
  | 0, listed, a, w => ∀ w', Grows w w' → Region.ready md ops listed = [] ∧ Q .normal a w'
  | f + 1, listed, a, w => ∀ w', Grows w w' → (Region.ready md ops listed = [] → Q .normal a w') ∧
      ∀ i ∈ Region.ready md ops listed, opG P ops Q i (fun a' w'' => (bar i = false → Grows w' w'') ∧ J w'' ∧ AnyJ P md ops Q bar J f (listed.setIfInBounds i true) a' w'') a w'
theorem AnyJ.up {bar : Nat → Bool} {J : World → Prop} {f : Nat} {listed : Array Bool} {a : Act} {w w' : World} (h : AnyJ P md ops Q bar J f listed a w) (hg : Grows w w') : AnyJ P md ops Q bar J f listed a w' := by
  cases f with
  | zero => exact fun w2 h2 => h w2 (hg.trans h2)
  | succ f => exact fun w2 h2 => h w2 (hg.trans h2)
theorem AnyJ.mono {bar : Nat → Bool} {J J' : World → Prop} (hJ : ∀ w, J w → J' w) : ∀ (f : Nat) (listed : Array Bool) (a : Act) (w : World), AnyJ P md ops Q bar J f listed a w → AnyJ P md ops Q bar J' f listed a w
  | 0, _, _, _, h => h
  | f + 1, _, _, _, h => fun w' hg => ⟨(h w' hg).1, fun i hi => opG_mono (fun _ _ h3 => ⟨h3.1, hJ _ h3.2.1, AnyJ.mono hJ f _ _ _ h3.2.2⟩) ((h w' hg).2 i hi)⟩
theorem AnyJ.any {bar : Nat → Bool} {J : World → Prop} : ∀ (f : Nat) (listed : Array Bool) (a : Act) (w : World), AnyJ P md ops Q bar J f listed a w → AnyG P md ops Q bar f listed a w
  | 0, _, _, _, h => h
  | f + 1, _, _, _, h => fun w' hg => ⟨(h w' hg).1, fun i hi => opG_mono (fun _ _ h3 => ⟨h3.1, AnyJ.any f _ _ _ h3.2.2⟩) ((h w' hg).2 i hi)⟩
theorem AnyJ.first {bar : Nat → Bool} {J J' : World → Prop} (sJ : ∀ w w', Grows w w' → J w → J w') (sJ' : ∀ w w', Grows w w' → J' w → J' w') {i : Nat} {oi : Oper} {v : Value} (hi : ops[i]? = some oi) (hsel : ∀ (j : Nat) (o : Oper) cs b, ops[j]? = some o → o.op ≠ .select cs b)
    (hQ : ∀ c a w, Q (.panic c) (a.put oi.dst v) w → Q (.panic c) a w) :
    ∀ (f : Nat) (listed : Array Bool) (a : Act) (w : World),
      (∀ j oj, ops[j]? = some oj → j ≠ i → listed.getD j true = false → (∀ e ∈ oj.after, Region.binds md e = true → e.on ≠ i) → oi.apart ops oj = true) →
      i ∈ Region.ready md ops listed → YieldsJ P ops J' oi v a → J w → J' w →
      AnyJ P md ops Q bar (fun w => J w ∧ J' w) f (listed.setIfInBounds i true) (a.put oi.dst v) w → AnyJ P md ops Q bar J (f + 1) listed a w := by
  intro f
  induction f with
  | zero =>
    intro listed a w _ hr hy hJ hJ' H w' hg
    refine ⟨fun h => (by rw [h] at hr; cases hr), fun j hj => ?_⟩
    by_cases hji : j = i
    · subst hji
      exact hy.opG hi (sJ' _ _ hg hJ') ⟨fun _ => Grows.refl _, sJ _ _ hg hJ, (AnyJ.mono (fun _ h => h.1) _ _ _ _ H).up hg⟩
    · have := ready_mono hj hji
      rw [(H w' hg).1] at this
      cases this
  | succ f ih =>
    intro listed a w hfree hr hy hJ hJ' H w' hg
    refine ⟨fun h => (by rw [h] at hr; cases hr), fun j hj => ?_⟩
    by_cases hji : j = i
    · subst hji
      exact hy.opG hi (sJ' _ _ hg hJ') ⟨fun _ => Grows.refl _, sJ _ _ hg hJ, (AnyJ.mono (fun _ h => h.1) _ _ _ _ H).up hg⟩
    · obtain ⟨hjun, oj, hoj, hall⟩ := mem_ready.1 hj
      have hnot : ∀ e ∈ oj.after, Region.binds md e = true → e.on ≠ i := fun e he hb heq => by
        have h1 := hall e he hb
        have h0 := (mem_ready.1 hr).1
        rw [heq] at h1
        rcases Nat.lt_or_ge i listed.size with h' | h'
        · simp [h'] at h0 h1; rw [h0] at h1; cases h1
        · simp [Array.getElem?_eq_none h'] at h1
      have h1 := (H w' hg).2 j (ready_mono hj hji)
      have h2 := opJ_put hoj (hfree j oj hoj hji hjun hnot) (fun cs b => hsel i oi cs b hi) (fun cs b => hsel j oj cs b hoj) hQ hy h1
      have hfree' : ∀ k ok, ops[k]? = some ok → k ≠ i → (listed.setIfInBounds j true).getD k true = false →
          (∀ e ∈ ok.after, Region.binds md e = true → e.on ≠ i) → oi.apart ops ok = true := fun k ok hk hki hun hno => by
        refine hfree k ok hk hki ?_ hno
        by_cases hjk : j = k
        · subst hjk; exact hjun
        · rw [getD_set_ne true hjk] at hun; exact hun
      refine opG_mono (fun a' w'' h3 => ⟨h3.2.1, h3.2.2.1.1, ih (listed.setIfInBounds j true) a' w'' hfree' (ready_mono hr (Ne.symm hji)) h3.1 h3.2.2.1.1 h3.2.2.1.2 ?_⟩) h2
      rw [Array.setIfInBounds_comm _ _ hji]
      exact h3.2.2.2
inductive TW where
  | pure
  | firm
  | keep
def wpTail (P : Program) (ops : Array Oper) (Q : Exit → Act → World → Prop) : (World → Prop) → List (Oper × TW) → Act → World → Prop
  | _, [], a, w => ∀ n : Late w, Q .normal a n.w
  | J, (o, .pure) :: rest, a, w =>
    if Region.wanted o (yielded ops a.tmps) = true then ∃ v, (∀ w', (execOp a.eval o).run P w' = .ok (.value v) w') ∧ wpTail P ops Q J rest (a.put o.dst v) w
    else wpTail P ops Q J rest (a.put o.dst undef) w
  | J, (o, .firm) :: rest, a, w =>
    if Region.wanted o (yielded ops a.tmps) = true then ∃ (v : Value) (J' : World → Prop), (∀ w w', Grows w w' → J' w → J' w') ∧ J' w ∧ (∀ w', J' w' → (execOp a.eval o).run P w' = .ok (.value v) w') ∧ wpTail P ops Q (fun w => J w ∧ J' w) rest (a.put o.dst v) w
    else wpTail P ops Q J rest (a.put o.dst undef) w
  | J, (o, .keep) :: rest, a, w => ∀ n : Late w,
    if Region.wanted o (yielded ops a.tmps) = true then o.wp P a n.w (fun a' w' => J w' ∧ wpTail P ops Q J rest a' w') Q else wpTail P ops Q J rest (a.put o.dst undef) n.w
def tailOk (md : Region.Mode) (ops : Array Oper) (bars : List Nat) : Array Bool → List (Nat × TW) → Bool
  | listed, [] => (Region.ready md ops listed).isEmpty
  | listed, (i, .pure) :: rest => (Region.ready md ops listed).contains i && Region.free md ops listed i && tailOk md ops bars (listed.setIfInBounds i true) rest
  | listed, (i, .firm) :: rest => (Region.ready md ops listed).contains i && Region.free md ops listed i && tailOk md ops bars (listed.setIfInBounds i true) rest
  | listed, (i, .keep) :: rest => (Region.ready md ops listed == [i]) && bars.contains i && tailOk md ops bars (listed.setIfInBounds i true) rest
def tailOps (ops : Array Oper) : List (Nat × TW) → List (Oper × TW)
  | [] => []
  | (i, x) :: rest => match ops[i]? with
    | some o => (o, x) :: tailOps ops rest
    | none => []
theorem anyJ_of_tail (hs : Region.noSelect ops = true) (hQ : ∀ c (a : Act) d v w, Q (.panic c) (a.put d v) w → Q (.panic c) a w) {bars : List Nat} :
    ∀ (l : List (Nat × TW)) (J : World → Prop) (listed : Array Bool) (a : Act) (w : World), (∀ w w', Grows w w' → J w → J w') → J w → tailOk md ops bars listed l = true → wpTail P ops Q J (tailOps ops l) a w →
      AnyJ P md ops Q (fun j => bars.contains j) J l.length listed a w
  | [], J, listed, a, w, _, _, h0, h => fun w' hg => ⟨by simpa [tailOk] using h0, h ⟨w', hg⟩⟩
  | (i, .pure) :: rest, J, listed, a, w, sJ, hJ, h0, h => by
    simp only [tailOk, Bool.and_eq_true] at h0
    obtain ⟨⟨hr, hf⟩, h0⟩ := h0
    have hr : i ∈ Region.ready md ops listed := by simpa using hr
    obtain ⟨_, o, ho, _⟩ := mem_ready.1 hr
    simp only [tailOps, ho, wpTail] at h
    have sT : ∀ w w', Grows w w' → (fun _ : World => True) w → (fun _ : World => True) w' := fun _ _ _ _ => trivial
    by_cases hw : Region.wanted o (yielded ops a.tmps) = true
    · rw [if_pos hw] at h
      obtain ⟨v, hv, h⟩ := h
      exact AnyJ.first sJ sT ho (Region.noSelect_spec hs) (fun c a w => hQ c a o.dst v w) _ listed a w (Region.free_spec ho hf) hr (.inl ⟨hw, fun w' _ => hv w'⟩) hJ trivial
        (AnyJ.mono (fun _ h => ⟨h, trivial⟩) _ _ _ _ (anyJ_of_tail hs hQ rest J _ _ w sJ hJ h0 h))
    · rw [if_neg hw] at h
      exact AnyJ.first sJ sT ho (Region.noSelect_spec hs) (fun c a w => hQ c a o.dst undef w) _ listed a w (Region.free_spec ho hf) hr (.inr ⟨by simpa using hw, rfl⟩) hJ trivial
        (AnyJ.mono (fun _ h => ⟨h, trivial⟩) _ _ _ _ (anyJ_of_tail hs hQ rest J _ _ w sJ hJ h0 h))
  | (i, .firm) :: rest, J, listed, a, w, sJ, hJ, h0, h => by
    simp only [tailOk, Bool.and_eq_true] at h0
    obtain ⟨⟨hr, hf⟩, h0⟩ := h0
    have hr : i ∈ Region.ready md ops listed := by simpa using hr
    obtain ⟨_, o, ho, _⟩ := mem_ready.1 hr
    simp only [tailOps, ho, wpTail] at h
    by_cases hw : Region.wanted o (yielded ops a.tmps) = true
    · rw [if_pos hw] at h
      obtain ⟨v, J', sJ', hJ', hv, h⟩ := h
      exact AnyJ.first sJ sJ' ho (Region.noSelect_spec hs) (fun c a w => hQ c a o.dst v w) _ listed a w (Region.free_spec ho hf) hr (.inl ⟨hw, hv⟩) hJ hJ'
        (anyJ_of_tail hs hQ rest _ _ _ w (fun w w' g h => ⟨sJ w w' g h.1, sJ' w w' g h.2⟩) ⟨hJ, hJ'⟩ h0 h)
    · rw [if_neg hw] at h
      exact AnyJ.first sJ (fun _ _ _ _ => trivial) (J' := fun _ => True) ho (Region.noSelect_spec hs) (fun c a w => hQ c a o.dst undef w) _ listed a w (Region.free_spec ho hf) hr (.inr ⟨by simpa using hw, rfl⟩) hJ trivial
        (AnyJ.mono (fun _ h => ⟨h, trivial⟩) _ _ _ _ (anyJ_of_tail hs hQ rest J _ _ w sJ hJ h0 h))
  | (i, .keep) :: rest, J, listed, a, w, sJ, hJ, h0, h => by
    simp only [tailOk, Bool.and_eq_true, beq_iff_eq] at h0
    obtain ⟨⟨hr, hnb⟩, h0⟩ := h0
    intro w' hg
    refine ⟨fun h1 => (by rw [h1] at hr; cases hr), fun j hj => ?_⟩
    rw [hr] at hj
    obtain rfl : j = i := by simpa using hj
    have hr' : j ∈ Region.ready md ops listed := by rw [hr]; simp
    obtain ⟨_, o, ho, _⟩ := mem_ready.1 hr'
    simp only [tailOps, ho, wpTail] at h
    have h1 := h ⟨w', hg⟩
    unfold opG
    simp only [ho]
    split
    · rename_i hw
      rw [if_pos hw] at h1
      exact Oper.wp_mono (fun a2 w2 h2 => ⟨fun hb => (by rw [hnb] at hb; cases hb), h2.1, anyJ_of_tail hs hQ rest J _ _ w2 sJ h2.1 h0 h2.2⟩) h1
    · rename_i hw
      rw [if_neg hw] at h1
      exact ⟨fun hb => (by rw [hnb] at hb; cases hb), sJ _ _ hg hJ, anyJ_of_tail hs hQ rest J _ _ w' sJ (sJ _ _ hg hJ) h0 h1⟩
end
end Go.Proofs.YtcblefmjacofgaaGreatDoor
namespace Go.Proofs.YtcblefmjacofgaaGreatDoor
open Go.RowKit
section
variable {P : Program} {ops : Array Oper} {Q : Exit → Act → World → Prop} {md : Region.Mode}
def YieldsP (P : Program) (ops : Array Oper) (o : Oper) (v : Value) (a : Act) : Prop :=
  (Region.wanted o (yielded ops a.tmps) = true ∧ ∀ w', (execOp a.eval o).run P w' = .ok (.value v) w') ∨
  (Region.wanted o (yielded ops a.tmps) = false ∧ v = undef)
theorem YieldsP.yieldsG {o : Oper} {v : Value} {a : Act} {w : World} (h : YieldsP P ops o v a) : YieldsG P ops o v a w :=
  h.imp (fun ⟨h1, h2⟩ => ⟨h1, fun w' _ => by rw [h2 w']; exact ⟨rfl, rfl⟩⟩) id
theorem YieldsP.of_same {o : Oper} {v : Value} {a a' : Act} (hy : YieldsP P ops o v a) (he : execOp a'.eval o = execOp a.eval o)
    (hw : Region.wanted o (yielded ops a'.tmps) = Region.wanted o (yielded ops a.tmps)) : YieldsP P ops o v a' := by
  unfold YieldsP at *
  rw [he, hw]
  exact hy
theorem opP_put {j : Nat} {oi oj : Oper} {v : Value} (hj : ops[j]? = some oj) (hap : oi.apart ops oj = true)
    (hsi : ∀ cs b, oi.op ≠ .select cs b) (hsj : ∀ cs b, oj.op ≠ .select cs b)
    (hQ : ∀ c a w, Q (.panic c) (a.put oi.dst v) w → Q (.panic c) a w) {K : Act → World → Prop} {a : Act} {w : World}
    (hy : YieldsP P ops oi v a) (h : opG P ops Q j K (a.put oi.dst v) w) :
    opG P ops Q j (fun a' w' => YieldsP P ops oi v a' ∧ K (a'.put oi.dst v) w') a w := by
  obtain ⟨h1, h2, h3⟩ := Oper.apart_spec hap
  have keep : ∀ (b : Act), YieldsP P ops oi v b → ∀ u, YieldsP P ops oi v (b.put oj.dst u) := fun b hb u =>
    hb.of_same (execOp_put oi hsi b oj.dst u h3) (wanted_put oi b oj.dst u h3)
  unfold opG at *
  simp only [hj] at *
  rw [wanted_put oj a oi.dst v h1] at h
  split
  · rename_i hw
    rw [if_pos hw] at h
    unfold Oper.wp at *
    rw [execOp_put oj hsj a oi.dst v h1] at h
    generalize (execOp a.eval oj).run P w = r at *
    cases r with
    | ok x w' =>
      cases x <;> simp only [Oper.upon] at h ⊢
      case value u => exact ⟨keep a hy u, by rw [← Act.put_comm a v u h2]; exact h⟩
      case skip => exact ⟨keep a hy _, by rw [← Act.put_comm a v undef h2]; exact h⟩
      case defer d =>
        refine ⟨keep { a with defers := d :: a.defers } (hy.of_same rfl rfl) _, ?_⟩
        rw [← Act.put_comm _ v undef h2, ← Act.put_defers]
        exact h
      case enter f args =>
        refine Calls.mono h fun e w'' he => ?_
        cases e with
        | returned u => exact ⟨keep a hy u, by rw [← Act.put_comm a v u h2]; exact he⟩
        | panicked c => exact hQ _ _ _ he
        | outgrown => exact he
      case row row args => exact Rows.mono h fun u w'' he => ⟨keep a hy u, by rw [← Act.put_comm a v u h2]; exact he⟩
    | halt x w' =>
      cases x <;> simp only [Oper.upon] at h ⊢
      case panic u => exact hQ _ _ _ h
  · rename_i hw
    rw [if_neg hw] at h
    exact ⟨keep a hy _, by rw [← Act.put_comm a v undef h2]; exact h⟩
theorem AnyG.firstP {bar : Nat → Bool} {i : Nat} {oi : Oper} {v : Value} (hi : ops[i]? = some oi) (hsel : ∀ (j : Nat) (o : Oper) cs b, ops[j]? = some o → o.op ≠ .select cs b)
    (hQ : ∀ c a w, Q (.panic c) (a.put oi.dst v) w → Q (.panic c) a w) :
    ∀ (f : Nat) (listed : Array Bool) (a : Act) (w : World),
      (∀ j oj, ops[j]? = some oj → j ≠ i → listed.getD j true = false → (∀ e ∈ oj.after, Region.binds md e = true → e.on ≠ i) → oi.apart ops oj = true) →
      i ∈ Region.ready md ops listed → YieldsP P ops oi v a →
      AnyG P md ops Q bar f (listed.setIfInBounds i true) (a.put oi.dst v) w → AnyG P md ops Q bar (f + 1) listed a w := by
  intro f
  induction f with
  | zero =>
    intro listed a w _ hr hy H w' hg
    refine ⟨fun h => (by rw [h] at hr; cases hr), fun j hj => ?_⟩
    by_cases hji : j = i
    · subst hji
      exact (hy.yieldsG (w := w)).opG hi hg fun w'' g => ⟨fun _ => g, H.up (hg.trans g)⟩
    · have := ready_mono hj hji
      rw [(H w' hg).1] at this
      cases this
  | succ f ih =>
    intro listed a w hfree hr hy H w' hg
    refine ⟨fun h => (by rw [h] at hr; cases hr), fun j hj => ?_⟩
    by_cases hji : j = i
    · subst hji
      exact (hy.yieldsG (w := w)).opG hi hg fun w'' g => ⟨fun _ => g, H.up (hg.trans g)⟩
    · obtain ⟨hjun, oj, hoj, hall⟩ := mem_ready.1 hj
      have hnot : ∀ e ∈ oj.after, Region.binds md e = true → e.on ≠ i := fun e he hb heq => by
        have h1 := hall e he hb
        have h0 := (mem_ready.1 hr).1
        rw [heq] at h1
        rcases Nat.lt_or_ge i listed.size with h' | h'
        · simp [h'] at h0 h1; rw [h0] at h1; cases h1
        · simp [Array.getElem?_eq_none h'] at h1
      have h1 := (H w' hg).2 j (ready_mono hj hji)
      have h2 := opP_put hoj (hfree j oj hoj hji hjun hnot) (fun cs b => hsel i oi cs b hi) (fun cs b => hsel j oj cs b hoj) hQ hy h1
      have hfree' : ∀ k ok, ops[k]? = some ok → k ≠ i → (listed.setIfInBounds j true).getD k true = false →
          (∀ e ∈ ok.after, Region.binds md e = true → e.on ≠ i) → oi.apart ops ok = true := fun k ok hk hki hun hno => by
        refine hfree k ok hk hki ?_ hno
        by_cases hjk : j = k
        · subst hjk; exact hjun
        · rw [getD_set_ne true hjk] at hun; exact hun
      refine opG_mono (fun a' w'' h3 => ⟨h3.2.1, ih (listed.setIfInBounds j true) a' w'' hfree' (ready_mono hr (Ne.symm hji)) h3.1 ?_⟩) h2
      rw [Array.setIfInBounds_comm _ _ hji]
      exact h3.2.2
inductive Way3 where
  | pure
  | quiet
  | grow
  | bar
inductive Todo where
  | nil
  | step (o : Oper) (way : Way3) (rest : Todo)
  | two (o : Oper) (rest : Todo) (o' : Oper) (rest' : Todo)
  | mid (o : Oper) (rest : Todo) (o' : Oper) (rest' : Todo)
  | or (a b : Todo)
  | tail (l : List (Oper × TW))
inductive Plan where
  | nil
  | step (i : Nat) (way : Way3) (rest : Plan)
  | two (i : Nat) (rest : Plan) (j : Nat) (rest' : Plan)
  | mid (i : Nat) (rest : Plan) (j : Nat) (rest' : Plan)
  | or (a b : Plan)
  | tail (l : List (Nat × TW))
def wpMix3 (P : Program) (ops : Array Oper) (Q : Exit → Act → World → Prop) : Todo → Act → World → Prop
  | .nil, a, w => ∀ n : Late w, Q .normal a n.w
  | .step o .pure rest, a, w =>
    if Region.wanted o (yielded ops a.tmps) = true then ∃ v, (∀ w', (execOp a.eval o).run P w' = .ok (.value v) w') ∧ wpMix3 P ops Q rest (a.put o.dst v) w
    else wpMix3 P ops Q rest (a.put o.dst undef) w
  | .step o .quiet rest, a, w =>
    if Region.wanted o (yielded ops a.tmps) = true then ∃ v, (∀ n : Late w, Oper.quietUpon P (Grows n.w) n.w v ((execOp a.eval o).run P n.w)) ∧ wpMix3 P ops Q rest (a.put o.dst v) w
    else wpMix3 P ops Q rest (a.put o.dst undef) w
  | .step o .grow rest, a, w => ∀ n : Late w,
    if Region.wanted o (yielded ops a.tmps) = true then o.wp P a n.w (fun a' w' => Grows n.w w' ∧ wpMix3 P ops Q rest a' w') Q else wpMix3 P ops Q rest (a.put o.dst undef) n.w
  | .step o .bar rest, a, w => ∀ n : Late w,
    if Region.wanted o (yielded ops a.tmps) = true then o.wp P a n.w (fun a' w' => wpMix3 P ops Q rest a' w') Q else wpMix3 P ops Q rest (a.put o.dst undef) n.w
  | .tail l, a, w => wpTail P ops Q (fun _ => True) l a w
  | .two o rest o' rest', a, w => (∀ n : Late w,
    if Region.wanted o (yielded ops a.tmps) = true then o.wp P a n.w (fun a' w' => Grows n.w w' ∧ wpMix3 P ops Q rest a' w') Q else wpMix3 P ops Q rest (a.put o.dst undef) n.w) ∧ (∀ n : Late w,
    if Region.wanted o' (yielded ops a.tmps) = true then o'.wp P a n.w (fun a' w' => Grows n.w w' ∧ wpMix3 P ops Q rest' a' w') Q else wpMix3 P ops Q rest' (a.put o'.dst undef) n.w)
  | .mid o rest o' rest', a, w => (∀ n : Late w,
    if Region.wanted o (yielded ops a.tmps) = true then o.wp P a n.w (fun a' w' => Grows n.w w' ∧ wpMix3 P ops Q rest a' w') Q else wpMix3 P ops Q rest (a.put o.dst undef) n.w) ∧ (∀ n : Late w,
    if Region.wanted o' (yielded ops a.tmps) = true then o'.wp P a n.w (fun a' w' => wpMix3 P ops Q rest' a' w') Q else wpMix3 P ops Q rest' (a.put o'.dst undef) n.w)
  | .or x y, a, w => wpMix3 P ops Q x a w ∧ wpMix3 P ops Q y a w
def waits3 (md : Region.Mode) (ops : Array Oper) (i : Nat) : Nat → List Nat → List Nat
  | 0, D => D
  | n + 1, D => waits3 md ops i n ((List.range ops.size).filter fun k => D.contains k || match ops[k]? with
    | some ok => ok.after.any (fun e => Region.binds md e && (e.on == i || D.contains e.on))
    | none => false)
def firsts : Plan → List Nat
  | .step i _ _ => [i]
  | .or x y => firsts x ++ firsts y
  | _ => []
mutual
def mixOk3 (md : Region.Mode) (ops : Array Oper) : List Nat → Array Bool → Plan → Bool
  | _, listed, .nil => (Region.ready md ops listed).isEmpty
  | bars, listed, .tail l => tailOk md ops bars listed l
  | bars, listed, .step i .pure rest => (Region.ready md ops listed).contains i && Region.free md ops listed i && !bars.contains i && mixOk3 md ops bars (listed.setIfInBounds i true) rest
  | bars, listed, .step i .quiet rest => (Region.ready md ops listed).contains i && Region.free md ops listed i && !bars.contains i &&
      (bars.isEmpty || waitOk md ops bars listed i (waits3 md ops i ops.size [])) && mixOk3 md ops bars (listed.setIfInBounds i true) rest
  | bars, listed, .step i .grow rest => (Region.ready md ops listed == [i]) && !bars.contains i && mixOk3 md ops bars (listed.setIfInBounds i true) rest
  | bars, listed, .step i .bar rest => (Region.ready md ops listed == [i]) && bars.contains i && mixOk3 md ops (bars.erase i) (listed.setIfInBounds i true) rest
  | bars, listed, .two i rest j rest' => ((Region.ready md ops listed == [i, j]) || (Region.ready md ops listed == [j, i])) && !bars.contains i && !bars.contains j && mixOk3 md ops bars (listed.setIfInBounds i true) rest && mixOk3 md ops bars (listed.setIfInBounds j true) rest'
  | bars, listed, .mid i rest j rest' => ((Region.ready md ops listed == [i, j]) || (Region.ready md ops listed == [j, i])) && !bars.contains i && bars.contains j && mixOk3 md ops bars (listed.setIfInBounds i true) rest && mixOk3 md ops (bars.erase j) (listed.setIfInBounds j true) rest'
  | bars, listed, .or x y => (Region.ready md ops listed).all (fun i => (firsts x ++ firsts y).contains i) && !(Region.ready md ops listed).isEmpty && leafOk3 md ops bars listed x && leafOk3 md ops bars listed y
def leafOk3 (md : Region.Mode) (ops : Array Oper) : List Nat → Array Bool → Plan → Bool
  | bars, listed, .step i .grow rest => (Region.ready md ops listed).contains i && !bars.contains i && mixOk3 md ops bars (listed.setIfInBounds i true) rest
  | bars, listed, .step i .bar rest => (Region.ready md ops listed).contains i && bars.contains i && mixOk3 md ops (bars.erase i) (listed.setIfInBounds i true) rest
  | bars, listed, .or x y => leafOk3 md ops bars listed x && leafOk3 md ops bars listed y
  | _, _, _ => false
end
def Plan.len : Plan → Nat
  | .nil => 0
  | .step _ _ rest => rest.len + 1
  | .two _ rest _ _ => rest.len + 1
  | .mid _ rest _ _ => rest.len + 1
  | .or x _ => x.len
  | .tail l => l.length
def Plan.even : Plan → Bool
  | .nil => true
  | .step _ _ rest => rest.even
  | .two _ rest _ rest' => rest.even && rest'.even && rest.len == rest'.len
  | .mid _ rest _ rest' => rest.even && rest'.even && rest.len == rest'.len
  | .or x y => x.even && y.even && x.len == y.len
  | .tail _ => true
def planOps3 (ops : Array Oper) : Plan → Todo
  | .nil => .nil
  | .step i x rest => match ops[i]? with
    | some o => .step o x (planOps3 ops rest)
    | none => .nil
  | .two i rest j rest' => match ops[i]?, ops[j]? with
    | some o, some o' => .two o (planOps3 ops rest) o' (planOps3 ops rest')
    | _, _ => .nil
  | .mid i rest j rest' => match ops[i]?, ops[j]? with
    | some o, some o' => .mid o (planOps3 ops rest) o' (planOps3 ops rest')
    | _, _ => .nil
  | .or x y => .or (planOps3 ops x) (planOps3 ops y)
  | .tail l => .tail (tailOps ops l)
theorem AnyG.bars {bar bar' : Nat → Bool} : ∀ (f : Nat) (listed : Array Bool) (a : Act) (w : World), (∀ i, listed.getD i true = false → bar i = bar' i) → AnyG P md ops Q bar f listed a w → AnyG P md ops Q bar' f listed a w := by
  intro f
  induction f with
  | zero => intro listed a w _ h; exact h
  | succ f ih =>
    intro listed a w hb h w' hg
    obtain ⟨h1, h2⟩ := h w' hg
    refine ⟨h1, fun i hi => opG_mono (fun a' w'' h3 => ⟨fun h4 => h3.1 (by rw [hb i (mem_ready.1 hi).1]; exact h4), ih _ _ _ (fun j hj => ?_) h3.2⟩) (h2 i hi)⟩
    refine hb j ?_
    by_cases hij : i = j
    · subst hij
      exact (mem_ready.1 hi).1
    · rwa [getD_set_ne true hij] at hj
theorem anyG_grow {i : Nat} {o : Oper} {bars : List Nat} {f : Nat} {listed : Array Bool} {a : Act} {w : World} {X : Act → World → Prop} (ho : ops[i]? = some o) (hb : bars.contains i = false) (hX : ∀ a' w', X a' w' → AnyG P md ops Q (fun j => bars.contains j) f (listed.setIfInBounds i true) a' w')
    (h1 : if Region.wanted o (yielded ops a.tmps) = true then o.wp P a w (fun a' w' => Grows w w' ∧ X a' w') Q else X (a.put o.dst undef) w) :
    opG P ops Q i (fun a' w'' => ((fun j => bars.contains j) i = false → Grows w w'') ∧ AnyG P md ops Q (fun j => bars.contains j) f (listed.setIfInBounds i true) a' w'') a w := by
  unfold opG
  simp only [ho]
  split
  · rename_i hw
    rw [if_pos hw] at h1
    exact Oper.wp_mono (fun a2 w2 h2 => ⟨fun _ => h2.1, hX _ _ h2.2⟩) h1
  · rename_i hw
    rw [if_neg hw] at h1
    exact ⟨fun _ => Grows.refl _, hX _ _ h1⟩
theorem anyG_of_mix3' (hs : Region.noSelect ops = true) (hQ : ∀ c (a : Act) d v w, Q (.panic c) (a.put d v) w → Q (.panic c) a w) :
    ∀ (plan : Plan), (∀ (bars : List Nat) (listed : Array Bool) (a : Act) (w : World), bars.Nodup → plan.even = true → mixOk3 md ops bars listed plan = true → wpMix3 P ops Q (planOps3 ops plan) a w →
      AnyG P md ops Q (fun j => bars.contains j) plan.len listed a w) ∧
      (∀ (bars : List Nat) (listed : Array Bool) (a : Act) (w : World), bars.Nodup → plan.even = true → leafOk3 md ops bars listed plan = true → wpMix3 P ops Q (planOps3 ops plan) a w →
        ∃ f, plan.len = f + 1 ∧ ∀ i ∈ firsts plan, ∀ w', Grows w w' → opG P ops Q i (fun a' w'' => ((fun j => bars.contains j) i = false → Grows w' w'') ∧ AnyG P md ops Q (fun j => bars.contains j) f (listed.setIfInBounds i true) a' w'') a w') := by
  intro plan
  induction plan with
  | nil =>
    refine ⟨?_, fun bars listed a w _ _ h => by simp [leafOk3] at h⟩
    intro bars listed a w _ _ h0 h w' hg
    exact ⟨by simpa [mixOk3] using h0, h ⟨w', hg⟩⟩
  | tail l =>
    refine ⟨?_, fun bars listed a w _ _ h => by simp [leafOk3] at h⟩
    intro bars listed a w _ _ h0 h
    exact AnyJ.any _ _ _ _ (anyJ_of_tail hs hQ l (fun _ => True) listed a w (fun _ _ _ _ => trivial) trivial (by simpa only [mixOk3] using h0) (by simpa only [planOps3, wpMix3] using h))
  | two i rest j rest' ih ih' =>
    replace ih := ih.1
    replace ih' := ih'.1
    refine ⟨?_, fun bars listed a w _ _ h => by simp [leafOk3] at h⟩
    intro bars listed a w hnd hev h0 h
    simp only [mixOk3, Bool.and_eq_true, Bool.or_eq_true, beq_iff_eq, Bool.not_eq_true'] at h0
    obtain ⟨⟨⟨⟨hr, hbi⟩, hbj⟩, h1⟩, h2⟩ := h0
    simp only [Plan.even, Bool.and_eq_true, beq_iff_eq] at hev
    obtain ⟨⟨he1, he2⟩, hlen⟩ := hev
    have hri : i ∈ Region.ready md ops listed := by rcases hr with hr | hr <;> rw [hr] <;> simp
    have hrj : j ∈ Region.ready md ops listed := by rcases hr with hr | hr <;> rw [hr] <;> simp
    obtain ⟨_, oi, hoi, _⟩ := mem_ready.1 hri
    obtain ⟨_, oj, hoj, _⟩ := mem_ready.1 hrj
    simp only [planOps3, hoi, hoj, wpMix3] at h
    intro w' hg
    refine ⟨fun h3 => (by rw [h3] at hri; cases hri), fun k hk => ?_⟩
    have hk' : k = i ∨ k = j := by
      rcases hr with hr | hr <;> rw [hr] at hk <;> simp at hk <;> omega
    rcases hk' with rfl | rfl
    · exact anyG_grow hoi hbi (fun a' w'' h4 => ih _ _ _ _ hnd he1 h1 h4) (h.1 ⟨w', hg⟩)
    · refine anyG_grow hoj hbj (fun a' w'' h4 => ?_) (h.2 ⟨w', hg⟩)
      rw [hlen]
      exact ih' _ _ _ _ hnd he2 h2 h4
  | mid i rest j rest' ih ih' =>
    replace ih := ih.1
    replace ih' := ih'.1
    refine ⟨?_, fun bars listed a w _ _ h => by simp [leafOk3] at h⟩
    intro bars listed a w hnd hev h0 h
    simp only [mixOk3, Bool.and_eq_true, Bool.or_eq_true, beq_iff_eq, Bool.not_eq_true'] at h0
    obtain ⟨⟨⟨⟨hr, hbi⟩, hbj⟩, h1⟩, h2⟩ := h0
    simp only [Plan.even, Bool.and_eq_true, beq_iff_eq] at hev
    obtain ⟨⟨he1, he2⟩, hlen⟩ := hev
    have hri : i ∈ Region.ready md ops listed := by rcases hr with hr | hr <;> rw [hr] <;> simp
    have hrj : j ∈ Region.ready md ops listed := by rcases hr with hr | hr <;> rw [hr] <;> simp
    obtain ⟨_, oi, hoi, _⟩ := mem_ready.1 hri
    obtain ⟨_, oj, hoj, _⟩ := mem_ready.1 hrj
    simp only [planOps3, hoi, hoj, wpMix3] at h
    have hup : ∀ a2 w2, AnyG P md ops Q (fun k => (bars.erase j).contains k) rest'.len (listed.setIfInBounds j true) a2 w2 → AnyG P md ops Q (fun k => bars.contains k) rest'.len (listed.setIfInBounds j true) a2 w2 := fun a2 w2 h => by
      refine AnyG.bars _ _ _ _ (fun k hk => ?_) h
      have hne : k ≠ j := by
        rintro rfl
        by_cases hlt : k < listed.size
        · simp [hlt] at hk
        · simp [hlt] at hk
      rw [Bool.eq_iff_iff]
      simp [hnd.mem_erase_iff, hne]
    intro w' hg
    refine ⟨fun h3 => (by rw [h3] at hri; cases hri), fun k hk => ?_⟩
    have hk' : k = i ∨ k = j := by
      rcases hr with hr | hr <;> rw [hr] at hk <;> simp at hk <;> omega
    rcases hk' with rfl | rfl
    · exact anyG_grow hoi hbi (fun a' w'' h4 => ih _ _ _ _ hnd he1 h1 h4) (h.1 ⟨w', hg⟩)
    · have h3 := h.2 ⟨w', hg⟩
      show opG P ops Q k (fun a' w'' => ((fun j => bars.contains j) k = false → Grows w' w'') ∧ AnyG P md ops Q (fun j => bars.contains j) rest.len (listed.setIfInBounds k true) a' w'') a w'
      rw [hlen]
      unfold opG
      simp only [hoj]
      split
      · rename_i hw
        rw [if_pos hw] at h3
        exact Oper.wp_mono (fun a2 w2 h4 => ⟨fun hb => (by rw [hbj] at hb; cases hb), hup _ _ (ih' _ _ _ _ (hnd.erase _) he2 h2 h4)⟩) h3
      · rename_i hw
        rw [if_neg hw] at h3
        exact ⟨fun hb => (by rw [hbj] at hb; cases hb), hup _ _ (ih' _ _ _ _ (hnd.erase _) he2 h2 h3)⟩
  | or x y ihx ihy =>
    have key : ∀ (bars : List Nat) (listed : Array Bool) (a : Act) (w : World), bars.Nodup → (Plan.or x y).even = true → leafOk3 md ops bars listed (.or x y) = true → wpMix3 P ops Q (planOps3 ops (.or x y)) a w →
        ∃ f, (Plan.or x y).len = f + 1 ∧ ∀ i ∈ firsts (.or x y), ∀ w', Grows w w' → opG P ops Q i (fun a' w'' => ((fun j => bars.contains j) i = false → Grows w' w'') ∧ AnyG P md ops Q (fun j => bars.contains j) f (listed.setIfInBounds i true) a' w'') a w' := by
      intro bars listed a w hnd hev h0 h
      simp only [Plan.even, Bool.and_eq_true, beq_iff_eq] at hev
      obtain ⟨⟨he1, he2⟩, hlen⟩ := hev
      simp only [leafOk3, Bool.and_eq_true] at h0
      simp only [planOps3, wpMix3] at h
      obtain ⟨f1, e1, g1⟩ := ihx.2 bars listed a w hnd he1 h0.1 h.1
      obtain ⟨f2, e2, g2⟩ := ihy.2 bars listed a w hnd he2 h0.2 h.2
      have e : f2 = f1 := by omega
      subst e
      refine ⟨f2, e1, fun i hi w' hg => ?_⟩
      simp only [firsts] at hi
      rcases List.mem_append.1 hi with hi | hi
      · exact g1 i hi w' hg
      · exact g2 i hi w' hg
    refine ⟨?_, key⟩
    intro bars listed a w hnd hev h0 h
    simp only [mixOk3, Bool.and_eq_true] at h0
    obtain ⟨⟨⟨hc, hne⟩, h1⟩, h2⟩ := h0
    obtain ⟨f, e, g⟩ := key bars listed a w hnd hev (by simp only [leafOk3, Bool.and_eq_true]; exact ⟨h1, h2⟩) h
    rw [e]
    intro w' hg
    refine ⟨fun h3 => (by rw [h3] at hne; cases hne), fun i hi => g i ?_ w' hg⟩
    have := List.all_eq_true.1 hc i hi
    simpa [firsts] using this
  | step i x rest ih =>
    refine ⟨?_, fun bars listed a w hnd hev h0 h => ?_⟩
    rotate_left
    · have hev : rest.even = true := hev
      refine ⟨rest.len, rfl, fun k hk w' hg => ?_⟩
      simp only [firsts, List.mem_singleton] at hk
      subst hk
      cases x with
      | pure => simp [leafOk3] at h0
      | quiet => simp [leafOk3] at h0
      | grow =>
        simp only [leafOk3, Bool.and_eq_true, Bool.not_eq_true'] at h0
        obtain ⟨⟨hr, hnb⟩, h0⟩ := h0
        have hr' : k ∈ Region.ready md ops listed := by simpa using hr
        obtain ⟨_, o, ho, _⟩ := mem_ready.1 hr'
        simp only [planOps3, ho, wpMix3] at h
        exact anyG_grow ho hnb (fun a' w'' h4 => ih.1 _ _ _ _ hnd hev h0 h4) (h ⟨w', hg⟩)
      | bar =>
        simp only [leafOk3, Bool.and_eq_true] at h0
        obtain ⟨⟨hr, hnb⟩, h0⟩ := h0
        have hup : ∀ a2 w2, AnyG P md ops Q (fun j => (bars.erase k).contains j) rest.len (listed.setIfInBounds k true) a2 w2 → AnyG P md ops Q (fun j => bars.contains j) rest.len (listed.setIfInBounds k true) a2 w2 := fun a2 w2 h => by
          refine AnyG.bars _ _ _ _ (fun j hj => ?_) h
          have hne : j ≠ k := by
            rintro rfl
            by_cases hlt : j < listed.size
            · simp [hlt] at hj
            · simp [hlt] at hj
          rw [Bool.eq_iff_iff]
          simp [hnd.mem_erase_iff, hne]
        have hr' : k ∈ Region.ready md ops listed := by simpa using hr
        obtain ⟨_, o, ho, _⟩ := mem_ready.1 hr'
        simp only [planOps3, ho, wpMix3] at h
        have h1 := h ⟨w', hg⟩
        unfold opG
        simp only [ho]
        split
        · rename_i hw
          rw [if_pos hw] at h1
          exact Oper.wp_mono (fun a2 w2 h2 => ⟨fun hb => (by rw [hnb] at hb; cases hb), hup _ _ (ih.1 _ _ _ _ (hnd.erase _) hev h0 h2)⟩) h1
        · rename_i hw
          rw [if_neg hw] at h1
          exact ⟨fun hb => (by rw [hnb] at hb; cases hb), hup _ _ (ih.1 _ _ _ _ (hnd.erase _) hev h0 h1)⟩
    replace ih := ih.1
    intro bars listed a w hnd hev h0 h
    have hev : rest.even = true := hev
    cases x with
    | pure =>
      simp only [mixOk3, Bool.and_eq_true] at h0
      obtain ⟨⟨⟨hr, hf⟩, _⟩, h0⟩ := h0
      have hr : i ∈ Region.ready md ops listed := by simpa using hr
      obtain ⟨_, o, ho, _⟩ := mem_ready.1 hr
      simp only [planOps3, ho, wpMix3] at h
      by_cases hw : Region.wanted o (yielded ops a.tmps) = true
      · rw [if_pos hw] at h
        obtain ⟨v, hv, h⟩ := h
        exact AnyG.firstP ho (Region.noSelect_spec hs) (fun c a w => hQ c a o.dst v w) _ listed a w (Region.free_spec ho hf) hr (.inl ⟨hw, hv⟩) (ih _ _ _ _ hnd hev h0 h)
      · rw [if_neg hw] at h
        exact AnyG.firstP ho (Region.noSelect_spec hs) (fun c a w => hQ c a o.dst undef w) _ listed a w (Region.free_spec ho hf) hr (.inr ⟨by simpa using hw, rfl⟩) (ih _ _ _ _ hnd hev h0 h)
    | quiet =>
      simp only [mixOk3, Bool.and_eq_true, Bool.or_eq_true] at h0
      obtain ⟨⟨⟨⟨hr, hf⟩, _⟩, hb⟩, h0⟩ := h0
      have hr : i ∈ Region.ready md ops listed := by simpa using hr
      obtain ⟨_, o, ho, _⟩ := mem_ready.1 hr
      simp only [planOps3, ho, wpMix3] at h
      have hD : ∃ D : Nat → Bool, (∀ k ok, ops[k]? = some ok → D k = true → ∃ e ∈ ok.after, Region.binds md e = true ∧ (e.on = i ∨ D e.on = true)) ∧ (∀ k, D k = true → listed.getD k true = false) ∧ (∀ j, bars.contains j = true → D j = true) := by
        rcases hb with hb | hb
        · have hb' : bars = [] := by simpa using hb
          subst hb'
          exact ⟨fun _ => false, fun _ _ _ h => (by cases h), fun _ h => (by cases h), fun _ h => (by simp at h)⟩
        · obtain ⟨h1, h2, h3⟩ := waitOk_spec hb
          exact ⟨fun k => (waits3 md ops i ops.size []).contains k, h1, h2, h3⟩
      obtain ⟨D, hD, hU, hb⟩ := hD
      by_cases hw : Region.wanted o (yielded ops a.tmps) = true
      · rw [if_pos hw] at h
        obtain ⟨v, hv, h⟩ := h
        exact AnyG.first2 ho (Region.noSelect_spec hs) (fun c a w => hQ c a o.dst v w) D hD hb _ listed a w (Region.free_spec ho hf) hU hr (.inl ⟨hw, fun w' g => hv ⟨w', g⟩⟩) (ih _ _ _ _ hnd hev h0 h)
      · rw [if_neg hw] at h
        exact AnyG.first2 ho (Region.noSelect_spec hs) (fun c a w => hQ c a o.dst undef w) D hD hb _ listed a w (Region.free_spec ho hf) hU hr (.inr ⟨by simpa using hw, rfl⟩) (ih _ _ _ _ hnd hev h0 h)
    | grow =>
      simp only [mixOk3, Bool.and_eq_true, beq_iff_eq, Bool.not_eq_true'] at h0
      obtain ⟨⟨hr, hnb⟩, h0⟩ := h0
      intro w' hg
      refine ⟨fun h1 => (by rw [h1] at hr; cases hr), fun j hj => ?_⟩
      rw [hr] at hj
      obtain rfl : j = i := by simpa using hj
      have hr' : j ∈ Region.ready md ops listed := by rw [hr]; simp
      obtain ⟨_, o, ho, _⟩ := mem_ready.1 hr'
      simp only [planOps3, ho, wpMix3] at h
      exact anyG_grow ho hnb (fun a' w'' h4 => ih _ _ _ _ hnd hev h0 h4) (h ⟨w', hg⟩)
    | bar =>
      simp only [mixOk3, Bool.and_eq_true, beq_iff_eq] at h0
      obtain ⟨⟨hr, hnb⟩, h0⟩ := h0
      have hup : ∀ a2 w2, AnyG P md ops Q (fun j => (bars.erase i).contains j) rest.len (listed.setIfInBounds i true) a2 w2 → AnyG P md ops Q (fun j => bars.contains j) rest.len (listed.setIfInBounds i true) a2 w2 := fun a2 w2 h => by
        refine AnyG.bars _ _ _ _ (fun j hj => ?_) h
        have hne : j ≠ i := by
          rintro rfl
          by_cases hlt : j < listed.size
          · simp [hlt] at hj
          · simp [hlt] at hj
        rw [Bool.eq_iff_iff]
        simp [hnd.mem_erase_iff, hne]
      intro w' hg
      refine ⟨fun h1 => (by rw [h1] at hr; cases hr), fun j hj => ?_⟩
      rw [hr] at hj
      obtain rfl : j = i := by simpa using hj
      have hr' : j ∈ Region.ready md ops listed := by rw [hr]; simp
      obtain ⟨_, o, ho, _⟩ := mem_ready.1 hr'
      simp only [planOps3, ho, wpMix3] at h
      have h1 := h ⟨w', hg⟩
      unfold opG
      simp only [ho]
      split
      · rename_i hw
        rw [if_pos hw] at h1
        exact Oper.wp_mono (fun a2 w2 h2 => ⟨fun hb => (by rw [hnb] at hb; cases hb), hup _ _ (ih _ _ _ _ (hnd.erase _) hev h0 h2)⟩) h1
      · rename_i hw
        rw [if_neg hw] at h1
        exact ⟨fun hb => (by rw [hnb] at hb; cases hb), hup _ _ (ih _ _ _ _ (hnd.erase _) hev h0 h1)⟩
theorem anyG_of_mix3 (hs : Region.noSelect ops = true) (hQ : ∀ c (a : Act) d v w, Q (.panic c) (a.put d v) w → Q (.panic c) a w) :
    ∀ (plan : Plan) (bars : List Nat) (listed : Array Bool) (a : Act) (w : World), bars.Nodup → plan.even = true → mixOk3 md ops bars listed plan = true → wpMix3 P ops Q (planOps3 ops plan) a w →
      AnyG P md ops Q (fun j => bars.contains j) plan.len listed a w :=
  fun plan => (anyG_of_mix3' hs hQ plan).1
theorem wp_region_mix3 {id : Nat} {a : Act} {w : World} (bars : List Nat) (plan : Plan) (hm : P.follows .mixedOrders = true) (hs : Region.noSelect ops = true) (hl : plan.len = ops.size) (hnd : bars.Nodup) (hev : plan.even = true)
    (hB : mixOk3 .any ops bars (Array.replicate ops.size false) plan = true) (hQ : ∀ c (a : Act) d v w, Q (.panic c) (a.put d v) w → Q (.panic c) a w)
    (h : wpMix3 P ops Q (planOps3 ops plan) a w) : (Code.region id ops true).wp P Q a w := by
  refine wp_region_any hm ?_
  have h1 := anyG_of_mix3 (md := .any) hs hQ plan bars _ a w hnd hev hB h
  rw [hl] at h1
  exact (h1.up (Grows.drew w)).any
theorem wpIn_region_mix3 {id : Nat} {a : Act} {w : World} {l n : Nat} (bars : List Nat) (plan : Plan) (hm : P.follows .mixedOrders = true) (hs : Region.noSelect ops = true) (hd : noDefer ops = true) (hl : plan.len = ops.size) (hnd : bars.Nodup) (hev : plan.even = true)
    (hB : mixOk3 .any ops bars (Array.replicate ops.size false) plan = true) (hQ : ∀ c (a : Act) d v w, Q (.panic c) (a.put d v) w → Q (.panic c) a w)
    (h : wpMix3 P ops Q (planOps3 ops plan) a w) : (Code.region id ops true).wpIn (Fence.wide.inRound l) n P Q a w := by
  refine wpIn_region_any hm ?_
  have h1 := anyG_of_mix3 (md := .any) hs hQ plan bars _ a w hnd hev hB h
  rw [hl] at h1
  exact (h1.up (Grows.drew w)).anyIn hd _ _ _ _
end
end Go.Proofs.YtcblefmjacofgaaGreatDoor
namespace Go.Proofs.YtcblefmjacofgaaGreatDoor
open Go.RowKit
structure OwnGrow (w w' : World) (v v' : Value) : Prop where
  by' : w.grownBy w' v.ownBlock
  at' : ∀ g, v'.ownBlock = some g → v.ownBlock = some g ∨ w.heap.size ≤ g
theorem OwnGrow.refl (w : World) (v : Value) : OwnGrow w w v v := ⟨⟨rfl, rfl, rfl, Nat.le_refl _, fun _ _ _ => rfl⟩, fun _ h => .inl h⟩
theorem OwnGrow.trans {a b c : World} {v v' v'' : Value} (h : OwnGrow a b v v') (k : OwnGrow b c v' v'') : OwnGrow a c v v'' := by
  refine ⟨⟨k.by'.os.trans h.by'.os, k.by'.tape.trans h.by'.tape, k.by'.output.trans h.by'.output, Nat.le_trans h.by'.size k.by'.size, fun j hj hne => ?_⟩, fun g hg => ?_⟩
  · refine (k.by'.block j (Nat.lt_of_lt_of_le hj h.by'.size) (fun e => ?_)).trans (h.by'.block j hj hne)
    rcases h.at' j e.symm with h1 | h1
    · exact hne h1.symm
    · omega
  · rcases k.at' g hg with h1 | h1
    · exact h.at' g h1
    · exact .inr (Nat.le_trans h.by'.size h1)
theorem OwnGrow.of_below {w w' : World} {B : Nat} (h : Below B w w') (hB : w.heap.size ≤ B) (v : Value) : OwnGrow w w' v v :=
  ⟨⟨h.os, h.tape, h.output, h.size, fun k hk _ => h.block k (Nat.lt_of_lt_of_le hk hB)⟩, fun _ h => .inl h⟩
theorem OwnGrow.cell {w w' : World} {v v' : Value} (h : OwnGrow w w' v v') {a : Addr} (hlt : a.block < w.heap.size) (hne : v.ownBlock ≠ some a.block) : w'.cell? a = w.cell? a :=
  World.cell?_of_block (h.by'.block _ hlt (fun e => hne e.symm))
theorem OwnGrow.frozen {w w' : World} {v v' : Value} (h : OwnGrow w w' v v') {a : Addr} (hlt : a.block < w.heap.size) (hne : v.ownBlock ≠ some a.block) : w'.frozen? a = w.frozen? a :=
  World.frozen?_of_block (h.by'.block _ hlt (fun e => hne e.symm))
theorem OwnGrow.ne {w w' : World} {v v' : Value} (h : OwnGrow w w' v v') {g : Nat} (hlt : g < w.heap.size) (hne : v.ownBlock ≠ some g) : v'.ownBlock ≠ some g := fun e => by
  rcases h.at' g e with h1 | h1
  · exact hne h1
  · omega
theorem OwnGrow.below {w w' : World} {v v' : Value} (h : OwnGrow w w' v v') {B : Nat} (hB : B ≤ w.heap.size) (hv : ∀ g, v.ownBlock = some g → B ≤ g) : Below B w w' :=
  (Below.refl B w).grown h.by' hB hv
theorem own_base {w : World} {base : Nat} {e : TypeId} {size : Nat} {v : Value} {n : Nat} {xs : List Value} (hown : w.ownsRow base e size v n xs) : ∀ g, v.ownBlock = some g → base ≤ g := fun g hg => (hown.lt g hg).1
theorem app_wpG {P : Program} {w : World} {o : Oper} {a : Act} {K : Act → World → Prop} {Q : Exit → Act → World → Prop} (s x : Operand) (t : TypeId)
    (ho : o.op = .call { callee := .builtin .append, args := #[s, x], argTypes := #[t, t] })
    {e : TypeId} {size bytes : Nat} (he : Elem P t e size bytes)
    {base : Nat} {va : Option Addr} {n c : Nat} {xs : List Value} (hs : a.eval s = .slice va n c) (hown : w.ownsRow base e size (.slice va n c) n xs)
    {B : Nat} {xa : Option Addr} {m xc : Nat} {news : List Value} (hx : a.eval x = .slice xa m xc) (hsl : Sl w B xa m xc size news) (h1 : ∀ u ∈ news, u.oneCell' = true)
    (h63 : n + m ≤ 1000000000000) (hby : bytes ≤ 128) (hbase : base ≤ w.heap.size)
    (h : ∀ a' c' w', w'.ownsRow base e size (.slice a' (n + m) c') (n + m) (xs ++ news) → OwnGrow w w' (.slice va n c) (.slice a' (n + m) c') → K (a.put o.dst (.slice a' (n + m) c')) w') :
    o.wp P a w K Q := by
  obtain ⟨i, z, ht, hi, hz, hsize, hbytes, hzs, hpos⟩ := he
  have hbound : (n + m) * bytes ≤ 140737488355328 := Nat.le_trans (Nat.mul_le_mul h63 hby) (by omega)
  cases xa with
  | none =>
    have hc0 := hsl.nil rfl
    have hm0 : m = 0 := by have := hsl.cap; omega
    subst hm0; subst hc0
    have hn0 : news = [] := List.eq_nil_of_length_eq_zero (by have := hsl.len; omega)
    subst hn0
    have hrun := run_append_owned_none (P := P) (w := w) base t o.type e i size ht hi _ n xs hown
    have hh := h va c w (by simpa using hown) (OwnGrow.refl _ _)
    unfold Oper.wp
    simp [execOp, ho, resolve, invoke, builtin, hs, hx, hrun, Result.andThen]
    rw [Oper.upon_value]
    simpa using hh
  | some ad =>
    have hnews : ∀ j u, news[j]? = some u → w.cell? (ad.add j) = some u := by
      intro j u hu
      obtain ⟨b, o', e', _, hc⟩ := hsl.rd j u hu
      cases e'
      have ha : (⟨b, o', none⟩ : Addr).add j = ⟨b, o' + j, none⟩ := by unfold Addr.add; split <;> simp_all
      rw [ha]
      exact hc
    obtain ⟨v', w', hr, h2, h3, h4, h5⟩ := run_append_own_at (P := P) w base t o.type e i z size bytes ht hi hz hsize hbytes hzs hpos _ n xs hown ad m xc news hsl.len hnews h1 (by unfold maxLen; omega) hbound hbase
    unfold Oper.wp execOp
    simp only [ho, resolve, invoke, builtin, Sem.run_bind, Sem.run_pure, Result.andThen_ok, List.map_toArray, List.map_cons, List.map_nil, hs, hx, hr]
    obtain ⟨a', c', rfl, _⟩ := owns_shape h2
    refine h a' c' w' h2 ⟨h3, fun g hg => ?_⟩
    rcases h5 with h5 | h5
    · exact .inl (h5.symm.trans hg)
    · rw [h5] at hg
      cases hg
      exact .inr (Nat.le_refl _)
theorem app_ownG {P : Program} {w : World} {ops : Array Oper} {rest : List Oper} {o : Oper} {a : Act} {Q : Exit → Act → World → Prop} (hgd : o.guard = none) (s x : Operand) (t : TypeId)
    (ho : o.op = .call { callee := .builtin .append, args := #[s, x], argTypes := #[t, t] })
    {e : TypeId} {size bytes : Nat} (he : Elem P t e size bytes)
    {base : Nat} {va : Option Addr} {n c : Nat} {xs : List Value} (hs : a.eval s = .slice va n c) (hown : w.ownsRow base e size (.slice va n c) n xs)
    {B : Nat} {xa : Option Addr} {m xc : Nat} {news : List Value} (hx : a.eval x = .slice xa m xc) (hsl : Sl w B xa m xc size news) (h1 : ∀ u ∈ news, u.oneCell' = true)
    (h63 : n + m ≤ 1000000000000) (hby : bytes ≤ 128) (hbase : base ≤ w.heap.size)
    (h : ∀ a' c' w', w'.ownsRow base e size (.slice a' (n + m) c') (n + m) (xs ++ news) → OwnGrow w w' (.slice va n c) (.slice a' (n + m) c') → wpList P ops Q rest (a.put o.dst (.slice a' (n + m) c')) w') :
    wpList P ops Q (o :: rest) a w :=
  wpList_plain hgd fun _ hK => app_wpG s x t ho he hs hown hx hsl h1 h63 hby hbase fun a' c' w' h2 h3 => hK _ _ (h a' c' w' h2 h3)
end Go.Proofs.YtcblefmjacofgaaGreatDoor
