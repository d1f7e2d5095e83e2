/- Parts: Base, Base2, D1, Mix, Mix2. -/
import Derived.WalkKit
import Derived.WalkSpells
import Derived.WalkLawsBesides
import Derived.Lib.Hide
import Derived.Laws.AppendOwnNone
import Derived.OwnWalkIn
import Derived.Deep.QuietTactic
import Derived.BigQuiet
import Derived.TacticsInMore
import Derived.OrdersIn
set_option linter.all false
set_option maxRecDepth 100000
set_option maxHeartbeats 16000000
namespace Go.Proofs.YtjhbglklcddekaaGreatDoor
open Go.RowKit
section
def Rd (w : World) (B : Nat) (a : Option Addr) (xs : List Value) : Prop :=
  ∀ j x, xs[j]? = some x → ∃ b o, a = some ⟨b, o, none⟩ ∧ b < B ∧ w.cell? ⟨b, o + j, none⟩ = some x
theorem Rd.of_owns {w : World} {base : Nat} {e : TypeId} {size : Nat} {a : Option Addr} {n c : Nat} {xs : List Value}
    (h : w.ownsRow base e size (.slice a n c) n xs) : Rd w w.heap.size a xs := by
  intro j x hx
  rcases h.2 with ⟨hv, hn⟩ | ⟨g, cap, cur, hv, _⟩
  · have hl := h.1
    subst hn
    simp at hl
    subst hl
    simp at hx
  · simp at hv
    obtain ⟨rfl, rfl⟩ := hv
    have hc := h.cells (g := g) (by simp [Value.ownBlock]) j x hx
    have ha : (⟨g, 0, none⟩ : Addr).add j = ⟨g, 0 + j, none⟩ := by unfold Addr.add; split <;> simp_all
    rw [ha] at hc
    exact ⟨g, 0, rfl, World.block_lt_of_cell? w ⟨g, 0 + j, none⟩ hc, hc⟩
theorem owns_shape {w : World} {base : Nat} {e : TypeId} {size : Nat} {v : Value} {n : Nat} {xs : List Value}
    (h : w.ownsRow base e size v n xs) : ∃ a c, v = .slice a n c ∧ n ≤ c ∧ c ≤ maxLen ∧ (a = none → c = 0) := by
  rcases h.2 with ⟨rfl, rfl⟩ | ⟨g, cap, cur, rfl, _, _, h1, h2, _⟩
  · exact ⟨none, 0, rfl, Nat.le_refl _, Nat.zero_le _, fun _ => rfl⟩
  · exact ⟨_, cap, rfl, h1, h2, fun h => by cases h⟩
structure Sl (w : World) (B : Nat) (a : Option Addr) (n c size : Nat) (xs : List Value) : Prop where
  len : xs.length = n * size
  rd : Rd w B a xs
  cap : n ≤ c
  max : c ≤ maxLen
  nil : a = none → c = 0
theorem Sl.of_owns {w : World} {base : Nat} {e : TypeId} {size : Nat} {a : Option Addr} {n c : Nat} {xs : List Value}
    (h : w.ownsRow base e size (.slice a n c) n xs) : Sl w w.heap.size a n c size xs := by
  refine ⟨h.1, Rd.of_owns h, ?_, ?_, ?_⟩ <;>
  · rcases h.2 with ⟨hv, hn⟩ | ⟨g, cap, cur, hv, _, _, h1, h2, _⟩ <;> simp at hv <;> obtain ⟨rfl, h'⟩ := hv <;> simp_all
def Elem (P : Program) (t e : TypeId) (size bytes : Nat) : Prop :=
  ∃ i z, P.underlying t = some (.slice e) ∧ P.info? e = some i ∧ i.zero = some z ∧ i.size = size ∧ i.bytes = bytes ∧ z.cells.size = size ∧ 0 < size
theorem owns_mono {w : World} {base base' : Nat} {e : TypeId} {size : Nat} {v : Value} {n : Nat} {xs : List Value} (h : w.ownsRow base e size v n xs) (hB : base' ≤ base) : w.ownsRow base' e size v n xs := by
  refine ⟨h.1, ?_⟩
  rcases h.2 with h2 | ⟨g, cap, cur, hv, hg, hh, r⟩
  · exact .inl h2
  · exact .inr ⟨g, cap, cur, hv, Nat.le_trans hB hg, hh, r⟩
theorem owns_new (w : World) (xs : List Value) (e : TypeId) (n size base : Nat) (h : xs.length = n * size) (hm : n ≤ maxLen) (hb : base ≤ w.heap.size) :
    (w.alloc (.cells xs.toArray e)).ownsRow base e size (.slice (some ⟨w.heap.size, 0, none⟩) n n) n xs :=
  ⟨h, .inr ⟨w.heap.size, n, xs.toArray, rfl, hb, heap_alloc_new w _, Nat.le_refl _, hm, by simpa using h, by simp [← h]⟩⟩
end
section
end
section
inductive D where
  | int (k : IntKind) (n : Int)
  | bool (b : Bool)
  | str (s : ByteArray)
  | raw (v : Value)
  | list (sz : Nat) (xs : List D)
  | nil (sz : Nat)
  | agg (cs : List D)
  | ref (cs : List D) (off : Nat)
  | clo (fn : Fn) (first caps : List D)
  | map (ks vs : List D)
def sysO : Obj → Bool
  | .deferred _ => true
  | .loop _ => true
  | _ => false
def Reads (w : World) (M : Nat → Nat → Prop) (a : Option Addr) (ys : List Value) : Prop :=
  ∀ j y, ys[j]? = some y → ∃ b o, a = some ⟨b, o, none⟩ ∧ ¬ M b (o + j) ∧ w.cell? ⟨b, o + j, none⟩ = some y
mutual
def RepD (w : World) (M : Nat → Nat → Prop) : D → Value → Prop
  | .int k n, v => v = .int k n
  | .bool b, v => v = .bool b
  | .str s, v => v = .string s
  | .raw x, v => v = x ∧ x.oneCell' = true
  | .nil _, v => v = .slice none 0 0
  | .list sz xs, v => ∃ (a : Option Addr) (c : Nat) (ys : List Value), v = .slice a xs.length c ∧ xs.length ≤ c ∧ c ≤ maxLen ∧ (a = none → c = 0) ∧ RepE w M sz xs ys ∧ Reads w M a ys
  | .agg cs, v => ∃ vs : List Value, v = .agg vs.toArray ∧ RepA w M cs vs
  | .ref cs off, v => ∃ (b o : Nat) (vs : List Value), v = .pointer (some ⟨b, o + off, none⟩) ∧ RepA w M cs vs ∧ Reads w M (some ⟨b, o, none⟩) vs
  | .clo fn f c, v => ∃ fs gs : List Value, v = .func fn fs.toArray gs.toArray ∧ RepA w M f fs ∧ RepA w M c gs
  | .map ks vs, v => ∃ (r : Nat) (es : Array MapEntry) (c : Nat), v = .map (some r) ∧ w.heap[r]? = some (.map es c) ∧ (∀ o, ¬ M r o) ∧ RepB w M ks (es.toList.map (·.key)) ∧ RepB w M vs (es.toList.map (·.val))
def RepA (w : World) (M : Nat → Nat → Prop) : List D → List Value → Prop
  | [], vs => vs = []
  | x :: xs, vs => ∃ (v : Value) (r : List Value), vs = v :: r ∧ v.oneCell' = true ∧ RepD w M x v ∧ RepA w M xs r
def RepB (w : World) (M : Nat → Nat → Prop) : List D → List Value → Prop
  | [], vs => vs = []
  | x :: xs, vs => ∃ (v : Value) (r : List Value), vs = v :: r ∧ RepD w M x v ∧ RepB w M xs r
def RepE (w : World) (M : Nat → Nat → Prop) (sz : Nat) : List D → List Value → Prop
  | [], vs => vs = []
  | x :: xs, vs => ∃ (v : Value) (r : List Value), vs = v.cells.toList ++ r ∧ v.cells.size = sz ∧ RepD w M x v ∧ RepE w M sz xs r
end
structure Keeps (w : World) (M : Nat → Nat → Prop) (w' : World) (M' : Nat → Nat → Prop) : Prop where
  cell : ∀ b o y, ¬ M b o → w.cell? ⟨b, o, none⟩ = some y → ¬ M' b o ∧ w'.cell? ⟨b, o, none⟩ = some y
  obj : ∀ b ob, sysO ob = false → (∀ o, ¬ M b o) → w.heap[b]? = some ob → (∀ o, ¬ M' b o) ∧ w'.heap[b]? = some ob
theorem Keeps.refl (a : World) (A : Nat → Nat → Prop) : Keeps a A a A := ⟨fun _ _ _ h1 h2 => ⟨h1, h2⟩, fun _ _ _ h1 h2 => ⟨h1, h2⟩⟩
theorem Keeps.weak {a : World} {A B : Nat → Nat → Prop} (h : ∀ b o, B b o → A b o) : Keeps a A a B := ⟨fun _ _ _ h1 h2 => ⟨fun h3 => h1 (h _ _ h3), h2⟩, fun _ _ _ h1 h2 => ⟨fun o h3 => h1 o (h _ _ h3), h2⟩⟩
theorem Reads.keep {w w' : World} {M M' : Nat → Nat → Prop} (k : Keeps w M w' M') {a : Option Addr} {ys : List Value} (h : Reads w M a ys) : Reads w' M' a ys := fun j y hj => by
  obtain ⟨b, o, e, hm, hc⟩ := h j y hj
  obtain ⟨h1, h2⟩ := k.cell b (o + j) y hm hc
  exact ⟨b, o, e, h1, h2⟩
mutual
theorem RepD.keep {w w' : World} {M M' : Nat → Nat → Prop} (k : Keeps w M w' M') : ∀ (x : D) (v : Value), RepD w M x v → RepD w' M' x v
  | .int _ _, _, h => h
  | .bool _, _, h => h
  | .str _, _, h => h
  | .raw _, _, h => h
  | .nil _, _, h => h
  | .list _ xs, _, ⟨a, c, ys, h1, h2, h3, h4, h5, h6⟩ => ⟨a, c, ys, h1, h2, h3, h4, RepE.keep k _ xs ys h5, h6.keep k⟩
  | .agg cs, _, ⟨vs, h1, h2⟩ => ⟨vs, h1, RepA.keep k cs vs h2⟩
  | .ref cs _, _, ⟨b, o, vs, h1, h2, h3⟩ => ⟨b, o, vs, h1, RepA.keep k cs vs h2, h3.keep k⟩
  | .clo _ f c, _, ⟨fs, gs, h1, h2, h3⟩ => ⟨fs, gs, h1, RepA.keep k f fs h2, RepA.keep k c gs h3⟩
  | .map ks vs, _, ⟨r, es, c, h1, h2, h3, h4, h5⟩ => ⟨r, es, c, h1, (k.obj r _ rfl h3 h2).2, (k.obj r _ rfl h3 h2).1, RepB.keep k ks _ h4, RepB.keep k vs _ h5⟩
theorem RepA.keep {w w' : World} {M M' : Nat → Nat → Prop} (k : Keeps w M w' M') : ∀ (xs : List D) (vs : List Value), RepA w M xs vs → RepA w' M' xs vs
  | [], _, h => h
  | x :: xs, _, ⟨v, r, h1, h2, h3, h4⟩ => ⟨v, r, h1, h2, RepD.keep k x v h3, RepA.keep k xs r h4⟩
theorem RepB.keep {w w' : World} {M M' : Nat → Nat → Prop} (k : Keeps w M w' M') : ∀ (xs : List D) (vs : List Value), RepB w M xs vs → RepB w' M' xs vs
  | [], _, h => h
  | x :: xs, _, ⟨v, r, h1, h3, h4⟩ => ⟨v, r, h1, RepD.keep k x v h3, RepB.keep k xs r h4⟩
theorem RepE.keep {w w' : World} {M M' : Nat → Nat → Prop} (k : Keeps w M w' M') : ∀ (sz : Nat) (xs : List D) (vs : List Value), RepE w M sz xs vs → RepE w' M' sz xs vs
  | _, [], _, h => h
  | sz, x :: xs, _, ⟨v, r, h1, h2, h3, h4⟩ => ⟨v, r, h1, h2, RepD.keep k x v h3, RepE.keep k sz xs r h4⟩
end
theorem RepA.length {w : World} {M : Nat → Nat → Prop} : ∀ {xs : List D} {vs : List Value}, RepA w M xs vs → vs.length = xs.length
  | [], _, h => by simp only [RepA] at h; subst h; rfl
  | _ :: xs, _, h => by
    simp only [RepA] at h
    obtain ⟨v, r, rfl, _, _, h4⟩ := h
    simp [RepA.length h4]
theorem RepE.length {w : World} {M : Nat → Nat → Prop} {sz : Nat} : ∀ {xs : List D} {vs : List Value}, RepE w M sz xs vs → vs.length = xs.length * sz
  | [], _, h => by simp only [RepE] at h; subst h; simp
  | _ :: xs, _, h => by
    simp only [RepE] at h
    obtain ⟨v, r, rfl, h2, _, h4⟩ := h
    simp [RepE.length h4, h2, Nat.add_mul, Nat.add_comm]
theorem RepA.one {w : World} {M : Nat → Nat → Prop} : ∀ {xs : List D} {vs : List Value}, RepA w M xs vs → ∀ u ∈ vs, u.oneCell' = true
  | [], _, h, _, hu => by simp only [RepA] at h; subst h; cases hu
  | _ :: xs, _, h, u, hu => by
    simp only [RepA] at h
    obtain ⟨v, r, rfl, h2, _, h4⟩ := h
    rcases List.mem_cons.1 hu with rfl | hu
    · exact h2
    · exact RepA.one h4 u hu
theorem RepD.one {w : World} {M : Nat → Nat → Prop} {x : D} {v : Value} (h : RepD w M x v) : ∀ u ∈ v.cells.toList, u.oneCell' = true := by
  intro u hu
  cases x <;> simp only [RepD] at h
  case agg cs =>
    obtain ⟨vs, rfl, h2⟩ := h
    exact RepA.one h2 u (by simpa [Value.cells] using hu)
  case raw x => obtain ⟨rfl, h1⟩ := h; cases v <;> simp_all [Value.cells, Value.oneCell']
  case list => obtain ⟨a, c, ys, rfl, _⟩ := h; simp [Value.cells] at hu; subst hu; rfl
  case ref => obtain ⟨a, c, ys, rfl, _⟩ := h; simp [Value.cells] at hu; subst hu; rfl
  case clo => obtain ⟨a, c, rfl, _⟩ := h; simp [Value.cells] at hu; subst hu; rfl
  case map => obtain ⟨r, es, c, rfl, _⟩ := h; simp [Value.cells] at hu; subst hu; rfl
  all_goals subst h; simp [Value.cells] at hu; subst hu; rfl
theorem RepE.one {w : World} {M : Nat → Nat → Prop} {sz : Nat} : ∀ {xs : List D} {vs : List Value}, RepE w M sz xs vs → ∀ u ∈ vs, u.oneCell' = true
  | [], _, h, _, hu => by simp only [RepE] at h; subst h; cases hu
  | _ :: xs, _, h, u, hu => by
    simp only [RepE] at h
    obtain ⟨v, r, rfl, _, h3, h4⟩ := h
    rcases List.mem_append.1 hu with hu | hu
    · exact h3.one u hu
    · exact RepE.one h4 u hu
theorem RepA.get {w : World} {M : Nat → Nat → Prop} : ∀ {xs : List D} {vs : List Value}, RepA w M xs vs → ∀ {i : Nat} {x : D}, xs[i]? = some x → ∃ v, vs[i]? = some v ∧ v.oneCell' = true ∧ RepD w M x v
  | [], _, _, _, _, hx => by simp at hx
  | y :: xs, _, h, 0, x, hx => by
    simp only [RepA] at h
    obtain ⟨v, r, rfl, h2, h3, _⟩ := h
    simp at hx
    subst hx
    exact ⟨v, rfl, h2, h3⟩
  | y :: xs, _, h, i + 1, x, hx => by
    simp only [RepA] at h
    obtain ⟨v, r, rfl, h2, h3, h4⟩ := h
    simpa using RepA.get h4 (i := i) (x := x) (by simpa using hx)
theorem RepE.get {w : World} {M : Nat → Nat → Prop} {sz : Nat} : ∀ {xs : List D} {vs : List Value}, RepE w M sz xs vs → ∀ {i : Nat} {x : D}, xs[i]? = some x →
    ∃ v, RepD w M x v ∧ v.cells.size = sz ∧ ∀ j u, v.cells.toList[j]? = some u → vs[i * sz + j]? = some u
  | [], _, _, _, _, hx => by simp at hx
  | y :: xs, _, h, 0, x, hx => by
    simp only [RepE] at h
    obtain ⟨v, r, rfl, h2, h3, _⟩ := h
    simp at hx
    subst hx
    refine ⟨v, h3, h2, fun j u hu => ?_⟩
    have hj : j < v.cells.toList.length := (List.getElem?_eq_some_iff.1 hu).1
    rw [Nat.zero_mul, Nat.zero_add, List.getElem?_append_left hj]
    exact hu
  | y :: xs, _, h, i + 1, x, hx => by
    simp only [RepE] at h
    obtain ⟨v, r, rfl, h2, h3, h4⟩ := h
    obtain ⟨u, k1, k2, k3⟩ := RepE.get h4 (i := i) (x := x) (by simpa using hx)
    refine ⟨u, k1, k2, fun j t ht => ?_⟩
    rw [List.getElem?_append_right (by simp [h2, Nat.add_mul]; omega)]
    have := k3 j t ht
    rwa [show (i + 1) * sz + j - v.cells.toList.length = i * sz + j by simp [h2, Nat.add_mul]; omega]
theorem RepA.append {w : World} {M : Nat → Nat → Prop} : ∀ {xs : List D} {vs : List Value}, RepA w M xs vs → ∀ {ys : List D} {us : List Value}, RepA w M ys us → RepA w M (xs ++ ys) (vs ++ us)
  | [], _, h, _, _, h' => by simp only [RepA] at h; subst h; exact h'
  | y :: xs, _, h, _, _, h' => by
    simp only [RepA] at h
    obtain ⟨v, r, rfl, h2, h3, h4⟩ := h
    exact ⟨v, _, rfl, h2, h3, RepA.append h4 h'⟩
theorem RepE.append {w : World} {M : Nat → Nat → Prop} {sz : Nat} : ∀ {xs : List D} {vs : List Value}, RepE w M sz xs vs → ∀ {ys : List D} {us : List Value}, RepE w M sz ys us → RepE w M sz (xs ++ ys) (vs ++ us)
  | [], _, h, _, _, h' => by simp only [RepE] at h; subst h; exact h'
  | y :: xs, _, h, _, _, h' => by
    simp only [RepE] at h
    obtain ⟨v, r, rfl, h2, h3, h4⟩ := h
    exact ⟨v, _, by rw [List.append_assoc], h2, h3, RepE.append h4 h'⟩
theorem RepA.drop {w : World} {M : Nat → Nat → Prop} : ∀ (k : Nat) {xs : List D} {vs : List Value}, RepA w M xs vs → RepA w M (xs.drop k) (vs.drop k)
  | 0, _, _, h => h
  | k + 1, [], _, h => by simp only [RepA] at h; subst h; simp [RepA]
  | k + 1, y :: xs, _, h => by
    simp only [RepA] at h
    obtain ⟨v, r, rfl, _, _, h4⟩ := h
    exact RepA.drop k h4
theorem RepA.take {w : World} {M : Nat → Nat → Prop} : ∀ (k : Nat) {xs : List D} {vs : List Value}, RepA w M xs vs → RepA w M (xs.take k) (vs.take k)
  | 0, _, _, _ => by simp [RepA]
  | k + 1, [], _, h => by simp only [RepA] at h; subst h; simp [RepA]
  | k + 1, y :: xs, _, h => by
    simp only [RepA] at h
    obtain ⟨v, r, rfl, h2, h3, h4⟩ := h
    exact ⟨v, _, rfl, h2, h3, RepA.take k h4⟩
theorem RepE.drop {w : World} {M : Nat → Nat → Prop} {sz : Nat} : ∀ (k : Nat) {xs : List D} {vs : List Value}, RepE w M sz xs vs → k ≤ xs.length → RepE w M sz (xs.drop k) (vs.drop (k * sz))
  | 0, _, _, h, _ => by simpa using h
  | k + 1, [], _, h, hk => by simp at hk
  | k + 1, y :: xs, _, h, hk => by
    simp only [RepE] at h
    obtain ⟨v, r, rfl, h2, _, h4⟩ := h
    have := RepE.drop k h4 (by simpa using hk)
    have e : (v.cells.toList ++ r).drop ((k + 1) * sz) = r.drop (k * sz) := by
      have hl : v.cells.toList.length = sz := by simpa using h2
      rw [List.drop_append, List.drop_of_length_le (l := v.cells.toList) (by rw [hl, Nat.add_mul]; omega), hl, Nat.add_mul, Nat.one_mul, Nat.add_sub_cancel]
      rfl
    rw [e]
    exact this
theorem RepE.take {w : World} {M : Nat → Nat → Prop} {sz : Nat} : ∀ (k : Nat) {xs : List D} {vs : List Value}, RepE w M sz xs vs → k ≤ xs.length → RepE w M sz (xs.take k) (vs.take (k * sz))
  | 0, _, _, _, _ => by simp [RepE]
  | k + 1, [], _, h, hk => by simp at hk
  | k + 1, y :: xs, _, h, hk => by
    simp only [RepE] at h
    obtain ⟨v, r, rfl, h2, h3, h4⟩ := h
    have := RepE.take k h4 (by simpa using hk)
    refine ⟨v, _, ?_, h2, h3, this⟩
    rw [List.take_append, List.take_of_length_le (by simp [h2, Nat.add_mul])]
    simp [h2, Nat.add_mul]
theorem Reads.nil (w : World) (M : Nat → Nat → Prop) (a : Option Addr) : Reads w M a [] := fun j y h => by simp at h
theorem Keeps.below {w w' : World} {M : Nat → Nat → Prop} (h : Below w.heap.size w w') : Keeps w M w' M := ⟨fun b o y h1 h2 =>
  ⟨h1, (h.cell (p := ⟨b, o, none⟩) (World.block_lt_of_cell? w ⟨b, o, none⟩ h2)).trans h2⟩, fun b ob _ h1 h2 => ⟨h1, (h.block b (Array.getElem?_eq_some_iff.1 h2).1).trans h2⟩⟩
def GlobB (w : World) (M : Nat → Nat → Prop) (g : Nat) (cs : List D) : Prop := ∃ (vs : List Value) (t : TypeId) (f : Nat × Nat), w.heap[g]? = some (.cells vs.toArray t f) ∧ (∀ o, ¬ M g o) ∧ RepA w M cs vs
theorem GlobB.keep {w w' : World} {M M' : Nat → Nat → Prop} (k : Keeps w M w' M') {g : Nat} {cs : List D} (h : GlobB w M g cs) : GlobB w' M' g cs := by
  obtain ⟨vs, t, f, h1, h2, h3⟩ := h
  obtain ⟨q1, q2⟩ := k.obj g _ rfl h2 h1
  exact ⟨vs, t, f, q2, q1, RepA.keep k _ _ h3⟩
theorem GlobB.ref {w : World} {M : Nat → Nat → Prop} {g : Nat} {cs : List D} (h : GlobB w M g cs) : RepD w M (.ref cs 0) (.pointer (some ⟨g, 0, none⟩)) := by
  obtain ⟨vs, t, f, h1, h2, h3⟩ := h
  refine ⟨g, 0, vs, rfl, h3, fun j y hy => ⟨g, 0, rfl, h2 _, ?_⟩⟩
  simp [World.cell?, h1, hy]
theorem RepB.length {w : World} {M : Nat → Nat → Prop} : ∀ {xs : List D} {vs : List Value}, RepB w M xs vs → vs.length = xs.length
  | [], _, h => by simp only [RepB] at h; subst h; rfl
  | _ :: xs, _, h => by
    simp only [RepB] at h
    obtain ⟨v, r, rfl, _, h4⟩ := h
    simp [RepB.length h4]
theorem RepB.get {w : World} {M : Nat → Nat → Prop} : ∀ {xs : List D} {vs : List Value}, RepB w M xs vs → ∀ {i : Nat} {x : D}, xs[i]? = some x → ∃ v, vs[i]? = some v ∧ RepD w M x v
  | [], _, _, _, _, hx => by simp at hx
  | y :: xs, _, h, 0, x, hx => by
    simp only [RepB] at h
    obtain ⟨v, r, rfl, h3, _⟩ := h
    simp at hx
    subst hx
    exact ⟨v, rfl, h3⟩
  | y :: xs, _, h, i + 1, x, hx => by
    simp only [RepB] at h
    obtain ⟨v, r, rfl, h3, h4⟩ := h
    simpa using RepB.get h4 (i := i) (x := x) (by simpa using hx)
theorem RepB.append {w : World} {M : Nat → Nat → Prop} : ∀ {xs : List D} {vs : List Value}, RepB w M xs vs → ∀ {ys : List D} {us : List Value}, RepB w M ys us → RepB w M (xs ++ ys) (vs ++ us)
  | [], _, h, _, _, h' => by simp only [RepB] at h; subst h; exact h'
  | y :: xs, _, h, _, _, h' => by
    simp only [RepB] at h
    obtain ⟨v, r, rfl, h3, h4⟩ := h
    exact ⟨v, _, rfl, h3, RepB.append h4 h'⟩
end
section
def Grows (w w' : World) : Prop := Below w.heap.size w w'
theorem Grows.refl (w : World) : Grows w w := Below.refl _ _
theorem Grows.trans {a b c : World} (h : Grows a b) (k : Grows b c) : Grows a c := Below.trans h (Below.mono k h.size)
theorem Grows.drew (w : World) : Grows w w.drew := (Below.refl _ _).drew
theorem Grows.alloc (w : World) (o : Obj) : Grows w (w.alloc o) := (Below.refl _ _).alloc (Nat.le_refl _) _
structure Late (W : World) where
  w : World
  grows : Grows W w
section
variable {P : Program} {ops : Array Oper} {Q : Exit → Act → World → Prop} {md : Region.Mode}
def opG (P : Program) (ops : Array Oper) (Q : Exit → Act → World → Prop) (i : Nat) (K : Act → World → Prop) (a : Act) (w : World) : Prop :=
  match ops[i]? with
  | none => K a w
  | some o => if Region.wanted o (yielded ops a.tmps) = true then o.wp P a w K Q else K (a.put o.dst undef) w
theorem opG_mono {i : Nat} {K K' : Act → World → Prop} {a : Act} {w : World} (h : ∀ a w, K a w → K' a w) (hh : opG P ops Q i K a w) : opG P ops Q i K' a w := by
  unfold opG at *
  split
  · rename_i ho; simp only [ho] at hh; exact h _ _ hh
  · rename_i o ho
    simp only [ho] at hh
    split
    · rename_i hw; rw [if_pos hw] at hh; exact Oper.wp_mono h hh
    · rename_i hw; rw [if_neg hw] at hh; exact h _ _ hh
def AnyG (P : Program) (md : Region.Mode) (ops : Array Oper) (Q : Exit → Act → World → Prop) (bar : Nat → Bool) : Nat → Array Bool → Act → World → Prop
  | 0, listed, a, w => ∀ w', Grows w w' → Region.ready md ops listed = [] ∧ Q .normal a w'
  | f + 1, listed, a, w => ∀ w', Grows w w' → (Region.ready md ops listed = [] → Q .normal a w') ∧
      ∀ i ∈ Region.ready md ops listed, opG P ops Q i (fun a' w'' => (bar i = false → Grows w' w'') ∧ AnyG P md ops Q bar f (listed.setIfInBounds i true) a' w'') a w'
theorem AnyG.up {bar : Nat → Bool} {f : Nat} {listed : Array Bool} {a : Act} {w w' : World} (h : AnyG P md ops Q bar f listed a w) (hg : Grows w w') : AnyG P md ops Q bar f listed a w' := by
  cases f with
  | zero => exact fun w2 h2 => h w2 (hg.trans h2)
  | succ f => exact fun w2 h2 => h w2 (hg.trans h2)
theorem AnyG.any {bar : Nat → Bool} : ∀ (f : Nat) (listed : Array Bool) (a : Act) (w : World), AnyG P md ops Q bar f listed a w → wpAny P md ops Q f listed a w := by
  intro f
  induction f with
  | zero => intro listed a w h; exact h w (Grows.refl w)
  | succ f ih =>
    intro listed a w h
    obtain ⟨h1, h2⟩ := h w (Grows.refl w)
    refine ⟨h1, fun i hi => ?_⟩
    have h3 := h2 i hi
    unfold opG at h3
    unfold wpOp
    split
    · rename_i ho; simp only [ho] at h3; exact ih _ _ _ h3.2
    · rename_i o ho
      simp only [ho] at h3
      split
      · rename_i hw; rw [if_pos hw] at h3; exact .inl (Oper.wp_mono (fun a w h => ih _ _ _ h.2) h3)
      · rename_i hw; rw [if_neg hw] at h3; exact ih _ _ _ h3.2
def YieldsG (P : Program) (ops : Array Oper) (o : Oper) (v : Value) (a : Act) (w : World) : Prop :=
  (Region.wanted o (yielded ops a.tmps) = true ∧ ∀ w', Grows w w' → Oper.quietUpon P (Grows w') w' v ((execOp a.eval o).run P w')) ∨
  (Region.wanted o (yielded ops a.tmps) = false ∧ v = undef)
theorem YieldsG.up {o : Oper} {v : Value} {a : Act} {w w' : World} (h : YieldsG P ops o v a w) (hg : Grows w w') : YieldsG P ops o v a w' :=
  h.imp (fun ⟨h1, h2⟩ => ⟨h1, fun w2 g => h2 w2 (hg.trans g)⟩) id
theorem YieldsG.of_same {o : Oper} {v : Value} {a a' : Act} {w : World} (hy : YieldsG P ops o v a w) (he : execOp a'.eval o = execOp a.eval o)
    (hw : Region.wanted o (yielded ops a'.tmps) = Region.wanted o (yielded ops a.tmps)) : YieldsG P ops o v a' w := by
  unfold YieldsG at *
  rw [he, hw]
  exact hy
theorem YieldsG.opG {i : Nat} {o : Oper} {v : Value} {a : Act} {w w' : World} (hi : ops[i]? = some o) (hy : YieldsG P ops o v a w) (hg : Grows w w') {K : Act → World → Prop}
    (h : ∀ w'', Grows w' w'' → K (a.put o.dst v) w'') : opG P ops Q i K a w' := by
  unfold Go.Proofs.YtjhbglklcddekaaGreatDoor.opG
  simp only [hi]
  rcases hy with ⟨hw, hv⟩ | ⟨hw, rfl⟩
  · rw [if_pos hw]
    have h3 := hv w' hg
    unfold Oper.wp
    generalize (execOp a.eval o).run P w' = r at *
    cases r with
    | ok x w2 =>
      cases x <;> simp only [Oper.quietUpon] at h3 <;> simp only [Oper.upon]
      case value u => obtain ⟨rfl, rfl⟩ := h3; exact h _ (Grows.refl _)
      case skip => obtain ⟨rfl, rfl⟩ := h3; exact h _ (Grows.refl _)
      case enter f args =>
        obtain ⟨rfl, hc⟩ := h3
        exact hc.mono fun e w3 ⟨he, hg3⟩ => by subst he; exact h _ hg3
    | halt x w2 => simp only [Oper.quietUpon] at h3
  · rw [if_neg (by rw [hw]; decide)]
    exact h _ (Grows.refl _)
theorem opG_put {j : Nat} {oi oj : Oper} {v : Value} (hj : ops[j]? = some oj) (hap : oi.apart ops oj = true)
    (hsi : ∀ cs b, oi.op ≠ .select cs b) (hsj : ∀ cs b, oj.op ≠ .select cs b)
    (hQ : ∀ c a w, Q (.panic c) (a.put oi.dst v) w → Q (.panic c) a w) {K : Act → World → Prop} {a : Act} {w w0 : World}
    (hy : YieldsG P ops oi v a w0) (h : opG P ops Q j K (a.put oi.dst v) w) :
    opG P ops Q j (fun a' w' => YieldsG P ops oi v a' w0 ∧ K (a'.put oi.dst v) w') a w := by
  obtain ⟨h1, h2, h3⟩ := Oper.apart_spec hap
  have keep : ∀ (b : Act), YieldsG P ops oi v b w0 → ∀ u, YieldsG P ops oi v (b.put oj.dst u) w0 := fun b hb u =>
    hb.of_same (execOp_put oi hsi b oj.dst u h3) (wanted_put oi b oj.dst u h3)
  unfold opG at *
  simp only [hj] at *
  rw [wanted_put oj a oi.dst v h1] at h
  split
  · rename_i hw
    rw [if_pos hw] at h
    unfold Oper.wp at *
    rw [execOp_put oj hsj a oi.dst v h1] at h
    generalize (execOp a.eval oj).run P w = r at *
    cases r with
    | ok x w' =>
      cases x <;> simp only [Oper.upon] at h ⊢
      case value u => exact ⟨keep a hy u, by rw [← Act.put_comm a v u h2]; exact h⟩
      case skip => exact ⟨keep a hy _, by rw [← Act.put_comm a v undef h2]; exact h⟩
      case defer d =>
        refine ⟨keep { a with defers := d :: a.defers } (hy.of_same rfl rfl) _, ?_⟩
        rw [← Act.put_comm _ v undef h2, ← Act.put_defers]
        exact h
      case enter f args =>
        refine Calls.mono h fun e w'' he => ?_
        cases e with
        | returned u => exact ⟨keep a hy u, by rw [← Act.put_comm a v u h2]; exact he⟩
        | panicked c => exact hQ _ _ _ he
        | outgrown => exact he
      case row row args => exact Rows.mono h fun u w'' he => ⟨keep a hy u, by rw [← Act.put_comm a v u h2]; exact he⟩
    | halt x w' =>
      cases x <;> simp only [Oper.upon] at h ⊢
      case panic u => exact hQ _ _ _ h
  · rename_i hw
    rw [if_neg hw] at h
    exact ⟨keep a hy _, by rw [← Act.put_comm a v undef h2]; exact h⟩
def noDefer (ops : Array Oper) : Bool := ops.all fun o => match o.op with | .defer _ => false | _ => true
theorem noDefer_spec {ops : Array Oper} (h : noDefer ops = true) {i : Nat} {o : Oper} (ho : ops[i]? = some o) (c : Call) : o.op ≠ .defer c := by
  intro heq
  have := Array.all_eq_true_iff_forall_mem.1 h o (Array.mem_of_getElem? ho)
  simp [heq] at this
theorem wpIn_round_of_wp {o : Oper} {a : Act} {w : World} {K : Act → World → Prop} {l n : Nat} (hd : ∀ c, o.op ≠ .defer c) (h : o.wp P a w K Q) : o.wpIn (Fence.wide.inRound l) n P a w K Q := by
  unfold Oper.wp at h
  refine ⟨fun _ _ => trivial, ?_⟩
  rw [Oper.semAt_eq _ _ _ hd]
  generalize (execOp a.eval o).run P w = r at *
  cases r with
  | ok x w' =>
    cases x <;> simp only [Oper.upon] at h <;> simp only [Oper.uponIn]
    case value v => exact h
    case skip => exact h
    case defer d => exact h
    case enter f args => exact ⟨fun hx => by simp [Fence.wide] at hx, callsIn_wide.2 h⟩
    case row row args =>
      refine ⟨fun hx => by simp [Fence.wide] at hx, fun c cs _ => ?_⟩
      obtain ⟨v, w'', h1, h2⟩ := h c cs
      exact ⟨v, w'', h1, stepsIn_wide.2 h2⟩
  | halt x w' => cases x <;> simp only [Oper.upon] at h <;> simp only [Oper.uponIn] <;> exact h
theorem AnyG.anyIn {bar : Nat → Bool} {l n : Nat} (hd : noDefer ops = true) : ∀ (f : Nat) (listed : Array Bool) (a : Act) (w : World), AnyG P md ops Q bar f listed a w →
    wpAnyIn (Fence.wide.inRound l) n P md ops Q f listed a w := by
  intro f
  induction f with
  | zero => intro listed a w h; exact h w (Grows.refl w)
  | succ f ih =>
    intro listed a w h
    obtain ⟨h1, h2⟩ := h w (Grows.refl w)
    refine ⟨h1, fun i hi => ?_⟩
    have h3 := h2 i hi
    unfold opG at h3
    unfold wpOpIn
    split
    · rename_i ho; simp only [ho] at h3; exact ih _ _ _ h3.2
    · rename_i o ho
      simp only [ho] at h3
      split
      · rename_i hw; rw [if_pos hw] at h3; exact wpIn_round_of_wp (noDefer_spec hd ho) (Oper.wp_mono (fun a w h => ih _ _ _ h.2) h3)
      · rename_i hw; rw [if_neg hw] at h3; exact ⟨fun _ _ => trivial, ih _ _ _ h3.2⟩
end
section
variable {P : Program} {ops : Array Oper} {Q : Exit → Act → World → Prop} {o : Oper} {rest : List (Oper × Way)} {a : Act} {w : World}
end
end
section
section
variable {P : Program} {ops : Array Oper} {Q : Exit → Act → World → Prop} {md : Region.Mode}
theorem AnyG.first2 {bar : Nat → Bool} {i : Nat} {oi : Oper} {v : Value} (hi : ops[i]? = some oi) (hsel : ∀ (j : Nat) (o : Oper) cs b, ops[j]? = some o → o.op ≠ .select cs b)
    (hQ : ∀ c a w, Q (.panic c) (a.put oi.dst v) w → Q (.panic c) a w)
    (D : Nat → Bool) (hD : ∀ k ok, ops[k]? = some ok → D k = true → ∃ e ∈ ok.after, Region.binds md e = true ∧ (e.on = i ∨ D e.on = true)) (hbar : ∀ j, bar j = true → D j = true) :
    ∀ (f : Nat) (listed : Array Bool) (a : Act) (w : World),
      (∀ j oj, ops[j]? = some oj → j ≠ i → listed.getD j true = false → (∀ e ∈ oj.after, Region.binds md e = true → e.on ≠ i) → oi.apart ops oj = true) →
      (∀ k, D k = true → listed.getD k true = false) → i ∈ Region.ready md ops listed → YieldsG P ops oi v a w →
      AnyG P md ops Q bar f (listed.setIfInBounds i true) (a.put oi.dst v) w → AnyG P md ops Q bar (f + 1) listed a w := by
  intro f
  induction f with
  | zero =>
    intro listed a w _ _ hr hy H w' hg
    refine ⟨fun h => (by rw [h] at hr; cases hr), fun j hj => ?_⟩
    by_cases hji : j = i
    · subst hji
      exact hy.opG hi hg fun w'' g => ⟨fun _ => g, H.up (hg.trans g)⟩
    · have := ready_mono hj hji
      rw [(H w' hg).1] at this
      cases this
  | succ f ih =>
    intro listed a w hfree hun0 hr hy H w' hg
    refine ⟨fun h => (by rw [h] at hr; cases hr), fun j hj => ?_⟩
    by_cases hji : j = i
    · subst hji
      exact hy.opG hi hg fun w'' g => ⟨fun _ => g, H.up (hg.trans g)⟩
    · obtain ⟨hjun, oj, hoj, hall⟩ := mem_ready.1 hj
      have hnot : ∀ e ∈ oj.after, Region.binds md e = true → e.on ≠ i := fun e he hb heq => by
        have h1 := hall e he hb
        have h0 := (mem_ready.1 hr).1
        rw [heq] at h1
        rcases Nat.lt_or_ge i listed.size with h' | h'
        · simp [h'] at h0 h1; rw [h0] at h1; cases h1
        · simp [Array.getElem?_eq_none h'] at h1
      have hDj : D j = false := by
        cases hb : D j with
        | false => rfl
        | true =>
          obtain ⟨e, he, hb1, hb2⟩ := hD j oj hoj hb
          rcases hb2 with hb2 | hb2
          · exact absurd hb2 (hnot e he hb1)
          · have h1 := hall e he hb1
            have h2 := hun0 _ hb2
            rcases Nat.lt_or_ge e.on listed.size with h' | h'
            · simp [h'] at h1 h2; rw [h2] at h1; cases h1
            · simp [Array.getElem?_eq_none h'] at h1
      have hbj : bar j = false := by
        cases hb : bar j with
        | false => rfl
        | true => rw [hbar j hb] at hDj; cases hDj
      have h1 := (H w' hg).2 j (ready_mono hj hji)
      have h2 := opG_put hoj (hfree j oj hoj hji hjun hnot) (fun cs b => hsel i oi cs b hi) (fun cs b => hsel j oj cs b hoj) hQ hy h1
      have hfree' : ∀ k ok, ops[k]? = some ok → k ≠ i → (listed.setIfInBounds j true).getD k true = false →
          (∀ e ∈ ok.after, Region.binds md e = true → e.on ≠ i) → oi.apart ops ok = true := fun k ok hk hki hun hno => by
        refine hfree k ok hk hki ?_ hno
        by_cases hjk : j = k
        · subst hjk; exact hjun
        · rw [getD_set_ne true hjk] at hun; exact hun
      refine opG_mono (fun a' w'' h3 => ⟨fun _ => h3.2.1 hbj, ih (listed.setIfInBounds j true) a' w'' hfree' (fun k hk => by
        rw [getD_set_ne true (show j ≠ k by rintro rfl; rw [hDj] at hk; cases hk)]
        exact hun0 k hk) (ready_mono hr (Ne.symm hji)) (h3.1.up (hg.trans (h3.2.1 hbj))) ?_⟩) h2
      rw [Array.setIfInBounds_comm _ _ hji]
      exact h3.2.2
def waitOk (md : Region.Mode) (ops : Array Oper) (bars : List Nat) (listed : Array Bool) (i : Nat) (D : List Nat) : Bool :=
  D.all (fun k => match ops[k]? with
    | some ok => ok.after.any (fun e => Region.binds md e && (e.on == i || D.contains e.on))
    | none => false) && D.all (fun k => !listed.getD k true) && bars.all (fun j => D.contains j)
theorem waitOk_spec {md : Region.Mode} {ops : Array Oper} {bars : List Nat} {listed : Array Bool} {i : Nat} {D : List Nat} (h : waitOk md ops bars listed i D = true) :
    (∀ k ok, ops[k]? = some ok → D.contains k = true → ∃ e ∈ ok.after, Region.binds md e = true ∧ (e.on = i ∨ D.contains e.on = true)) ∧ (∀ k, D.contains k = true → listed.getD k true = false) ∧ (∀ j, bars.contains j = true → D.contains j = true) := by
  simp only [waitOk, Bool.and_eq_true, List.all_eq_true] at h
  obtain ⟨⟨h1, h2⟩, h3⟩ := h
  refine ⟨fun k ok hk hD => ?_, fun k hD => by simpa using h2 k (by simpa using hD), fun j hj => h3 j (by simpa using hj)⟩
  have := h1 k (by simpa using hD)
  simp only [hk, Array.any_eq_true'] at this
  obtain ⟨e, he, h4⟩ := this
  simp only [Bool.and_eq_true, Bool.or_eq_true, beq_iff_eq] at h4
  exact ⟨e, he, h4.1, h4.2⟩
end
end
end Go.Proofs.YtjhbglklcddekaaGreatDoor
