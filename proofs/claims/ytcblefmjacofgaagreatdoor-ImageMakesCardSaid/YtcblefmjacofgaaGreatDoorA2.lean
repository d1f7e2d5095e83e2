/- Parts: D1, D2, D3, D4, D5, D6, D7, D8. -/
import Derived.Test.YtcblefmjacofgaaGreatDoorA1
import Derived.TacticsIn
set_option linter.all false
set_option linter.unusedVariables false
set_option linter.unusedSimpArgs false
namespace Go.Proofs.YtcblefmjacofgaaGreatDoor
open Go.RowKit
inductive D where
  | int (k : IntKind) (n : Int)
  | bool (b : Bool)
  | str (s : ByteArray)
  | raw (v : Value)
  | list (sz : Nat) (xs : List D)
  | nil (sz : Nat)
  | agg (cs : List D)
  | ref (cs : List D) (off : Nat)
  | clo (fn : Fn) (first caps : List D)
  | map (ks vs : List D)
def sysO : Obj → Bool
  | .deferred _ => true
  | .loop _ => true
  | _ => false
def Reads (w : World) (M : Nat → Nat → Prop) (a : Option Addr) (ys : List Value) : Prop :=
  ∀ j y, ys[j]? = some y → ∃ b o, a = some ⟨b, o, none⟩ ∧ ¬ M b (o + j) ∧ w.cell? ⟨b, o + j, none⟩ = some y
mutual
def RepD (w : World) (M : Nat → Nat → Prop) : D → Value → Prop
  | .int k n, v => v = .int k n
  | .bool b, v => v = .bool b
  | .str s, v => v = .string s
  | .raw x, v => v = x ∧ x.oneCell' = true
  | .nil _, v => v = .slice none 0 0
  | .list sz xs, v => ∃ (a : Option Addr) (c : Nat) (ys : List Value), v = .slice a xs.length c ∧ xs.length ≤ c ∧ c ≤ maxLen ∧ (a = none → c = 0) ∧ RepE w M sz xs ys ∧ Reads w M a ys
  | .agg cs, v => ∃ vs : List Value, v = .agg vs.toArray ∧ RepA w M cs vs
  | .ref cs off, v => ∃ (b o : Nat) (vs : List Value), v = .pointer (some ⟨b, o + off, none⟩) ∧ RepA w M cs vs ∧ Reads w M (some ⟨b, o, none⟩) vs
  | .clo fn f c, v => ∃ fs gs : List Value, v = .func fn fs.toArray gs.toArray ∧ RepA w M f fs ∧ RepA w M c gs
  | .map ks vs, v => ∃ (r : Nat) (es : Array MapEntry) (c : Nat), v = .map (some r) ∧ w.heap[r]? = some (.map es c) ∧ (∀ o, ¬ M r o) ∧ RepB w M ks (es.toList.map (·.key)) ∧ RepB w M vs (es.toList.map (·.val))
def RepA (w : World) (M : Nat → Nat → Prop) : List D → List Value → Prop
  | [], vs => vs = []
  | x :: xs, vs => ∃ (v : Value) (r : List Value), vs = v :: r ∧ v.oneCell' = true ∧ RepD w M x v ∧ RepA w M xs r
def RepB (w : World) (M : Nat → Nat → Prop) : List D → List Value → Prop
  | [], vs => vs = []
  | x :: xs, vs => ∃ (v : Value) (r : List Value), vs = v :: r ∧ RepD w M x v ∧ RepB w M xs r
def RepE (w : World) (M : Nat → Nat → Prop) (sz : Nat) : List D → List Value → Prop
  | [], vs => vs = []
  | x :: xs, vs => ∃ (v : Value) (r : List Value), vs = v.cells.toList ++ r ∧ v.cells.size = sz ∧ RepD w M x v ∧ RepE w M sz xs r
end
structure Keeps (w : World) (M : Nat → Nat → Prop) (w' : World) (M' : Nat → Nat → Prop) : Prop where
  cell : ∀ b o y, ¬ M b o → w.cell? ⟨b, o, none⟩ = some y → ¬ M' b o ∧ w'.cell? ⟨b, o, none⟩ = some y
  obj : ∀ b ob, sysO ob = false → (∀ o, ¬ M b o) → w.heap[b]? = some ob → (∀ o, ¬ M' b o) ∧ w'.heap[b]? = some ob
theorem Keeps.trans {a b c : World} {A B C : Nat → Nat → Prop} (h : Keeps a A b B) (k : Keeps b B c C) : Keeps a A c C :=
  ⟨fun x o y h1 h2 => let ⟨h3, h4⟩ := h.cell x o y h1 h2; k.cell x o y h3 h4, fun x o hs h1 h2 => let ⟨h3, h4⟩ := h.obj x o hs h1 h2; k.obj x o hs h3 h4⟩
theorem Keeps.refl (a : World) (A : Nat → Nat → Prop) : Keeps a A a A := ⟨fun _ _ _ h1 h2 => ⟨h1, h2⟩, fun _ _ _ h1 h2 => ⟨h1, h2⟩⟩
theorem Keeps.weak {a : World} {A B : Nat → Nat → Prop} (h : ∀ b o, B b o → A b o) : Keeps a A a B := ⟨fun _ _ _ h1 h2 => ⟨fun h3 => h1 (h _ _ h3), h2⟩, fun _ _ _ h1 h2 => ⟨fun o h3 => h1 o (h _ _ h3), h2⟩⟩
theorem Reads.keep {w w' : World} {M M' : Nat → Nat → Prop} (k : Keeps w M w' M') {a : Option Addr} {ys : List Value} (h : Reads w M a ys) : Reads w' M' a ys := fun j y hj => by
  obtain ⟨b, o, e, hm, hc⟩ := h j y hj
  obtain ⟨h1, h2⟩ := k.cell b (o + j) y hm hc
  exact ⟨b, o, e, h1, h2⟩
mutual
theorem RepD.keep {w w' : World} {M M' : Nat → Nat → Prop} (k : Keeps w M w' M') : ∀ (x : D) (v : Value), RepD w M x v → RepD w' M' x v
  | .int _ _, _, h => h
  | .bool _, _, h => h
  | .str _, _, h => h
  | .raw _, _, h => h
  | .nil _, _, h => h
  | .list _ xs, _, ⟨a, c, ys, h1, h2, h3, h4, h5, h6⟩ => ⟨a, c, ys, h1, h2, h3, h4, RepE.keep k _ xs ys h5, h6.keep k⟩
  | .agg cs, _, ⟨vs, h1, h2⟩ => ⟨vs, h1, RepA.keep k cs vs h2⟩
  | .ref cs _, _, ⟨b, o, vs, h1, h2, h3⟩ => ⟨b, o, vs, h1, RepA.keep k cs vs h2, h3.keep k⟩
  | .clo _ f c, _, ⟨fs, gs, h1, h2, h3⟩ => ⟨fs, gs, h1, RepA.keep k f fs h2, RepA.keep k c gs h3⟩
  | .map ks vs, _, ⟨r, es, c, h1, h2, h3, h4, h5⟩ => ⟨r, es, c, h1, (k.obj r _ rfl h3 h2).2, (k.obj r _ rfl h3 h2).1, RepB.keep k ks _ h4, RepB.keep k vs _ h5⟩
theorem RepA.keep {w w' : World} {M M' : Nat → Nat → Prop} (k : Keeps w M w' M') : ∀ (xs : List D) (vs : List Value), RepA w M xs vs → RepA w' M' xs vs
  | [], _, h => h
  | x :: xs, _, ⟨v, r, h1, h2, h3, h4⟩ => ⟨v, r, h1, h2, RepD.keep k x v h3, RepA.keep k xs r h4⟩
theorem RepB.keep {w w' : World} {M M' : Nat → Nat → Prop} (k : Keeps w M w' M') : ∀ (xs : List D) (vs : List Value), RepB w M xs vs → RepB w' M' xs vs
  | [], _, h => h
  | x :: xs, _, ⟨v, r, h1, h3, h4⟩ => ⟨v, r, h1, RepD.keep k x v h3, RepB.keep k xs r h4⟩
theorem RepE.keep {w w' : World} {M M' : Nat → Nat → Prop} (k : Keeps w M w' M') : ∀ (sz : Nat) (xs : List D) (vs : List Value), RepE w M sz xs vs → RepE w' M' sz xs vs
  | _, [], _, h => h
  | sz, x :: xs, _, ⟨v, r, h1, h2, h3, h4⟩ => ⟨v, r, h1, h2, RepD.keep k x v h3, RepE.keep k sz xs r h4⟩
end
theorem RepA.length {w : World} {M : Nat → Nat → Prop} : ∀ {xs : List D} {vs : List Value}, RepA w M xs vs → vs.length = xs.length
  | [], _, h => by simp only [RepA] at h; subst h; rfl
  | _ :: xs, _, h => by
    simp only [RepA] at h
    obtain ⟨v, r, rfl, _, _, h4⟩ := h
    simp [RepA.length h4]
theorem RepE.length {w : World} {M : Nat → Nat → Prop} {sz : Nat} : ∀ {xs : List D} {vs : List Value}, RepE w M sz xs vs → vs.length = xs.length * sz
  | [], _, h => by simp only [RepE] at h; subst h; simp
  | _ :: xs, _, h => by
    simp only [RepE] at h
    obtain ⟨v, r, rfl, h2, _, h4⟩ := h
    simp [RepE.length h4, h2, Nat.add_mul, Nat.add_comm]
theorem RepA.one {w : World} {M : Nat → Nat → Prop} : ∀ {xs : List D} {vs : List Value}, RepA w M xs vs → ∀ u ∈ vs, u.oneCell' = true
  | [], _, h, _, hu => by simp only [RepA] at h; subst h; cases hu
  | _ :: xs, _, h, u, hu => by
    simp only [RepA] at h
    obtain ⟨v, r, rfl, h2, _, h4⟩ := h
    rcases List.mem_cons.1 hu with rfl | hu
    · exact h2
    · exact RepA.one h4 u hu
theorem RepD.one {w : World} {M : Nat → Nat → Prop} {x : D} {v : Value} (h : RepD w M x v) : ∀ u ∈ v.cells.toList, u.oneCell' = true := by
  intro u hu
  cases x <;> simp only [RepD] at h
  case agg cs =>
    obtain ⟨vs, rfl, h2⟩ := h
    exact RepA.one h2 u (by simpa [Value.cells] using hu)
  case raw x => obtain ⟨rfl, h1⟩ := h; cases v <;> simp_all [Value.cells, Value.oneCell']
  case list => obtain ⟨a, c, ys, rfl, _⟩ := h; simp [Value.cells] at hu; subst hu; rfl
  case ref => obtain ⟨a, c, ys, rfl, _⟩ := h; simp [Value.cells] at hu; subst hu; rfl
  case clo => obtain ⟨a, c, rfl, _⟩ := h; simp [Value.cells] at hu; subst hu; rfl
  case map => obtain ⟨r, es, c, rfl, _⟩ := h; simp [Value.cells] at hu; subst hu; rfl
  all_goals subst h; simp [Value.cells] at hu; subst hu; rfl
theorem RepE.one {w : World} {M : Nat → Nat → Prop} {sz : Nat} : ∀ {xs : List D} {vs : List Value}, RepE w M sz xs vs → ∀ u ∈ vs, u.oneCell' = true
  | [], _, h, _, hu => by simp only [RepE] at h; subst h; cases hu
  | _ :: xs, _, h, u, hu => by
    simp only [RepE] at h
    obtain ⟨v, r, rfl, _, h3, h4⟩ := h
    rcases List.mem_append.1 hu with hu | hu
    · exact h3.one u hu
    · exact RepE.one h4 u hu
theorem RepA.get {w : World} {M : Nat → Nat → Prop} : ∀ {xs : List D} {vs : List Value}, RepA w M xs vs → ∀ {i : Nat} {x : D}, xs[i]? = some x → ∃ v, vs[i]? = some v ∧ v.oneCell' = true ∧ RepD w M x v
  | [], _, _, _, _, hx => by simp at hx
  | y :: xs, _, h, 0, x, hx => by
    simp only [RepA] at h
    obtain ⟨v, r, rfl, h2, h3, _⟩ := h
    simp at hx
    subst hx
    exact ⟨v, rfl, h2, h3⟩
  | y :: xs, _, h, i + 1, x, hx => by
    simp only [RepA] at h
    obtain ⟨v, r, rfl, h2, h3, h4⟩ := h
    simpa using RepA.get h4 (i := i) (x := x) (by simpa using hx)
theorem RepE.get {w : World} {M : Nat → Nat → Prop} {sz : Nat} : ∀ {xs : List D} {vs : List Value}, RepE w M sz xs vs → ∀ {i : Nat} {x : D}, xs[i]? = some x →
    ∃ v, RepD w M x v ∧ v.cells.size = sz ∧ ∀ j u, v.cells.toList[j]? = some u → vs[i * sz + j]? = some u
  | [], _, _, _, _, hx => by simp at hx
  | y :: xs, _, h, 0, x, hx => by
    simp only [RepE] at h
    obtain ⟨v, r, rfl, h2, h3, _⟩ := h
    simp at hx
    subst hx
    refine ⟨v, h3, h2, fun j u hu => ?_⟩
    have hj : j < v.cells.toList.length := (List.getElem?_eq_some_iff.1 hu).1
    rw [Nat.zero_mul, Nat.zero_add, List.getElem?_append_left hj]
    exact hu
  | y :: xs, _, h, i + 1, x, hx => by
    simp only [RepE] at h
    obtain ⟨v, r, rfl, h2, h3, h4⟩ := h
    obtain ⟨u, k1, k2, k3⟩ := RepE.get h4 (i := i) (x := x) (by simpa using hx)
    refine ⟨u, k1, k2, fun j t ht => ?_⟩
    rw [List.getElem?_append_right (by simp [h2, Nat.add_mul]; omega)]
    have := k3 j t ht
    rwa [show (i + 1) * sz + j - v.cells.toList.length = i * sz + j by simp [h2, Nat.add_mul]; omega]
theorem RepA.append {w : World} {M : Nat → Nat → Prop} : ∀ {xs : List D} {vs : List Value}, RepA w M xs vs → ∀ {ys : List D} {us : List Value}, RepA w M ys us → RepA w M (xs ++ ys) (vs ++ us)
  | [], _, h, _, _, h' => by simp only [RepA] at h; subst h; exact h'
  | y :: xs, _, h, _, _, h' => by
    simp only [RepA] at h
    obtain ⟨v, r, rfl, h2, h3, h4⟩ := h
    exact ⟨v, _, rfl, h2, h3, RepA.append h4 h'⟩
theorem RepE.append {w : World} {M : Nat → Nat → Prop} {sz : Nat} : ∀ {xs : List D} {vs : List Value}, RepE w M sz xs vs → ∀ {ys : List D} {us : List Value}, RepE w M sz ys us → RepE w M sz (xs ++ ys) (vs ++ us)
  | [], _, h, _, _, h' => by simp only [RepE] at h; subst h; exact h'
  | y :: xs, _, h, _, _, h' => by
    simp only [RepE] at h
    obtain ⟨v, r, rfl, h2, h3, h4⟩ := h
    exact ⟨v, _, by rw [List.append_assoc], h2, h3, RepE.append h4 h'⟩
theorem RepA.drop {w : World} {M : Nat → Nat → Prop} : ∀ (k : Nat) {xs : List D} {vs : List Value}, RepA w M xs vs → RepA w M (xs.drop k) (vs.drop k)
  | 0, _, _, h => h
  | k + 1, [], _, h => by simp only [RepA] at h; subst h; simp [RepA]
  | k + 1, y :: xs, _, h => by
    simp only [RepA] at h
    obtain ⟨v, r, rfl, _, _, h4⟩ := h
    exact RepA.drop k h4
theorem RepA.take {w : World} {M : Nat → Nat → Prop} : ∀ (k : Nat) {xs : List D} {vs : List Value}, RepA w M xs vs → RepA w M (xs.take k) (vs.take k)
  | 0, _, _, _ => by simp [RepA]
  | k + 1, [], _, h => by simp only [RepA] at h; subst h; simp [RepA]
  | k + 1, y :: xs, _, h => by
    simp only [RepA] at h
    obtain ⟨v, r, rfl, h2, h3, h4⟩ := h
    exact ⟨v, _, rfl, h2, h3, RepA.take k h4⟩
theorem RepE.drop {w : World} {M : Nat → Nat → Prop} {sz : Nat} : ∀ (k : Nat) {xs : List D} {vs : List Value}, RepE w M sz xs vs → k ≤ xs.length → RepE w M sz (xs.drop k) (vs.drop (k * sz))
  | 0, _, _, h, _ => by simpa using h
  | k + 1, [], _, h, hk => by simp at hk
  | k + 1, y :: xs, _, h, hk => by
    simp only [RepE] at h
    obtain ⟨v, r, rfl, h2, _, h4⟩ := h
    have := RepE.drop k h4 (by simpa using hk)
    have e : (v.cells.toList ++ r).drop ((k + 1) * sz) = r.drop (k * sz) := by
      have hl : v.cells.toList.length = sz := by simpa using h2
      rw [List.drop_append, List.drop_of_length_le (l := v.cells.toList) (by rw [hl, Nat.add_mul]; omega), hl, Nat.add_mul, Nat.one_mul, Nat.add_sub_cancel]
      rfl
    rw [e]
    exact this
theorem RepE.take {w : World} {M : Nat → Nat → Prop} {sz : Nat} : ∀ (k : Nat) {xs : List D} {vs : List Value}, RepE w M sz xs vs → k ≤ xs.length → RepE w M sz (xs.take k) (vs.take (k * sz))
  | 0, _, _, _, _ => by simp [RepE]
  | k + 1, [], _, h, hk => by simp at hk
  | k + 1, y :: xs, _, h, hk => by
    simp only [RepE] at h
    obtain ⟨v, r, rfl, h2, h3, h4⟩ := h
    have := RepE.take k h4 (by simpa using hk)
    refine ⟨v, _, ?_, h2, h3, this⟩
    rw [List.take_append, List.take_of_length_le (by simp [h2, Nat.add_mul])]
    simp [h2, Nat.add_mul]
theorem Reads.drop {w : World} {M : Nat → Nat → Prop} {b o : Nat} {ys : List Value} (h : Reads w M (some ⟨b, o, none⟩) ys) (k : Nat) : Reads w M (some ⟨b, o + k, none⟩) (ys.drop k) := fun j y hj => by
  rw [List.getElem?_drop] at hj
  obtain ⟨b', o', e, h1, h2⟩ := h (k + j) y hj
  cases e
  exact ⟨b, o + k, rfl, by rwa [Nat.add_assoc], by rwa [Nat.add_assoc]⟩
theorem Reads.take {w : World} {M : Nat → Nat → Prop} {a : Option Addr} {ys : List Value} (h : Reads w M a ys) (k : Nat) : Reads w M a (ys.take k) := fun j y hj => by
  rw [List.getElem?_take] at hj
  split at hj
  · exact h j y hj
  · cases hj
theorem Reads.nil (w : World) (M : Nat → Nat → Prop) (a : Option Addr) : Reads w M a [] := fun j y h => by simp at h
theorem Keeps.below {w w' : World} {M : Nat → Nat → Prop} (h : Below w.heap.size w w') : Keeps w M w' M := ⟨fun b o y h1 h2 =>
  ⟨h1, (h.cell (p := ⟨b, o, none⟩) (World.block_lt_of_cell? w ⟨b, o, none⟩ h2)).trans h2⟩, fun b ob _ h1 h2 => ⟨h1, (h.block b (Array.getElem?_eq_some_iff.1 h2).1).trans h2⟩⟩
def GlobB (w : World) (M : Nat → Nat → Prop) (g : Nat) (cs : List D) : Prop := ∃ (vs : List Value) (t : TypeId) (f : Nat × Nat), w.heap[g]? = some (.cells vs.toArray t f) ∧ (∀ o, ¬ M g o) ∧ RepA w M cs vs
theorem GlobB.keep {w w' : World} {M M' : Nat → Nat → Prop} (k : Keeps w M w' M') {g : Nat} {cs : List D} (h : GlobB w M g cs) : GlobB w' M' g cs := by
  obtain ⟨vs, t, f, h1, h2, h3⟩ := h
  obtain ⟨q1, q2⟩ := k.obj g _ rfl h2 h1
  exact ⟨vs, t, f, q2, q1, RepA.keep k _ _ h3⟩
theorem GlobB.ref {w : World} {M : Nat → Nat → Prop} {g : Nat} {cs : List D} (h : GlobB w M g cs) : RepD w M (.ref cs 0) (.pointer (some ⟨g, 0, none⟩)) := by
  obtain ⟨vs, t, f, h1, h2, h3⟩ := h
  refine ⟨g, 0, vs, rfl, h3, fun j y hy => ⟨g, 0, rfl, h2 _, ?_⟩⟩
  simp [World.cell?, h1, hy]
theorem RepB.length {w : World} {M : Nat → Nat → Prop} : ∀ {xs : List D} {vs : List Value}, RepB w M xs vs → vs.length = xs.length
  | [], _, h => by simp only [RepB] at h; subst h; rfl
  | _ :: xs, _, h => by
    simp only [RepB] at h
    obtain ⟨v, r, rfl, _, h4⟩ := h
    simp [RepB.length h4]
theorem RepB.get {w : World} {M : Nat → Nat → Prop} : ∀ {xs : List D} {vs : List Value}, RepB w M xs vs → ∀ {i : Nat} {x : D}, xs[i]? = some x → ∃ v, vs[i]? = some v ∧ RepD w M x v
  | [], _, _, _, _, hx => by simp at hx
  | y :: xs, _, h, 0, x, hx => by
    simp only [RepB] at h
    obtain ⟨v, r, rfl, h3, _⟩ := h
    simp at hx
    subst hx
    exact ⟨v, rfl, h3⟩
  | y :: xs, _, h, i + 1, x, hx => by
    simp only [RepB] at h
    obtain ⟨v, r, rfl, h3, h4⟩ := h
    simpa using RepB.get h4 (i := i) (x := x) (by simpa using hx)
theorem RepB.append {w : World} {M : Nat → Nat → Prop} : ∀ {xs : List D} {vs : List Value}, RepB w M xs vs → ∀ {ys : List D} {us : List Value}, RepB w M ys us → RepB w M (xs ++ ys) (vs ++ us)
  | [], _, h, _, _, h' => by simp only [RepB] at h; subst h; exact h'
  | y :: xs, _, h, _, _, h' => by
    simp only [RepB] at h
    obtain ⟨v, r, rfl, h3, h4⟩ := h
    exact ⟨v, _, rfl, h3, RepB.append h4 h'⟩
theorem RepB.set {w : World} {M : Nat → Nat → Prop} : ∀ {xs : List D} {vs : List Value}, RepB w M xs vs → ∀ (i : Nat) {x : D} {v : Value}, RepD w M x v → RepB w M (xs.set i x) (vs.set i v)
  | [], _, h, i, _, _, _ => by simp only [RepB] at h; subst h; simp [RepB]
  | y :: xs, _, h, 0, x, v, hx => by
    simp only [RepB] at h
    obtain ⟨u, r, rfl, h2, h3⟩ := h
    exact ⟨v, r, rfl, hx, h3⟩
  | y :: xs, _, h, i + 1, x, v, hx => by
    simp only [RepB] at h
    obtain ⟨u, r, rfl, h2, h3⟩ := h
    exact ⟨u, _, rfl, h2, RepB.set h3 i hx⟩
end Go.Proofs.YtcblefmjacofgaaGreatDoor
namespace Go.Proofs.YtcblefmjacofgaaGreatDoor
open Go.RowKit
inductive V where
  | d (x : D)
  | own (n k : Nat)
  | nils (sz : Nat)
  | ptr (n off : Nat)
  | sl (n off l c : Nat)
  | el (n k i off : Nat)
  | suf (n k p : Nat)
  | map (n : Nat)
  | clo (fn : Fn) (first caps : List V)
  | tup (vs : List V)
  | agg (vs : List V)
inductive Ob where
  | box (cs : List V)
  | row (e sz : Nat) (sh : Bool) (xs : List D) (k : Nat)
  | map (ks vs : List D)
  | imap (cs : List V)
def look {α : Type} (t : Nat) : List (Nat × α) → Option α
  | [] => none
  | (s, v) :: r => bif Nat.beq s t then some v else look t r
theorem beq_false {s t : Nat} : Nat.beq s t = false ↔ s ≠ t := by
  constructor
  · rintro h rfl
    simp at h
  · intro h
    cases hb : Nat.beq s t with
    | false => rfl
    | true => exact absurd (Nat.eq_of_beq_eq_true hb) h
theorem look_cons {α : Type} (t s : Nat) (v : α) (r : List (Nat × α)) : look t ((s, v) :: r) = if s = t then some v else look t r := by
  show (bif Nat.beq s t then some v else look t r) = _
  by_cases h : s = t
  · subst h; simp
  · simp only [beq_false.2 h, cond_false, if_neg h]
theorem look_mem {α : Type} {t : Nat} : ∀ {l : List (Nat × α)} {v : α}, look t l = some v → (t, v) ∈ l
  | [], _, h => by simp [look] at h
  | (s, u) :: r, v, h => by
    rw [look_cons] at h
    split at h
    · rename_i e; subst e; cases h; exact List.mem_cons_self
    · exact List.mem_cons_of_mem _ (look_mem h)
def hb : Value → Option Nat
  | .pointer (some a) => some a.block
  | .slice (some a) _ _ => some a.block
  | .map (some r) => some r
  | _ => none
def Ob.mut : Ob → Nat → Prop
  | .box _, _ => True
  | .row _ sz sh xs _, o => sh = false ∨ xs.length * sz ≤ o
  | .map _ _, _ => True
  | .imap _, _ => True
theorem Ob.mut_some (ob : Ob) : ∃ o, ob.mut o := by
  cases ob with
  | row e sz sh xs k => exact ⟨xs.length * sz, .inr (Nat.le_refl _)⟩
  | _ => exact ⟨0, trivial⟩
structure Sd where
  env : List (Nat × V)
  H : List (Nat × Ob)
  gl : List (Nat × List D)
structure Ctx where
  nt : Nat
  E : List Nat
  w0 : World
  M0 : Nat → Nat → Prop
  N : List Nat
  b0 : Nat → Value
  g : Nat → Value
  sys : List (Nat × Obj)
def Ctx.fn (nt : Nat) (w : World) (M : Nat → Nat → Prop) : Ctx := ⟨nt, [], w, M, [], fun _ => .nilFunc, fun _ => .nilFunc, []⟩
def slotV (C : Ctx) (a : Act) (t : Nat) : Option Value := bif Nat.blt t 100000 then a.tmps[t]? else some (C.g t)
def markOf (D : Nat) : Deferred := { target := .collected D, args := #[] }
def Mut (M0 : Nat → Nat → Prop) (β : Nat → Value) (H : List (Nat × Ob)) (b o : Nat) : Prop :=
  M0 b o ∨ ∃ n ob, look n H = some ob ∧ hb (β n) = some b ∧ ob.mut o
mutual
def RepV (w : World) (M : Nat → Nat → Prop) (β : Nat → Value) (H : List (Nat × Ob)) : V → Value → Prop
  | .d x, v => RepD w M x v
  | .own n k, v => ∀ e sz sh xs, look n H = some (.row e sz sh xs k) → v = β n
  | .nils _, v => v = .slice none 0 0
  | .ptr n off, v => ∃ b, β n = .pointer (some ⟨b, 0, none⟩) ∧ v = .pointer (some ⟨b, off, none⟩)
  | .sl n off l c, v => ∃ b, β n = .pointer (some ⟨b, 0, none⟩) ∧ v = .slice (some ⟨b, off, none⟩) l c
  | .el n k i off, v => ∀ e sz sh xs, look n H = some (.row e sz sh xs k) → ∃ b l c, β n = .slice (some ⟨b, 0, none⟩) l c ∧ v = .pointer (some ⟨b, i * sz + off, none⟩)
  | .suf n k p, v => ∀ e sz sh xs, look n H = some (.row e sz sh xs k) → ∃ a l c a', β n = .slice a l c ∧ p ≤ l ∧ v = .slice a' (l - p) (c - p) ∧ (c ≠ p → a' = a.map (·.add (p * sz))) ∧ (a' = none ↔ a = none)
  | .map n, v => ∃ r, β n = .map (some r) ∧ v = .map (some r)
  | .clo fn f c, v => ∃ fs gs : List Value, v = .func fn fs.toArray gs.toArray ∧ RepL w M β H f fs ∧ RepL w M β H c gs
  | .tup vs, v => ∃ us : List Value, v = .tuple us.toArray ∧ RepL w M β H vs us
  | .agg vs, v => ∃ us : List Value, v = .agg us.toArray ∧ (∀ u ∈ us, u.oneCell' = true) ∧ RepL w M β H vs us
def RepL (w : World) (M : Nat → Nat → Prop) (β : Nat → Value) (H : List (Nat × Ob)) : List V → List Value → Prop
  | [], vs => vs = []
  | x :: xs, vs => ∃ (v : Value) (r : List Value), vs = v :: r ∧ RepV w M β H x v ∧ RepL w M β H xs r
end
structure IMap (es : List MapEntry) (c : Nat) (vs : List Value) : Prop where
  here : ∀ e ∈ es, ∃ i : Nat, e.key = .int .i64 i ∧ vs[i]? = some e.val
  all : ∀ (i : Nat) x, vs[i]? = some x → x ≠ .slice none 0 0 → ∃ e ∈ es, e.key = .int .i64 i
  one : es.Pairwise fun x y => x.key ≠ y.key
  born : ∀ e ∈ es, e.born < c
def RepO (w : World) (M : Nat → Nat → Prop) (β : Nat → Value) (H : List (Nat × Ob)) (v : Value) : Ob → Prop
  | .box cs => ∃ (b : Nat) (vs : List Value) (t : TypeId), v = .pointer (some ⟨b, 0, none⟩) ∧ w.heap[b]? = some (.cells vs.toArray t (0, 0)) ∧ RepL w M β H cs vs
  | .row e sz _ xs _ => ∃ ys : List Value, w.ownsRow 0 e sz v xs.length ys ∧ RepE w M sz xs ys
  | .map ks us => ∃ (r : Nat) (es : Array MapEntry) (clock : Nat), v = .map (some r) ∧ w.heap[r]? = some (.map es clock) ∧ RepB w M ks (es.toList.map (·.key)) ∧ RepB w M us (es.toList.map (·.val)) ∧ ∀ e ∈ es.toList, e.born < clock
  | .imap cs => ∃ (r : Nat) (es : Array MapEntry) (clock : Nat) (vs : List Value), v = .map (some r) ∧ w.heap[r]? = some (.map es clock) ∧ RepL w M β H cs vs ∧ IMap es.toList clock vs
structure Frm (E : List Nat) (w w' : World) : Prop where
  os : w'.os = w.os
  tape : w'.tape = w.tape
  output : w'.output = w.output
  size : w.heap.size ≤ w'.heap.size
  block : ∀ k, k < w.heap.size → k ∉ E → w'.heap[k]? = w.heap[k]?
structure StB (C : Ctx) (β : Nat → Value) (S : Sd) (a : Act) (w : World) : Prop where
  size : a.tmps.size = C.nt
  small : C.nt ≤ 100000
  defers : ∃ Ds : List Nat, a.defers = Ds.map markOf ∧ Ds.Nodup ∧ ∀ D ∈ Ds, w.heap[D]? = some (.deferred (some [])) ∧ C.w0.heap.size ≤ D ∧ ∀ p ∈ C.sys, p.1 ≠ D
  sys : ∀ p ∈ C.sys, w.heap[p.1]? = some p.2 ∧ sysO p.2 = true ∧ C.w0.heap.size ≤ p.1
  env : ∀ t v, look t S.env = some v → ∃ x, slotV C a t = some x ∧ RepV w (Mut C.M0 β S.H) β S.H v x
  obs : ∀ n ob, look n S.H = some ob → RepO w (Mut C.M0 β S.H) β S.H (β n) ob
  apart : ∀ n m b ob ob', n ≠ m → look n S.H = some ob → look m S.H = some ob' → hb (β n) = some b → hb (β m) ≠ some b
  place : ∀ n ob b, look n S.H = some ob → hb (β n) = some b → b ∈ C.E ∨ C.w0.heap.size ≤ b
  glob : ∀ g cs, look g S.gl = some cs → GlobB w (Mut C.M0 β S.H) g cs
  frame : Frm C.E C.w0 w
  out : ∀ n ob b o, look n S.H = some ob → hb (β n) = some b → ¬ C.M0 b o
  low : ∀ b o, C.M0 b o → b < C.w0.heap.size
  fix : ∀ n ∈ C.N, β n = C.b0 n
  has : ∀ n ∈ C.N, (look n S.H).isSome = true
def St (C : Ctx) (S : Sd) (a : Act) (w : World) : Prop := ∃ β, StB C β S a w
mutual
theorem RepV.keep {w w' : World} {M M' : Nat → Nat → Prop} {β β' : Nat → Value} {H H' : List (Nat × Ob)} (k : Keeps w M w' M')
    (hβ : ∀ n, β' n = β n) (hH : ∀ n e sz sh xs k, look n H' = some (.row e sz sh xs k) → ∃ sh' xs', look n H = some (.row e sz sh' xs' k)) :
    ∀ (x : V) (v : Value), RepV w M β H x v → RepV w' M' β' H' x v
  | .d x, v, h => RepD.keep k x v h
  | .own n q, v, h => fun e sz sh xs hl => by
    obtain ⟨sh', xs', h1⟩ := hH n e sz sh xs q hl
    rw [hβ]
    exact h e sz sh' xs' h1
  | .nils _, _, h => h
  | .ptr n off, _, h => by simp only [RepV] at h ⊢; rw [hβ]; exact h
  | .sl n off _ _, _, h => by simp only [RepV] at h ⊢; rw [hβ]; exact h
  | .el n q i off, v, h => fun e sz sh xs hl => by
    obtain ⟨sh', xs', h1⟩ := hH n e sz sh xs q hl
    rw [hβ]
    exact h e sz sh' xs' h1
  | .suf n q p, v, h => fun e sz sh xs hl => by
    obtain ⟨sh', xs', h1⟩ := hH n e sz sh xs q hl
    rw [hβ]
    exact h e sz sh' xs' h1
  | .map n, _, h => by simp only [RepV] at h ⊢; rw [hβ]; exact h
  | .clo _ f c, _, ⟨fs, gs, h1, h2, h3⟩ => ⟨fs, gs, h1, RepL.keep k hβ hH f fs h2, RepL.keep k hβ hH c gs h3⟩
  | .tup vs, _, ⟨us, h1, h2⟩ => ⟨us, h1, RepL.keep k hβ hH vs us h2⟩
  | .agg vs, _, ⟨us, h1, h0, h2⟩ => ⟨us, h1, h0, RepL.keep k hβ hH vs us h2⟩
theorem RepL.keep {w w' : World} {M M' : Nat → Nat → Prop} {β β' : Nat → Value} {H H' : List (Nat × Ob)} (k : Keeps w M w' M')
    (hβ : ∀ n, β' n = β n) (hH : ∀ n e sz sh xs k, look n H' = some (.row e sz sh xs k) → ∃ sh' xs', look n H = some (.row e sz sh' xs' k)) :
    ∀ (xs : List V) (vs : List Value), RepL w M β H xs vs → RepL w' M' β' H' xs vs
  | [], _, h => h
  | x :: xs, _, ⟨v, r, h1, h2, h3⟩ => ⟨v, r, h1, RepV.keep k hβ hH x v h2, RepL.keep k hβ hH xs r h3⟩
end
mutual
def V.says (n : Nat) : V → Bool
  | .d _ => false
  | .own m _ => Nat.beq m n
  | .nils _ => false
  | .ptr m _ => Nat.beq m n
  | .sl m _ _ _ => Nat.beq m n
  | .el m _ _ _ => Nat.beq m n
  | .suf m _ _ => Nat.beq m n
  | .map m => Nat.beq m n
  | .clo _ f c => saysL n f || saysL n c
  | .tup vs => saysL n vs
  | .agg vs => saysL n vs
def saysL (n : Nat) : List V → Bool
  | [] => false
  | v :: r => v.says n || saysL n r
end
def Ob.says (n : Nat) : Ob → Bool
  | .box cs => saysL n cs
  | .imap cs => saysL n cs
  | _ => false
def noneSays (n : Nat) : List (Nat × V) → Bool
  | [] => true
  | (_, v) :: r => !v.says n && noneSays n r
def noneSaysO (n : Nat) : List (Nat × Ob) → Bool
  | [] => true
  | (m, o) :: r => !Nat.beq m n && !o.says n && noneSaysO n r
def Sd.fresh (S : Sd) (n : Nat) : Bool := noneSays n S.env && noneSaysO n S.H
theorem noneSays_look {n t : Nat} : ∀ {l : List (Nat × V)} {v : V}, noneSays n l = true → look t l = some v → v.says n = false
  | [], _, _, h => by simp [look] at h
  | (s, u) :: r, v, h, hl => by
    simp only [noneSays, Bool.and_eq_true, Bool.not_eq_true'] at h
    rw [look_cons] at hl
    split at hl
    · cases hl; exact h.1
    · exact noneSays_look h.2 hl
theorem noneSaysO_look {n m : Nat} : ∀ {l : List (Nat × Ob)} {o : Ob}, noneSaysO n l = true → look m l = some o → m ≠ n ∧ o.says n = false
  | [], _, _, h => by simp [look] at h
  | (s, u) :: r, v, h, hl => by
    simp only [noneSaysO, Bool.and_eq_true, Bool.not_eq_true'] at h
    rw [look_cons] at hl
    split at hl
    · rename_i e
      subst e
      cases hl
      exact ⟨beq_false.1 h.1.1, h.1.2⟩
    · exact noneSaysO_look h.2 hl
theorem Sd.fresh_none {S : Sd} {n : Nat} (h : S.fresh n = true) : look n S.H = none := by
  simp only [Sd.fresh, Bool.and_eq_true] at h
  cases hl : look n S.H with
  | none => rfl
  | some o => exact absurd rfl (noneSaysO_look h.2 hl).1
mutual
theorem RepV.fresh {w w' : World} {M M' : Nat → Nat → Prop} {β β' : Nat → Value} {H H' : List (Nat × Ob)} {q : Nat} (k : Keeps w M w' M')
    (hβ : ∀ n, n ≠ q → β' n = β n) (hH : ∀ n, n ≠ q → look n H' = look n H) :
    ∀ (x : V) (v : Value), x.says q = false → RepV w M β H x v → RepV w' M' β' H' x v
  | .d x, v, _, h => RepD.keep k x v h
  | .own n q', v, hs, h => fun e sz sh xs hl => by
    have hne : n ≠ q := beq_false.1 (by simpa only [V.says] using hs)
    rw [hH n hne] at hl
    rw [hβ n hne]
    exact h e sz sh xs hl
  | .nils _, _, _, h => h
  | .ptr n off, _, hs, h => by
    have hne : n ≠ q := beq_false.1 (by simpa only [V.says] using hs)
    simp only [RepV] at h ⊢; rw [hβ n hne]; exact h
  | .sl n off _ _, _, hs, h => by
    have hne : n ≠ q := beq_false.1 (by simpa only [V.says] using hs)
    simp only [RepV] at h ⊢; rw [hβ n hne]; exact h
  | .el n q' i off, v, hs, h => fun e sz sh xs hl => by
    have hne : n ≠ q := beq_false.1 (by simpa only [V.says] using hs)
    rw [hH n hne] at hl
    rw [hβ n hne]
    exact h e sz sh xs hl
  | .suf n q' p, v, hs, h => fun e sz sh xs hl => by
    have hne : n ≠ q := beq_false.1 (by simpa only [V.says] using hs)
    rw [hH n hne] at hl
    rw [hβ n hne]
    exact h e sz sh xs hl
  | .map n, _, hs, h => by
    have hne : n ≠ q := beq_false.1 (by simpa only [V.says] using hs)
    simp only [RepV] at h ⊢; rw [hβ n hne]; exact h
  | .clo _ f c, _, hs, ⟨fs, gs, h1, h2, h3⟩ => by
    simp only [V.says, Bool.or_eq_false_iff] at hs
    exact ⟨fs, gs, h1, RepL.fresh k hβ hH f fs hs.1 h2, RepL.fresh k hβ hH c gs hs.2 h3⟩
  | .tup vs, _, hs, ⟨us, h1, h2⟩ => ⟨us, h1, RepL.fresh k hβ hH vs us (by simpa [V.says] using hs) h2⟩
  | .agg vs, _, hs, ⟨us, h1, h0, h2⟩ => ⟨us, h1, h0, RepL.fresh k hβ hH vs us (by simpa [V.says] using hs) h2⟩
theorem RepL.fresh {w w' : World} {M M' : Nat → Nat → Prop} {β β' : Nat → Value} {H H' : List (Nat × Ob)} {q : Nat} (k : Keeps w M w' M')
    (hβ : ∀ n, n ≠ q → β' n = β n) (hH : ∀ n, n ≠ q → look n H' = look n H) :
    ∀ (xs : List V) (vs : List Value), saysL q xs = false → RepL w M β H xs vs → RepL w' M' β' H' xs vs
  | [], _, _, h => h
  | x :: xs, _, hs, ⟨v, r, h1, h2, h3⟩ => by
    simp only [saysL, Bool.or_eq_false_iff] at hs
    exact ⟨v, r, h1, RepV.fresh k hβ hH x v hs.1 h2, RepL.fresh k hβ hH xs r hs.2 h3⟩
end
theorem RepL.length {w : World} {M : Nat → Nat → Prop} {β : Nat → Value} {H : List (Nat × Ob)} : ∀ {xs : List V} {vs : List Value}, RepL w M β H xs vs → vs.length = xs.length
  | [], _, h => by simp only [RepL] at h; subst h; rfl
  | _ :: xs, _, h => by
    simp only [RepL] at h
    obtain ⟨v, r, rfl, _, h4⟩ := h
    simp [RepL.length h4]
theorem RepL.get {w : World} {M : Nat → Nat → Prop} {β : Nat → Value} {H : List (Nat × Ob)} : ∀ {xs : List V} {vs : List Value}, RepL w M β H xs vs → ∀ {i : Nat} {x : V}, xs[i]? = some x → ∃ v, vs[i]? = some v ∧ RepV w M β H x v
  | [], _, _, _, _, hx => by simp at hx
  | y :: xs, _, h, 0, x, hx => by
    simp only [RepL] at h
    obtain ⟨v, r, rfl, h2, _⟩ := h
    simp at hx
    subst hx
    exact ⟨v, rfl, h2⟩
  | y :: xs, _, h, i + 1, x, hx => by
    simp only [RepL] at h
    obtain ⟨v, r, rfl, h2, h3⟩ := h
    simpa using RepL.get h3 (i := i) (x := x) (by simpa using hx)
theorem RepL.set {w : World} {M : Nat → Nat → Prop} {β : Nat → Value} {H : List (Nat × Ob)} : ∀ {xs : List V} {vs : List Value}, RepL w M β H xs vs → ∀ (i : Nat) {x : V} {v : Value}, RepV w M β H x v → RepL w M β H (xs.set i x) (vs.set i v)
  | [], _, h, i, _, _, _ => by simp only [RepL] at h; subst h; simp [RepL]
  | y :: xs, _, h, 0, x, v, hx => by
    simp only [RepL] at h
    obtain ⟨u, r, rfl, h2, h3⟩ := h
    exact ⟨v, r, rfl, hx, h3⟩
  | y :: xs, _, h, i + 1, x, v, hx => by
    simp only [RepL] at h
    obtain ⟨u, r, rfl, h2, h3⟩ := h
    exact ⟨u, _, rfl, h2, RepL.set h3 i hx⟩
theorem Frm.refl (E : List Nat) (w : World) : Frm E w w := ⟨rfl, rfl, rfl, Nat.le_refl _, fun _ _ _ => rfl⟩
theorem Frm.trans {E : List Nat} {a b c : World} (h : Frm E a b) (k : Frm E b c) : Frm E a c :=
  ⟨k.os.trans h.os, k.tape.trans h.tape, k.output.trans h.output, Nat.le_trans h.size k.size, fun i hi he => (k.block i (Nat.lt_of_lt_of_le hi h.size) he).trans (h.block i hi he)⟩
theorem Frm.grows {E : List Nat} {a b c : World} (h : Frm E a b) (k : Grows b c) : Frm E a c :=
  h.trans ⟨k.os, k.tape, k.output, k.size, fun i hi _ => k.block i hi⟩
theorem Frm.below {w w' : World} (h : Frm [] w w') : Below w.heap.size w w' := ⟨h.os, h.tape, h.output, h.size, fun k hk => h.block k hk (by simp)⟩
theorem Frm.of_below {w w' : World} (h : Below w.heap.size w w') (E : List Nat) : Frm E w w' := ⟨h.os, h.tape, h.output, h.size, fun k hk _ => h.block k hk⟩
theorem Frm.one {E : List Nat} {a b c : World} (h : Frm E a b) (q : Nat) (hq : q ∈ E ∨ a.heap.size ≤ q) (ho : c.os = b.os) (ht : c.tape = b.tape) (hu : c.output = b.output) (hs : b.heap.size ≤ c.heap.size)
    (hb : ∀ k, k < b.heap.size → k ≠ q → c.heap[k]? = b.heap[k]?) : Frm E a c :=
  ⟨ho.trans h.os, ht.trans h.tape, hu.trans h.output, Nat.le_trans h.size hs, fun i hi he => by
    refine (hb i (Nat.lt_of_lt_of_le hi h.size) ?_).trans (h.block i hi he)
    rintro rfl
    rcases hq with hq | hq
    · exact he hq
    · omega⟩
theorem RepO.later {w w' : World} {M : Nat → Nat → Prop} {β : Nat → Value} {H : List (Nat × Ob)} {v : Value} (g : Grows w w') : ∀ {ob : Ob}, RepO w M β H v ob → RepO w' M β H v ob
  | .box cs, ⟨b, vs, t, h1, h2, h3⟩ => ⟨b, vs, t, h1, (g.block b (Array.getElem?_eq_some_iff.1 h2).1).trans h2, RepL.keep (Keeps.below g) (fun _ => rfl) (fun _ _ _ sh xs _ h => ⟨sh, xs, h⟩) _ _ h3⟩
  | .row e sz _ xs _, ⟨ys, h1, h2⟩ => ⟨ys, owns_later h1 g (Nat.le_refl _), RepE.keep (Keeps.below g) _ _ _ h2⟩
  | .map _ _, ⟨r, es, clock, h1, h2, h3, h4⟩ => ⟨r, es, clock, h1, (g.block r (Array.getElem?_eq_some_iff.1 h2).1).trans h2, RepB.keep (Keeps.below g) _ _ h3, RepB.keep (Keeps.below g) _ _ h4.1, h4.2⟩
  | .imap _, ⟨r, es, clock, vs, h1, h2, h3, h4⟩ => ⟨r, es, clock, vs, h1, (g.block r (Array.getElem?_eq_some_iff.1 h2).1).trans h2, RepL.keep (Keeps.below g) (fun _ => rfl) (fun _ _ _ sh xs _ h => ⟨sh, xs, h⟩) _ _ h3, h4⟩
theorem StB.later {C : Ctx} {β : Nat → Value} {S : Sd} {a : Act} {w w' : World} (h : StB C β S a w) (g : Grows w w') : StB C β S a w' where
  size := h.size
  small := h.small
  defers := let ⟨Ds, h1, h2, h3⟩ := h.defers; ⟨Ds, h1, h2, fun D hD => ⟨(g.block D (Array.getElem?_eq_some_iff.1 (h3 D hD).1).1).trans (h3 D hD).1, (h3 D hD).2⟩⟩
  sys := fun p hp => ⟨(g.block p.1 (Array.getElem?_eq_some_iff.1 (h.sys p hp).1).1).trans (h.sys p hp).1, (h.sys p hp).2⟩
  env := fun t v hl => let ⟨x, h1, h2⟩ := h.env t v hl; ⟨x, h1, RepV.keep (Keeps.below g) (fun _ => rfl) (fun _ _ _ sh xs _ h => ⟨sh, xs, h⟩) _ _ h2⟩
  obs := fun n ob hl => (h.obs n ob hl).later g
  apart := h.apart
  place := h.place
  glob := fun g' cs hl => (h.glob g' cs hl).keep (Keeps.below g)
  frame := h.frame.grows g
  out := h.out
  low := h.low
  fix := h.fix
  has := h.has
theorem St.later {C : Ctx} {S : Sd} {a : Act} {w w' : World} (h : St C S a w) (g : Grows w w') : St C S a w' := let ⟨β, h⟩ := h; ⟨β, h.later g⟩
def constD : Value → D
  | .int k n => .int k n
  | .bool b => .bool b
  | .string s => .str s
  | .slice none 0 0 => .list 0 []
  | x => .raw x
def constV : Value → V
  | .int k n => .d (.int k n)
  | .bool b => .d (.bool b)
  | .string s => .d (.str s)
  | .slice none 0 0 => .nils 0
  | .pointer a => .d (.raw (.pointer a))
  | .map a => .d (.raw (.map a))
  | .nilFunc => .d (.raw .nilFunc)
  | .agg cs => .d (.agg (cs.toList.map constD))
  | _ => .tup []
def Sd.ev (S : Sd) : Operand → Option V
  | .tmp t => bif Nat.blt t 100000 then look t S.env else none
  | .const v => some (constV v)
  | .global g => (look g S.gl).map fun cs => .d (.ref cs 0)
  | .func f => some (.clo (.func f) [] [])
def okConst : Value → Bool
  | .int _ _ | .bool _ | .string _ | .slice none 0 0 | .pointer _ | .map _ | .nilFunc => true
  | .agg cs => cs.toList.all fun | .agg _ | .tuple _ => false | _ => true
  | _ => false
theorem repA_consts (w : World) (M : Nat → Nat → Prop) : ∀ l : List Value, (l.all fun | .agg _ | .tuple _ => false | _ => true) = true →
    RepA w M (l.map constD) l
  | [], _ => rfl
  | x :: l, h => by
    simp only [List.all_cons, Bool.and_eq_true] at h
    refine ⟨x, l, rfl, ?_, ?_, repA_consts w M l h.2⟩
    · cases x <;> simp_all [Value.oneCell']
    · unfold constD
      split
      · rfl
      · rfl
      · rfl
      · exact ⟨none, 0, [], rfl, Nat.le_refl _, Nat.zero_le _, fun _ => rfl, rfl, Reads.nil _ _ _⟩
      · refine ⟨rfl, ?_⟩
        cases x <;> simp_all [Value.oneCell']
theorem constV_rep {w : World} {M : Nat → Nat → Prop} {β : Nat → Value} {H : List (Nat × Ob)} {v : Value} (h : okConst v = true) : RepV w M β H (constV v) v := by
  unfold constV
  split
  · rfl
  · rfl
  · rfl
  · rfl
  · exact ⟨rfl, rfl⟩
  · exact ⟨rfl, rfl⟩
  · exact ⟨rfl, rfl⟩
  · rename_i cs
    exact ⟨cs.toList, by simp, repA_consts w M _ (by simpa [okConst] using h)⟩
  · rename_i h1 h2 h3 h4 h5 h6 h7 h8
    unfold okConst at h
    split at h <;> simp_all
def okOp : Operand → Bool
  | .const v => okConst v
  | _ => true
theorem StB.ev {C : Ctx} {β : Nat → Value} {S : Sd} {a : Act} {w : World} (h : StB C β S a w) {x : Operand} {v : V} (hx : S.ev x = some v) (ho : okOp x = true) : RepV w (Mut C.M0 β S.H) β S.H v (a.eval x) := by
  cases x with
  | tmp t =>
    simp only [Sd.ev] at hx
    cases ht : Nat.blt t 100000 with
    | false => rw [ht] at hx; cases hx
    | true =>
      rw [ht] at hx
      obtain ⟨u, h1, h2⟩ := h.env t v hx
      simp only [slotV, ht, cond_true] at h1
      have : a.eval (.tmp t) = u := by simp [Act.eval, Array.getD_eq_getD_getElem?, h1]
      rw [this]
      exact h2
  | const u =>
    simp only [Sd.ev, Option.some.injEq] at hx
    subst hx
    exact constV_rep ho
  | global g =>
    simp only [Sd.ev, Option.map_eq_some_iff] at hx
    obtain ⟨cs, h1, rfl⟩ := hx
    exact (h.glob g cs h1).ref
  | func f =>
    simp only [Sd.ev, Option.some.injEq] at hx
    subst hx
    exact ⟨[], [], rfl, rfl, rfl⟩
def Sd.put (S : Sd) (t : Nat) (v : V) : Sd := { S with env := (t, v) :: S.env }
theorem put_get (a : Act) (t : Nat) (x : Value) (ht : t < a.tmps.size) (s : Nat) : (a.put (some t) x).tmps[s]? = if t = s then some x else a.tmps[s]? := by
  simp only [Act.put, Array.getElem?_setIfInBounds, ht, if_true]
theorem put_slot (C : Ctx) (a : Act) (t : Nat) (x : Value) (ht : t < a.tmps.size) (h0 : t < 100000) (s : Nat) : slotV C (a.put (some t) x) s = if t = s then some x else slotV C a s := by
  unfold slotV
  cases hs : Nat.blt s 100000 with
  | true => simp only [cond_true]; exact put_get a t x ht s
  | false =>
    simp only [cond_false]
    have : ¬ s < 100000 := fun h => by have h2 : Nat.blt s 100000 = true := Nat.ble_eq_true_of_le h; rw [h2] at hs; cases hs
    rw [if_neg (by omega)]
theorem StB.put {C : Ctx} {β : Nat → Value} {S : Sd} {a : Act} {w : World} (h : StB C β S a w) {t : Nat} (ht : t < C.nt) {v : V} {x : Value} (hx : RepV w (Mut C.M0 β S.H) β S.H v x) : StB C β (S.put t v) (a.put (some t) x) w where
  size := by simp [Act.put, h.size]
  small := h.small
  defers := h.defers
  sys := h.sys
  env := fun s u hl => by
    rw [put_slot C a t x (by rw [h.size]; exact ht) (Nat.lt_of_lt_of_le ht h.small)]
    have hl' : look s ((t, v) :: S.env) = some u := hl
    rw [look_cons] at hl'
    split
    · rename_i e
      rw [if_pos e] at hl'
      cases hl'
      exact ⟨x, rfl, hx⟩
    · rename_i e
      rw [if_neg e] at hl'
      exact h.env s u hl'
  obs := h.obs
  apart := h.apart
  place := h.place
  glob := h.glob
  frame := h.frame
  out := h.out
  low := h.low
  fix := h.fix
  has := h.has
theorem StB.weak {C : Ctx} {β : Nat → Value} {S S' : Sd} {a : Act} {w : World} (h : StB C β S a w) (he : ∀ t v, look t S'.env = some v → look t S.env = some v)
    (hH : ∀ n ob, look n S'.H = some ob → look n S.H = some ob) (hg : ∀ g cs, look g S'.gl = some cs → look g S.gl = some cs) (hN : ∀ n ∈ C.N, (look n S'.H).isSome = true) : StB C β S' a w := by
  have k : Keeps w (Mut C.M0 β S.H) w (Mut C.M0 β S'.H) := Keeps.weak fun b o hm => by
    rcases hm with hm | ⟨n, ob, h1, h2, h3⟩
    · exact .inl hm
    · exact .inr ⟨n, ob, hH n ob h1, h2, h3⟩
  have hr : ∀ n e sz sh xs k, look n S'.H = some (.row e sz sh xs k) → ∃ sh' xs', look n S.H = some (.row e sz sh' xs' k) := fun n e sz sh xs k hl => ⟨sh, xs, hH n _ hl⟩
  refine ⟨h.size, h.small, h.defers, h.sys, fun t v hl => ?_, fun n ob hl => ?_, fun n m b ob ob' hne h1 h2 => h.apart n m b ob ob' hne (hH n ob h1) (hH m ob' h2), fun n ob b hl => h.place n ob b (hH n ob hl), fun g cs hl => (h.glob g cs (hg g cs hl)).keep k, h.frame, fun n ob b o hl => h.out n ob b o (hH n ob hl), h.low, h.fix, hN⟩
  · obtain ⟨x, h1, h2⟩ := h.env t v (he t v hl)
    exact ⟨x, h1, RepV.keep k (fun _ => rfl) hr v x h2⟩
  · have h1 := h.obs n ob (hH n ob hl)
    cases ob with
    | box cs => obtain ⟨b, vs, t, h2, h3, h4⟩ := h1; exact ⟨b, vs, t, h2, h3, RepL.keep k (fun _ => rfl) hr _ _ h4⟩
    | row e sz sh xs q => obtain ⟨ys, h2, h3⟩ := h1; exact ⟨ys, h2, RepE.keep k _ _ _ h3⟩
    | map ks vs => obtain ⟨r, es, clock, h2, h3, h4, h5⟩ := h1; exact ⟨r, es, clock, h2, h3, RepB.keep k _ _ h4, RepB.keep k _ _ h5.1, h5.2⟩
    | imap cs => obtain ⟨r, es, clock, vs, h2, h3, h4, h5⟩ := h1; exact ⟨r, es, clock, vs, h2, h3, RepL.keep k (fun _ => rfl) hr _ _ h4, h5⟩
end Go.Proofs.YtcblefmjacofgaaGreatDoor
namespace Go.Proofs.YtcblefmjacofgaaGreatDoor
open Go.RowKit
def upd (β : Nat → Value) (n : Nat) (v : Value) : Nat → Value := fun m => if m = n then v else β m
theorem upd_same (β : Nat → Value) (n : Nat) (v : Value) : upd β n v n = v := by simp [upd]
theorem upd_other (β : Nat → Value) (n : Nat) (v : Value) {m : Nat} (h : m ≠ n) : upd β n v m = β m := by simp [upd, h]
theorem RepO.lt {w : World} {M : Nat → Nat → Prop} {β : Nat → Value} {H : List (Nat × Ob)} {v : Value} : ∀ {ob : Ob}, RepO w M β H v ob → ∀ {b : Nat}, hb v = some b → b < w.heap.size
  | .box cs, ⟨b, vs, t, h1, h2, h3⟩, b', hb' => by
    subst h1
    simp only [hb, Option.some.injEq] at hb'
    subst hb'
    exact (Array.getElem?_eq_some_iff.1 h2).1
  | .row e sz _ xs _, ⟨ys, h1, h2⟩, b', hb' => by
    rcases h1.2 with ⟨rfl, _⟩ | ⟨g, cap, cur, rfl, _, hh, _⟩
    · simp [hb] at hb'
    · simp only [hb, Option.some.injEq] at hb'
      subst hb'
      exact (Array.getElem?_eq_some_iff.1 hh).1
  | .map _ _, ⟨r, es, clock, h1, h2, h3⟩, b', hb' => by
    subst h1
    simp only [hb, Option.some.injEq] at hb'
    subst hb'
    exact (Array.getElem?_eq_some_iff.1 h2).1
  | .imap _, ⟨r, es, clock, vs, h1, h2, h3⟩, b', hb' => by
    subst h1
    simp only [hb, Option.some.injEq] at hb'
    subst hb'
    exact (Array.getElem?_eq_some_iff.1 h2).1
theorem RepO.kind {w : World} {M : Nat → Nat → Prop} {β : Nat → Value} {H : List (Nat × Ob)} {v : Value} : ∀ {ob : Ob}, RepO w M β H v ob → ∀ {b : Nat}, hb v = some b → ∃ o, w.heap[b]? = some o ∧ sysO o = false ∧ (∀ es c, o = .map es c → ob.mut 0)
  | .box cs, ⟨b, vs, t, h1, h2, h3⟩, b', hb' => by
    subst h1
    simp only [hb, Option.some.injEq] at hb'
    subst hb'
    exact ⟨_, h2, rfl, fun _ _ h => by cases h⟩
  | .row e sz _ xs _, ⟨ys, h1, h2⟩, b', hb' => by
    rcases h1.2 with ⟨rfl, _⟩ | ⟨g, cap, cur, rfl, _, hh, _⟩
    · simp [hb] at hb'
    · simp only [hb, Option.some.injEq] at hb'
      subst hb'
      exact ⟨_, hh, rfl, fun _ _ h => by cases h⟩
  | .map _ _, ⟨r, es, clock, h1, h2, h3⟩, b', hb' => by
    subst h1
    simp only [hb, Option.some.injEq] at hb'
    subst hb'
    exact ⟨_, h2, rfl, fun _ _ _ => trivial⟩
  | .imap _, ⟨r, es, clock, vs, h1, h2, h3⟩, b', hb' => by
    subst h1
    simp only [hb, Option.some.injEq] at hb'
    subst hb'
    exact ⟨_, h2, rfl, fun _ _ _ => trivial⟩
theorem RepO.notSys {w : World} {M : Nat → Nat → Prop} {β : Nat → Value} {H : List (Nat × Ob)} {v : Value} {ob : Ob} (h : RepO w M β H v ob) {D : Nat} {o : Obj} (ho : w.heap[D]? = some o) (hs : sysO o = true) : hb v ≠ some D := fun hb' => by
  obtain ⟨o', h1, h2, _⟩ := h.kind hb'
  rw [ho] at h1
  cases h1
  rw [hs] at h2
  cases h2
theorem RepO.keep {w w' : World} {M M' : Nat → Nat → Prop} {β β' : Nat → Value} {H H' : List (Nat × Ob)} {v : Value} (k : Keeps w M w' M')
    (hblk : ∀ b, hb v = some b → w'.heap[b]? = w.heap[b]?) : ∀ {ob : Ob}, (∀ cs vs, ob = .box cs ∨ ob = .imap cs → RepL w M β H cs vs → RepL w' M' β' H' cs vs) → RepO w M β H v ob → RepO w' M' β' H' v ob
  | .box cs, hL, ⟨b, vs, t, h1, h2, h3⟩ => ⟨b, vs, t, h1, by rw [hblk b (by rw [h1]; rfl)]; exact h2, hL cs vs (.inl rfl) h3⟩
  | .row e sz _ xs _, _, ⟨ys, h1, h2⟩ => by
    refine ⟨ys, ⟨h1.1, ?_⟩, RepE.keep k _ _ _ h2⟩
    rcases h1.2 with h3 | ⟨g, cap, cur, hv, hg, hh, r⟩
    · exact .inl h3
    · exact .inr ⟨g, cap, cur, hv, hg, by rw [hblk g (by rw [hv]; rfl)]; exact hh, r⟩
  | .map _ _, _, ⟨r, es, clock, h1, h2, h3, h4⟩ => ⟨r, es, clock, h1, by rw [hblk r (by rw [h1]; rfl)]; exact h2, RepB.keep k _ _ h3, RepB.keep k _ _ h4.1, h4.2⟩
  | .imap cs, hL, ⟨r, es, clock, vs, h1, h2, h3, h4⟩ => ⟨r, es, clock, vs, h1, by rw [hblk r (by rw [h1]; rfl)]; exact h2, hL cs vs (.inr rfl) h3, h4⟩
theorem StB.old {C : Ctx} {β : Nat → Value} {S : Sd} {a : Act} {w : World} (h : StB C β S a w) {n : Nat} {ob : Ob} (hl : look n S.H = some ob) {b : Nat} (hb' : hb (β n) = some b) : b < w.heap.size := (h.obs n ob hl).lt hb'
theorem StB.newObj {C : Ctx} {β : Nat → Value} {S : Sd} {a : Act} {w w' : World} (h : StB C β S a w) {n : Nat} (hn : S.fresh n = true) (v : Value) (g : Grows w w') (hv : ∀ b, hb v = some b → w.heap.size ≤ b) (ob : Ob)
    (hrep : Keeps w (Mut C.M0 β S.H) w' (Mut C.M0 (upd β n v) ((n, ob) :: S.H)) → RepO w' (Mut C.M0 (upd β n v) ((n, ob) :: S.H)) (upd β n v) ((n, ob) :: S.H) v ob) :
    StB C (upd β n v) { S with H := (n, ob) :: S.H } a w' := by
  have hnone := Sd.fresh_none hn
  simp only [Sd.fresh, Bool.and_eq_true] at hn
  have k0 : ∀ b o, b < w.heap.size → ¬ Mut C.M0 β S.H b o → ¬ Mut C.M0 (upd β n v) ((n, ob) :: S.H) b o := fun b o hlt h1 hm => by
    rcases hm with hm | ⟨m, ob', h3, h4, h5⟩
    · exact h1 (.inl hm)
    · rw [look_cons] at h3
      split at h3
      · rename_i e
        subst e
        rw [upd_same] at h4
        have := hv b h4
        omega
      · rename_i e
        rw [upd_other β n v (Ne.symm e)] at h4
        exact h1 (.inr ⟨m, ob', h3, h4, h5⟩)
  have k : Keeps w (Mut C.M0 β S.H) w' (Mut C.M0 (upd β n v) ((n, ob) :: S.H)) :=
    ⟨fun b o y h1 h2 => have hlt := World.block_lt_of_cell? w ⟨b, o, none⟩ h2; ⟨k0 b o hlt h1, (g.cell (p := ⟨b, o, none⟩) hlt).trans h2⟩,
     fun b ob' _ h1 h2 => have hlt := (Array.getElem?_eq_some_iff.1 h2).1; ⟨fun o => k0 b o hlt (h1 o), (g.block b hlt).trans h2⟩⟩
  have hH : ∀ m, m ≠ n → look m ((n, ob) :: S.H) = look m S.H := fun m hm => by rw [look_cons, if_neg (Ne.symm hm)]
  refine ⟨h.size, h.small, (h.later g).defers, (h.later g).sys, fun t x hl => ?_, fun m ob' hl => ?_, fun m m' b ob1 ob2 hne h1 h2 h3 => ?_, fun m ob' b hl hb' => ?_, fun q cs hl => (h.glob q cs hl).keep k, h.frame.grows g, fun m ob' b o hl hb' hm => ?_, h.low, fun m hm => ?_, fun m hm => ?_⟩
  · obtain ⟨u, h1, h2⟩ := h.env t x hl
    exact ⟨u, h1, RepV.fresh k (fun m hm => upd_other β n v hm) hH x u (noneSays_look hn.1 hl) h2⟩
  · have hl' := hl
    dsimp only at hl'
    rw [look_cons] at hl'
    split at hl'
    · rename_i e
      subst e
      cases hl'
      rw [upd_same]
      exact hrep k
    · rename_i e
      rw [upd_other β n v (Ne.symm e)]
      exact RepO.keep k (fun b hb' => g.block b (h.old hl' hb')) (fun cs vs e2 => RepL.fresh k (fun m hm => upd_other β n v hm) hH cs vs (by
        have := (noneSaysO_look hn.2 hl').2
        rcases e2 with e2 | e2 <;> rw [e2] at this <;> exact this)) (h.obs m ob' hl')
  · dsimp only at h1 h2
    rw [look_cons] at h1 h2
    split at h1
    · rename_i e
      subst e
      rw [if_neg hne] at h2
      rw [upd_same] at h3
      rw [upd_other β n v (Ne.symm hne)]
      intro h4
      have := h.old h2 h4
      have := hv b h3
      omega
    · rename_i e
      rw [upd_other β n v (Ne.symm e)] at h3
      split at h2
      · rename_i e2
        subst e2
        rw [upd_same]
        intro h4
        have := h.old h1 h3
        have := hv b h4
        omega
      · rename_i e2
        rw [upd_other β n v (Ne.symm e2)]
        exact h.apart m m' b ob1 ob2 hne h1 h2 h3
  · dsimp only at hl
    rw [look_cons] at hl
    split at hl
    · rename_i e
      subst e
      rw [upd_same] at hb'
      exact .inr (Nat.le_trans h.frame.size (hv b hb'))
    · rename_i e
      rw [upd_other β n v (Ne.symm e)] at hb'
      exact h.place m ob' b hl hb'
  · dsimp only at hl
    rw [look_cons] at hl
    split at hl
    · rename_i e
      subst e
      rw [upd_same] at hb'
      have := hv b hb'
      have := h.low b o hm
      have := h.frame.size
      omega
    · rename_i e
      rw [upd_other β n v (Ne.symm e)] at hb'
      exact h.out m ob' b o hl hb' hm
  · have h1 := h.has m hm
    have h2 : m ≠ n := by rintro rfl; rw [hnone] at h1; cases h1
    rw [upd_other β n v h2]
    exact h.fix m hm
  · dsimp only
    rw [look_cons]
    split
    · rfl
    · exact h.has m hm
theorem StB.turn {C : Ctx} {β β' : Nat → Value} {S : Sd} {a : Act} {w w' : World} (h : StB C β S a w) {n : Nat} {ob ob' : Ob} (hl : look n S.H = some ob)
    (hβ : ∀ m, m ≠ n → β' m = β m) (ho : w'.os = w.os) (ht : w'.tape = w.tape) (hu : w'.output = w.output) (hs : w.heap.size ≤ w'.heap.size)
    (hblk : ∀ k, k < w.heap.size → hb (β n) ≠ some k → w'.heap[k]? = w.heap[k]?)
    (hnew : ∀ b, hb (β' n) = some b → hb (β n) = some b ∨ w.heap.size ≤ b)
    (hcell : ∀ b o y, hb (β n) = some b → ¬ ob.mut o → w.cell? ⟨b, o, none⟩ = some y → w'.cell? ⟨b, o, none⟩ = some y)
    (hmut : ∀ b o, hb (β n) = some b → hb (β' n) = some b → ob'.mut o → ob.mut o)
    (hV : Keeps w (Mut C.M0 β S.H) w' (Mut C.M0 β' ((n, ob') :: S.H)) → ∀ t x v, look t S.env = some x → RepV w (Mut C.M0 β S.H) β S.H x v → RepV w' (Mut C.M0 β' ((n, ob') :: S.H)) β' ((n, ob') :: S.H) x v)
    (hfix : n ∈ C.N → β' n = β n)
    (hL : Keeps w (Mut C.M0 β S.H) w' (Mut C.M0 β' ((n, ob') :: S.H)) → ∀ m cs vs, m ≠ n → look m S.H = some (.box cs) ∨ look m S.H = some (.imap cs) → RepL w (Mut C.M0 β S.H) β S.H cs vs → RepL w' (Mut C.M0 β' ((n, ob') :: S.H)) β' ((n, ob') :: S.H) cs vs)
    (hrep : Keeps w (Mut C.M0 β S.H) w' (Mut C.M0 β' ((n, ob') :: S.H)) → RepO w' (Mut C.M0 β' ((n, ob') :: S.H)) β' ((n, ob') :: S.H) (β' n) ob') :
    StB C β' { S with H := (n, ob') :: S.H } a w' := by
  have k0 : ∀ b o, b < w.heap.size → ¬ Mut C.M0 β S.H b o → ¬ Mut C.M0 β' ((n, ob') :: S.H) b o := fun b o hlt h1 hm => by
    rcases hm with hm | ⟨m, ob2, h3, h4, h5⟩
    · exact h1 (.inl hm)
    · rw [look_cons] at h3
      split at h3
      · rename_i e
        subst e
        cases h3
        rcases hnew b h4 with h6 | h6
        · exact h1 (.inr ⟨n, ob, hl, h6, hmut b o h6 h4 h5⟩)
        · omega
      · rename_i e
        rw [hβ m (Ne.symm e)] at h4
        exact h1 (.inr ⟨m, ob2, h3, h4, h5⟩)
  have k : Keeps w (Mut C.M0 β S.H) w' (Mut C.M0 β' ((n, ob') :: S.H)) := by
    refine ⟨fun b o y h1 h2 => ?_, fun b ob3 _ h1 h2 => ?_⟩
    · have hlt : b < w.heap.size := World.block_lt_of_cell? w ⟨b, o, none⟩ h2
      refine ⟨k0 b o hlt h1, ?_⟩
      by_cases hbn : hb (β n) = some b
      · exact hcell b o y hbn (fun hm => h1 (.inr ⟨n, ob, hl, hbn, hm⟩)) h2
      · rw [← h2]
        exact World.cell?_of_block (hblk b hlt hbn)
    · have hlt := (Array.getElem?_eq_some_iff.1 h2).1
      refine ⟨fun o => k0 b o hlt (h1 o), ?_⟩
      by_cases hbn : hb (β n) = some b
      · obtain ⟨o, h3⟩ := ob.mut_some
        exact absurd (.inr ⟨n, ob, hl, hbn, h3⟩) (h1 o)
      · exact (hblk b hlt hbn).trans h2
  have hsys : ∀ D o, w.heap[D]? = some o → sysO o = true → w'.heap[D]? = some o := fun D o ho hs' =>
    (hblk D (Array.getElem?_eq_some_iff.1 ho).1 ((h.obs n ob hl).notSys ho hs')).trans ho
  obtain ⟨Ds, hd1, hd2, hd3⟩ := h.defers
  refine ⟨h.size, h.small, ⟨Ds, hd1, hd2, fun D hD => ⟨hsys D _ (hd3 D hD).1 rfl, (hd3 D hD).2⟩⟩, fun p hp => ⟨hsys _ _ (h.sys p hp).1 (h.sys p hp).2.1, (h.sys p hp).2⟩, fun t x hx => ?_, fun m ob2 hm => ?_, fun m m' b ob1 ob2 hne h1 h2 h3 => ?_, fun m ob2 b hm hb' => ?_, fun q cs hq => (h.glob q cs hq).keep k, ?_, fun m ob2 b o hm hb' hM => ?_, h.low, fun m hm => ?_, fun m hm => ?_⟩
  · obtain ⟨u, h1, h2⟩ := h.env t x hx
    exact ⟨u, h1, hV k t x u hx h2⟩
  · dsimp only at hm
    rw [look_cons] at hm
    split at hm
    · rename_i e
      subst e
      cases hm
      exact hrep k
    · rename_i e
      rw [hβ m (Ne.symm e)]
      exact RepO.keep (ob := ob2) k (fun b hb' => hblk b (h.old hm hb') (fun h2 => h.apart n m b ob ob2 e hl hm h2 hb')) (fun cs vs e2 => hL k m cs vs (Ne.symm e) (e2.imp (fun e2 => by rw [← e2]; exact hm) (fun e2 => by rw [← e2]; exact hm))) (h.obs m ob2 hm)
  · dsimp only at h1 h2
    rw [look_cons] at h1 h2
    split at h1
    · rename_i e
      subst e
      rw [if_neg hne] at h2
      rw [hβ m' (Ne.symm hne)]
      rcases hnew b h3 with h4 | h4
      · exact h.apart n m' b ob ob2 hne hl h2 h4
      · intro h5
        have := h.old h2 h5
        omega
    · rename_i e
      rw [hβ m (Ne.symm e)] at h3
      split at h2
      · rename_i e2
        subst e2
        intro h5
        rcases hnew b h5 with h4 | h4
        · exact h.apart n m b ob ob1 e hl h1 h4 h3
        · have := h.old h1 h3
          omega
      · rename_i e2
        rw [hβ m' (Ne.symm e2)]
        exact h.apart m m' b ob1 ob2 hne h1 h2 h3
  · dsimp only at hm
    rw [look_cons] at hm
    split at hm
    · rename_i e
      subst e
      rcases hnew b hb' with h4 | h4
      · exact h.place n ob b hl h4
      · exact .inr (Nat.le_trans h.frame.size h4)
    · rename_i e
      rw [hβ m (Ne.symm e)] at hb'
      exact h.place m ob2 b hm hb'
  · refine ⟨ho.trans h.frame.os, ht.trans h.frame.tape, hu.trans h.frame.output, Nat.le_trans h.frame.size hs, fun i hi he => ?_⟩
    have hlt : i < w.heap.size := Nat.lt_of_lt_of_le hi h.frame.size
    by_cases hbn : hb (β n) = some i
    · rcases h.place n ob i hl hbn with h4 | h4
      · exact absurd h4 he
      · omega
    · exact (hblk i hlt hbn).trans (h.frame.block i hi he)
  · dsimp only at hm
    rw [look_cons] at hm
    split at hm
    · rename_i e
      subst e
      rcases hnew b hb' with h4 | h4
      · exact h.out n ob b o hl h4 hM
      · have := h.low b o hM
        have := h.frame.size
        omega
    · rename_i e
      rw [hβ m (Ne.symm e)] at hb'
      exact h.out m ob2 b o hm hb' hM
  · by_cases e : m = n
    · subst e
      rw [hfix hm]
      exact h.fix m hm
    · rw [hβ m e]
      exact h.fix m hm
  · dsimp only
    rw [look_cons]
    split
    · rfl
    · exact h.has m hm
theorem look_set {n : Nat} {ob : Ob} {H : List (Nat × Ob)} (m : Nat) : look m ((n, ob) :: H) = if n = m then some ob else look m H := look_cons m n ob H
theorem StB.setBox {C : Ctx} {β : Nat → Value} {S : Sd} {a : Act} {w : World} (h : StB C β S a w) {n b : Nat} {cs : List V} (hl : look n S.H = some (.box cs)) (hb' : β n = .pointer (some ⟨b, 0, none⟩)) (o : Nat) (ho : o < cs.length) {x : V} {v : Value}
    (hx : RepV w (Mut C.M0 β S.H) β S.H x v) : StB C β { S with H := (n, .box (cs.set o x)) :: S.H } a (w.setCell ⟨b, o, none⟩ v) := by
  obtain ⟨b2, vs, t, h1, h2, h3⟩ := h.obs n _ hl
  rw [hb'] at h1
  cases h1
  have hbn : hb (β n) = some b := by rw [hb']; rfl
  have hH : ∀ m e sz sh xs k, look m ((n, Ob.box (cs.set o x)) :: S.H) = some (.row e sz sh xs k) → ∃ sh' xs', look m S.H = some (.row e sz sh' xs' k) := fun m e sz sh xs k hm => by
    rw [look_set] at hm
    split at hm
    · cases hm
    · exact ⟨sh, xs, hm⟩
  refine h.turn hl (fun _ _ => rfl) rfl rfl rfl (by simp [World.setCell]) (fun k _ hk => Below.heap_setCell _ _ _ _ (fun e => hk (by rw [hbn, e]))) (fun b h => .inl h) (fun b' o' y h4 h5 _ => absurd trivial h5) (fun _ _ _ _ _ => trivial)
    (fun k t x v _ => RepV.keep k (fun _ => rfl) hH x v) (fun _ => rfl) (fun k m cs vs _ _ => RepL.keep k (fun _ => rfl) hH cs vs) (fun k => ?_)
  refine ⟨b, vs.set o v, t, hb', ?_, RepL.keep k (fun _ => rfl) hH _ _ (RepL.set h3 o hx)⟩
  simp only [World.setCell, Array.getElem?_modify, h2, if_true, Option.map_some, Option.isSome_none]
  simp [List.setIfInBounds_toArray] <;> rfl
theorem StB.share {C : Ctx} {β : Nat → Value} {S : Sd} {a : Act} {w : World} (h : StB C β S a w) {n e sz k : Nat} {sh : Bool} {xs : List D} (hl : look n S.H = some (.row e sz sh xs k)) :
    StB C β { S with H := (n, .row e sz true xs k) :: S.H } a w := by
  have hH : ∀ m e' sz' sh' xs' k', look m ((n, Ob.row e sz true xs k) :: S.H) = some (.row e' sz' sh' xs' k') → ∃ sh' xs', look m S.H = some (.row e' sz' sh' xs' k') := fun m e' sz' sh' xs' k' hm => by
    rw [look_set] at hm
    split at hm
    · rename_i e
      subst e
      cases hm
      exact ⟨sh, xs, hl⟩
    · exact ⟨sh', xs', hm⟩
  refine h.turn hl (fun _ _ => rfl) rfl rfl rfl (Nat.le_refl _) (fun _ _ _ => rfl) (fun b h => .inl h) (fun _ _ _ _ _ h => h) (fun b o _ _ h => ?_)
    (fun k t x v _ => RepV.keep k (fun _ => rfl) hH x v) (fun _ => rfl) (fun k m cs vs _ _ => RepL.keep k (fun _ => rfl) hH cs vs) (fun k => ?_)
  · rcases h with h | h
    · cases h
    · exact .inr h
  · obtain ⟨ys, h1, h2⟩ := h.obs n _ hl
    exact ⟨ys, h1, RepE.keep k _ _ _ h2⟩
mutual
def V.top : V → Nat
  | .own _ k => k + 1
  | .el _ k _ _ => k + 1
  | .suf _ k _ => k + 1
  | .clo _ f c => max (topL f) (topL c)
  | .tup vs => topL vs
  | .agg vs => topL vs
  | _ => 0
def topL : List V → Nat
  | [] => 0
  | v :: r => max v.top (topL r)
end
def topE : List (Nat × V) → Nat
  | [] => 0
  | (_, v) :: r => max v.top (topE r)
def topO : List (Nat × Ob) → Nat
  | [] => 0
  | (_, .box cs) :: r => max (topL cs) (topO r)
  | (_, .imap cs) :: r => max (topL cs) (topO r)
  | _ :: r => topO r
theorem topE_look {t : Nat} : ∀ {l : List (Nat × V)} {v : V}, look t l = some v → v.top ≤ topE l
  | [], _, h => by simp [look] at h
  | (s, u) :: r, v, h => by
    rw [look_cons] at h
    simp only [topE]
    split at h
    · cases h; omega
    · have := topE_look h; omega
theorem topO_look {t : Nat} : ∀ {l : List (Nat × Ob)} {cs : List V}, look t l = some (.box cs) ∨ look t l = some (.imap cs) → topL cs ≤ topO l
  | [], _, h => by simp [look] at h
  | (s, u) :: r, cs, h => by
    rw [look_cons] at h
    split at h
    · rcases h with h | h <;> cases h <;> simp only [topO] <;> omega
    · have := topO_look h
      cases u <;> simp only [topO] <;> omega
mutual
theorem RepV.bump {w w' : World} {M M' : Nat → Nat → Prop} {β β' : Nat → Value} {H H' : List (Nat × Ob)} {q top : Nat} (k : Keeps w M w' M') (hβ : ∀ n, n ≠ q → β' n = β n) (hsl : (∃ a n c, β q = .slice a n c))
    (hH : ∀ n, n ≠ q → look n H' = look n H) (hq : ∀ e sz sh xs k, look q H' = some (.row e sz sh xs k) → top ≤ k) :
    ∀ (x : V) (v : Value), x.top ≤ top → RepV w M β H x v → RepV w' M' β' H' x v
  | .d x, v, _, h => RepD.keep k x v h
  | .own n q', v, hs, h => fun e sz sh xs hl => by
    by_cases hn : n = q
    · subst hn
      have := hq e sz sh xs q' hl
      simp only [V.top] at hs
      omega
    · rw [hH n hn] at hl
      rw [hβ n hn]
      exact h e sz sh xs hl
  | .nils _, _, _, h => h
  | .ptr n off, _, _, h => by
    simp only [RepV] at h ⊢
    by_cases hn : n = q
    · subst hn
      obtain ⟨a, m, c, e⟩ := hsl
      obtain ⟨b, h1, _⟩ := h
      rw [e] at h1
      cases h1
    · rw [hβ n hn]
      exact h
  | .sl n off _ _, _, _, h => by
    simp only [RepV] at h ⊢
    by_cases hn : n = q
    · subst hn
      obtain ⟨a, m, c, e⟩ := hsl
      obtain ⟨b, h1, _⟩ := h
      rw [e] at h1
      cases h1
    · rw [hβ n hn]
      exact h
  | .el n q' i off, v, hs, h => fun e sz sh xs hl => by
    by_cases hn : n = q
    · subst hn
      have := hq e sz sh xs q' hl
      simp only [V.top] at hs
      omega
    · rw [hH n hn] at hl
      rw [hβ n hn]
      exact h e sz sh xs hl
  | .suf n q' p, v, hs, h => fun e sz sh xs hl => by
    by_cases hn : n = q
    · subst hn
      have := hq e sz sh xs q' hl
      simp only [V.top] at hs
      omega
    · rw [hH n hn] at hl
      rw [hβ n hn]
      exact h e sz sh xs hl
  | .map n, _, _, h => by
    simp only [RepV] at h ⊢
    by_cases hn : n = q
    · subst hn
      obtain ⟨a, m, c, e⟩ := hsl
      obtain ⟨b, h1, _⟩ := h
      rw [e] at h1
      cases h1
    · rw [hβ n hn]
      exact h
  | .clo _ f c, _, hs, ⟨fs, gs, h1, h2, h3⟩ => by
    simp only [V.top] at hs
    exact ⟨fs, gs, h1, RepL.bump k hβ hsl hH hq f fs (by omega) h2, RepL.bump k hβ hsl hH hq c gs (by omega) h3⟩
  | .tup vs, _, hs, ⟨us, h1, h2⟩ => ⟨us, h1, RepL.bump k hβ hsl hH hq vs us (by simpa only [V.top] using hs) h2⟩
  | .agg vs, _, hs, ⟨us, h1, h0, h2⟩ => ⟨us, h1, h0, RepL.bump k hβ hsl hH hq vs us (by simpa only [V.top] using hs) h2⟩
theorem RepL.bump {w w' : World} {M M' : Nat → Nat → Prop} {β β' : Nat → Value} {H H' : List (Nat × Ob)} {q top : Nat} (k : Keeps w M w' M') (hβ : ∀ n, n ≠ q → β' n = β n) (hsl : (∃ a n c, β q = .slice a n c))
    (hH : ∀ n, n ≠ q → look n H' = look n H) (hq : ∀ e sz sh xs k, look q H' = some (.row e sz sh xs k) → top ≤ k) :
    ∀ (xs : List V) (vs : List Value), topL xs ≤ top → RepL w M β H xs vs → RepL w' M' β' H' xs vs
  | [], _, _, h => h
  | x :: xs, _, hs, ⟨v, r, h1, h2, h3⟩ => by
    simp only [topL] at hs
    exact ⟨v, r, h1, RepV.bump k hβ hsl hH hq x v (by omega) h2, RepL.bump k hβ hsl hH hq xs r (by omega) h3⟩
end
end Go.Proofs.YtcblefmjacofgaaGreatDoor
namespace Go.Proofs.YtcblefmjacofgaaGreatDoor
open Go.RowKit
theorem run_app {P : Program} (w : World) {t ty e : TypeId} {size bytes : Nat} (he : Elem P t e size bytes) {v : Value} {n : Nat} {xs : List Value} (hown : w.ownsRow 0 e size v n xs)
    {xa : Option Addr} {m xc : Nat} {news : List Value} (hl : news.length = m * size) (hrd : ∀ j u, news[j]? = some u → ∃ b o, xa = some ⟨b, o, none⟩ ∧ w.cell? ⟨b, o + j, none⟩ = some u) (hnil : xa = none → xc = 0) (hmc : m ≤ xc)
    (h1 : ∀ u ∈ news, u.oneCell' = true) (h63 : n + m ≤ 1000000000000) (hby : bytes ≤ 128) :
    ∃ v' w', (Builtin.append_ #[t, t] ty #[v, .slice xa m xc]).run P w = .ok v' w' ∧ w'.ownsRow 0 e size v' (n + m) (xs ++ news) ∧
      ((v'.ownBlock = v.ownBlock ∧ w.grownBy w' v.ownBlock) ∨ ((∀ b, v'.ownBlock = some b → w.heap.size ≤ b) ∧ w.grownBy w' none)) := by
  obtain ⟨i, z, ht, hi, hz, hsize, hbytes, hzs, hpos⟩ := he
  have hbound : (n + m) * bytes ≤ 140737488355328 := Nat.le_trans (Nat.mul_le_mul h63 hby) (by omega)
  have hmax : n + m ≤ maxLen := by unfold maxLen; omega
  cases xa with
  | none =>
    have hc0 := hnil rfl
    have hm0 : m = 0 := by omega
    subst hm0; subst hc0
    have hn0 : news = [] := List.eq_nil_of_length_eq_zero (by omega)
    subst hn0
    have hrun := run_append_owned_none (P := P) (w := w) 0 t ty e i size ht hi v n xs hown
    exact ⟨v, w, hrun, by simpa using hown, .inl ⟨rfl, rfl, rfl, rfl, Nat.le_refl _, fun _ _ _ => rfl⟩⟩
  | some ad =>
    have hnews : ∀ j u, news[j]? = some u → w.cell? (ad.add j) = some u := by
      intro j u hu
      obtain ⟨b, o', e', hc⟩ := hrd j u hu
      cases e'
      have ha : (⟨b, o', none⟩ : Addr).add j = ⟨b, o' + j, none⟩ := by unfold Addr.add; split <;> simp_all
      rw [ha]
      exact hc
    rcases hown.2 with ⟨rfl, rfl⟩ | ⟨g, cap, cur, rfl, hbg, hg, hnc, hcm, hcs, htake⟩
    · obtain ⟨v', w', hr, h2, h3, h4, h5⟩ := run_append_own_at (P := P) w 0 t ty e i z size bytes ht hi hz hsize hbytes hzs hpos _ 0 xs hown ad m xc news hl hnews h1 hmax hbound (Nat.zero_le _)
      refine ⟨v', w', hr, h2, .inr ⟨fun b hb' => ?_, h3⟩⟩
      rcases h5 with h5 | h5
      · rw [h5] at hb'
        cases hb'
      · rw [h5] at hb'
        cases hb'
        exact Nat.le_refl _
    · by_cases hroom : n + m ≤ cap
      · obtain ⟨w', hr, h2, h3⟩ := run_append_fits (P := P) w 0 t ty e i size ht hi hsize g n cap xs hown ad m xc news hl hnews h1 hroom
        exact ⟨_, w', hr, h2, .inl ⟨rfl, h3⟩⟩
      · obtain ⟨v', w', hr, h2, h3⟩ := run_append_arg_grows (P := P) w t ty e i z size bytes ht hi hz hsize hbytes hzs hpos ⟨g, 0, none⟩ n cap xs hown.1
          (fun j u hu => hown.cells (g := g) (by simp [Value.ownBlock]) j u hu) ad m xc news hl hnews (by omega) hmax hbound
        exact ⟨v', w', hr, owns_mono h2 (Nat.zero_le _), .inr ⟨fun b hb' => (h2.lt b hb').1, h3⟩⟩
theorem hb_row {w : World} {base : Nat} {e : TypeId} {size : Nat} {v : Value} {n : Nat} {xs : List Value} (h : w.ownsRow base e size v n xs) : hb v = v.ownBlock := by
  rcases h.2 with ⟨rfl, _⟩ | ⟨g, cap, cur, rfl, _⟩ <;> rfl
theorem row_cell {w : World} {e : TypeId} {size : Nat} {v : Value} {n : Nat} {xs : List Value} (h : w.ownsRow 0 e size v n xs) {b : Nat} (hv : v.ownBlock = some b) {o : Nat} {y : Value} (ho : o < n * size) (hc : w.cell? ⟨b, o, none⟩ = some y) : xs[o]? = some y := by
  have hlt : o < xs.length := by rw [h.1]; exact ho
  have := h.cells (g := b) hv o xs[o] (by simp [hlt])
  have ha : (⟨b, 0, none⟩ : Addr).add o = ⟨b, o, none⟩ := by unfold Addr.add; split <;> simp_all
  rw [ha, hc] at this
  cases this
  simp [hlt]
theorem StB.append {C : Ctx} {β : Nat → Value} {S : Sd} {a : Act} {w w' : World} (h : StB C β S a w) {n e sz k : Nat} {sh : Bool} {xs : List D} (hl : look n S.H = some (.row e sz sh xs k)) {old news : List Value} {zs : List D}
    (hold : w.ownsRow 0 e sz (β n) xs.length old) (hxs : RepE w (Mut C.M0 β S.H) sz xs old) (hzs : RepE w (Mut C.M0 β S.H) sz zs news) {v' : Value}
    (hown : w'.ownsRow 0 e sz v' (xs.length + zs.length) (old ++ news))
    (hw : (v'.ownBlock = (β n).ownBlock ∧ w.grownBy w' (β n).ownBlock) ∨ ((∀ b, v'.ownBlock = some b → w.heap.size ≤ b) ∧ w.grownBy w' none)) (hsh : sh = true) (k' : Nat) (hk : max (topE S.env) (topO S.H) ≤ k') (hN : C.N.contains n = false) :
    StB C (upd β n v') { S with H := (n, .row e sz true (xs ++ zs) k') :: S.H } a w' := by
  subst hsh
  have hbo := hb_row hold
  have hbn := hb_row hown
  have hg : w.grownBy w' (β n).ownBlock := by
    rcases hw with ⟨_, h1⟩ | ⟨_, h1⟩
    · exact h1
    · exact ⟨h1.os, h1.tape, h1.output, h1.size, fun k hk _ => h1.block k hk (by simp)⟩
  have hsl : ∃ a n' c, (upd β n v') n = .slice a n' c := by
    rw [upd_same]
    obtain ⟨a, c, e, _⟩ := owns_shape hown
    exact ⟨a, _, c, e⟩
  have hsl0 : ∃ a n' c, β n = .slice a n' c := by
    obtain ⟨a, c, e, _⟩ := owns_shape hold
    exact ⟨a, _, c, e⟩
  have hH : ∀ m, m ≠ n → look m ((n, Ob.row e sz true (xs ++ zs) k') :: S.H) = look m S.H := fun m hm => by rw [look_set, if_neg (Ne.symm hm)]
  have hq : ∀ e' sz' sh' xs' k'', look n ((n, Ob.row e sz true (xs ++ zs) k') :: S.H) = some (.row e' sz' sh' xs' k'') → max (topE S.env) (topO S.H) ≤ k'' := fun e' sz' sh' xs' k'' h1 => by
    rw [look_set, if_pos rfl] at h1
    cases h1
    exact hk
  refine h.turn hl (fun m hm => upd_other β n v' hm) hg.os hg.tape hg.output hg.size (fun q hq hne => hg.block q hq (fun e => hne (by rw [hbo, ← e]))) (fun b hb' => ?_) (fun b o y hb' hm hc => ?_) (fun b o h1 h2 h3 => ?_)
    (fun kp t x v hx hv => RepV.bump kp (fun m hm => upd_other β n v' hm) hsl0 hH hq x v (by have := topE_look hx; omega) hv)
    (fun hm => absurd hm (by simpa using hN))
    (fun kp m cs vs _ hm hv => RepL.bump kp (fun m hm => upd_other β n v' hm) hsl0 hH hq cs vs (by have := topO_look hm; omega) hv) (fun kp => ?_)
  · rw [upd_same, hbn] at hb'
    rcases hw with ⟨h1, _⟩ | ⟨h1, _⟩
    · exact .inl (by rw [hbo, ← h1, hb'])
    · exact .inr (h1 b hb')
  · have ho : o < xs.length * sz := by
      simp only [Ob.mut, Bool.true_eq_false, false_or, Nat.not_le] at hm
      exact hm
    rcases hw with ⟨h1, h2⟩ | ⟨h1, h2⟩
    · have hy := row_cell hold (hbo ▸ hb') ho hc
      have hlt : o < old.length := by rw [hold.1]; exact ho
      have := hown.cells (g := b) (by rw [h1, ← hbo]; exact hb') o y (by rw [List.getElem?_append_left hlt]; exact hy)
      have ha : (⟨b, 0, none⟩ : Addr).add o = ⟨b, o, none⟩ := by unfold Addr.add; split <;> simp_all
      rwa [ha] at this
    · rw [← hc]
      exact World.cell?_of_block (h2.block b (h.old hl hb') (by simp))
  · rcases h3 with h3 | h3
    · cases h3
    · refine .inr (Nat.le_trans ?_ h3)
      rw [List.length_append, Nat.add_mul]
      omega
  · rw [upd_same]
    exact ⟨old ++ news, by rw [List.length_append]; exact hown, (RepE.keep kp _ _ _ hxs).append (RepE.keep kp _ _ _ hzs)⟩
end Go.Proofs.YtcblefmjacofgaaGreatDoor
namespace Go.Proofs.YtcblefmjacofgaaGreatDoor
open Go.RowKit
def WF : Option Nat → Fence
  | none => Fence.wide
  | some l => Fence.wide.inRound l
theorem WF_fn (ρ : Option Nat) (f : FuncId) : (WF ρ).fn f := by cases ρ <;> trivial
theorem WF_room (ρ : Option Nat) (n : Nat) : (WF ρ).room n := by cases ρ <;> exact room_wide n
theorem WF_depth (ρ : Option Nat) (n : Nat) : (WF ρ).depth.isSome = true → 1 ≤ n := by cases ρ <;> intro h <;> simp [WF, Fence.wide, Fence.inRound] at h
theorem callsIn_WF {ρ : Option Nat} {n : Nat} {P : Program} {f : FuncId} {args : Array Value} {w : World} {R : Ending → World → Prop} : CallsIn (WF ρ) n P f args w R ↔ Calls P f args w R := by
  cases ρ with
  | none => exact callsIn_wide
  | some l => exact callsIn_wide (n := n)
theorem wpIn_of_wp {ρ : Option Nat} {P : Program} {Q : Exit → Act → World → Prop} {o : Oper} {a : Act} {w : World} {K : Act → World → Prop} {n : Nat} (hd : ∀ c, o.op ≠ .defer c) (h : o.wp P a w K Q) : o.wpIn (WF ρ) n P a w K Q := by
  unfold Oper.wp at h
  refine ⟨fun _ _ => WF_fn ρ _, ?_⟩
  rw [Oper.semAt_eq _ _ _ hd]
  generalize (execOp a.eval o).run P w = r at *
  cases r with
  | ok x w' =>
    cases x <;> simp only [Oper.upon] at h <;> simp only [Oper.uponIn]
    case value v => exact h
    case skip => exact h
    case defer d => exact h
    case enter f args => exact ⟨WF_depth ρ n, callsIn_WF.2 h⟩
    case row row args =>
      refine ⟨WF_depth ρ n, fun c cs _ => ?_⟩
      obtain ⟨v, w'', h1, h2⟩ := h c cs
      refine ⟨v, w'', h1, ?_⟩
      cases ρ <;> exact stepsIn_wide.2 h2
  | halt x w' => cases x <;> simp only [Oper.upon] at h <;> simp only [Oper.uponIn] <;> exact h
structure Set where
  P : Program
  C : Ctx
  rd : Option Nat
def Qof (C : Ctx) (Q : Exit → Sd → Prop) : Exit → Act → World → Prop := fun e a w => ∃ S', St C S' a w ∧ Q e S'
def Todo.list : Todo → List Oper
  | .nil => []
  | .step o _ rest => o :: rest.list
  | .two _ _ _ _ => []
  | .mid _ _ _ _ => []
  | .or _ _ => []
  | .tail _ => []
def todo : List Oper → Todo
  | [] => .nil
  | o :: l => .step o .bar (todo l)
theorem todo_list : ∀ l : List Oper, (todo l).list = l
  | [] => rfl
  | o :: l => by simp [todo, Todo.list, todo_list l]
def TC (E : Set) (c : Code) (Q : Exit → Sd → Prop) (S : Sd) : Prop := ∀ a w, St E.C S a w → c.wpIn (WF E.rd) 0 E.P (Qof E.C Q) a w
def TR (E : Set) (draw : Bool) (ops : Array Oper) (Q : Exit → Sd → Prop) (l : Todo) (S : Sd) : Prop :=
  ∀ a w, St E.C S a w → match draw with
    | true => wpMix3 E.P ops (Qof E.C Q) l a w
    | false => wpListIn (WF E.rd) 0 E.P ops (Qof E.C Q) l.list a w
def noPanic (Q : Exit → Sd → Prop) : Prop := ∀ c S, ¬ Q (.panic c) S
section
variable {E : Set} {Q : Exit → Sd → Prop} {S : Sd}
theorem Qof_mono {C : Ctx} {Q Q' : Exit → Sd → Prop} (h : ∀ e S, Q e S → Q' e S) (e : Exit) (a : Act) (w : World) : Qof C Q e a w → Qof C Q' e a w := fun ⟨S', h1, h2⟩ => ⟨S', h1, h _ _ h2⟩
def Exit.thenD (K : Sd → Prop) (Q : Exit → Sd → Prop) : Exit → Sd → Prop
  | .normal, S => K S
  | e, S => Q e S
def Exit.inBlockD (id : Nat) (Q : Exit → Sd → Prop) : Exit → Sd → Prop
  | .exit id', S => if id' = id then Q .normal S else Q (.exit id') S
  | e, S => Q e S
theorem tc_seq {x y : Code} (h : ∀ K : Sd → Prop, (∀ S, TC E y Q S → K S) → TC E x (Exit.thenD K Q) S) : TC E (.seq x y) Q S := fun a w hS => by
  refine wpIn_seq (wpIn_mono (h (TC E y Q) (fun _ h => h) a w hS) fun e a w ⟨S', h1, h2⟩ => ?_)
  cases e
  case normal => exact h2 a w h1
  all_goals exact ⟨S', h1, h2⟩
theorem tc_skip (h : Q .normal S) : TC E .skip Q S := fun _ _ hS => wpIn_skip ⟨S, hS, h⟩
theorem tc_label {l : Nat} (h : Q .normal S) : TC E (.label l) Q S := fun _ _ hS => wpIn_label ⟨S, hS, h⟩
theorem tc_exit {id : Nat} (h : Q (.exit id) S) : TC E (.exit id) Q S := fun _ _ hS => wpIn_exit ⟨S, hS, h⟩
theorem tc_ret (h : Q .ret S) : TC E .ret Q S := fun _ _ hS => wpIn_ret ⟨S, hS, h⟩
theorem tc_block {id : Nat} {c : Code} (h : TC E c (Exit.inBlockD id Q) S) : TC E (.block id c) Q S := fun a w hS =>
  wpIn_block (wpIn_mono (h a w hS) fun e a w ⟨S', h1, h2⟩ => by
    cases e
    case exit id' =>
      simp only [Exit.inBlockD] at h2
      simp only [Exit.inBlock]
      split
      · rename_i he; rw [if_pos he] at h2; exact ⟨S', h1, h2⟩
      · rename_i he; rw [if_neg he] at h2; exact ⟨S', h1, h2⟩
    all_goals exact ⟨S', h1, h2⟩)
theorem tc_cond {c : Operand} {x y : Code} {b : Bool} (hc : S.ev c = some (.d (.bool b))) (ho : okOp c = true) (ht : b = true → TC E x Q S) (hf : b = false → TC E y Q S) : TC E (.cond c x y) Q S := fun a w hS => by
  obtain ⟨β, hB⟩ := hS
  have he : a.eval c = .bool b := hB.ev hc ho
  exact wpIn_cond_split he (fun h => ht h a w ⟨β, hB⟩) (fun h => hf h a w ⟨β, hB⟩)
theorem least {p : Nat → Prop} (h : ∃ m, p m) : ∃ m, p m ∧ ∀ k, p k → m ≤ k := by
  obtain ⟨m, hm⟩ := h
  induction m using Nat.strongRecOn with
  | _ m ih =>
    by_cases hk : ∃ k, k < m ∧ p k
    · obtain ⟨k, h1, h2⟩ := hk
      exact ih k h1 h2
    · exact ⟨m, hm, fun k h2 => Nat.le_of_not_lt fun h1 => hk ⟨k, h1, h2⟩⟩
open Classical in
noncomputable def leastOf (p : Nat → Prop) : Nat := if h : ∃ m, p m then Classical.choose (least h) else 0
theorem leastOf_spec {p : Nat → Prop} (h : ∃ m, p m) : p (leastOf p) ∧ ∀ k, p k → leastOf p ≤ k := by
  unfold leastOf
  rw [dif_pos h]
  exact Classical.choose_spec (least h)
theorem tc_loop {c : Code} (I : Sd → Prop) (μ : Sd → Nat) (h0 : I S)
    (round : ∀ S, I S → TC E c (Exit.thenD (fun S' => ∃ S'', (∀ a w, St E.C S' a w → St E.C S'' a w) ∧ I S'' ∧ μ S'' < μ S) Q) S) : TC E (.loop c) Q S := fun a w hS => by
  refine wpIn_loop (fun a w => ∃ m S, I S ∧ St E.C S a w ∧ μ S = m) (fun a w => leastOf fun m => ∃ S, I S ∧ St E.C S a w ∧ μ S = m) ⟨_, S, h0, hS, rfl⟩ fun a w hI => ?_
  obtain ⟨⟨S, h1, h2, h3⟩, _⟩ := leastOf_spec hI
  refine wpIn_mono (round S h1 a w h2) fun e a' w' ⟨S', h4, h5⟩ => ?_
  cases e
  case normal =>
    obtain ⟨S'', h6, h7, h8⟩ := h5
    refine ⟨⟨_, S'', h7, h6 _ _ h4, rfl⟩, ?_⟩
    have := (leastOf_spec (p := fun m => ∃ S, I S ∧ St E.C S a' w' ∧ μ S = m) ⟨_, S'', h7, h6 _ _ h4, rfl⟩).2 _ ⟨S'', h7, h6 _ _ h4, rfl⟩
    omega
  all_goals exact ⟨S', h4, h5⟩
theorem tc_weak {c : Code} {S' : Sd} (h : ∀ a w, St E.C S a w → St E.C S' a w) (h' : TC E c Q S') : TC E c Q S := fun a w hS => h' a w (h a w hS)
theorem tc_mono {c : Code} {Q' : Exit → Sd → Prop} (h : TC E c Q S) (hq : ∀ e S, Q e S → Q' e S) : TC E c Q' S := fun a w hS => wpIn_mono (h a w hS) fun e a w => Qof_mono hq e a w
theorem tc_region {id : Nat} {l : List Oper} (h : TR E false l.toArray Q (todo l) S) : TC E (.region id l.toArray false) Q S := fun a w hS => by
  have := h a w hS
  simp only [todo_list] at this
  exact wpIn_region_lit this
def nth {α : Type} : List α → Nat → Option α
  | [], _ => none
  | x :: _, 0 => some x
  | _ :: l, n + 1 => nth l n
theorem nth_eq {α : Type} : ∀ (l : List α) (n : Nat), nth l n = l[n]?
  | [], n => by simp [nth]
  | x :: l, 0 => rfl
  | x :: l, n + 1 => by simp [nth, nth_eq l n]
theorem nth_arr {α : Type} (a : Array α) (n : Nat) : nth a.toList n = a[n]? := by rw [nth_eq]; simp
def tailL (l : List Oper) : List (Nat × TW) → List (Oper × TW)
  | [] => []
  | (i, x) :: rest => match nth l i with
    | some o => (o, x) :: tailL l rest
    | none => []
theorem tailL_eq (ops : Array Oper) : ∀ l, tailL ops.toList l = tailOps ops l
  | [] => rfl
  | (i, x) :: rest => by simp only [tailL, tailOps, nth_arr, tailL_eq ops rest]; cases ops[i]? <;> rfl
def planL (l : List Oper) : Plan → Todo
  | .nil => .nil
  | .step i x rest => match nth l i with
    | some o => .step o x (planL l rest)
    | none => .nil
  | .two i rest j rest' => match nth l i, nth l j with
    | some o, some o' => .two o (planL l rest) o' (planL l rest')
    | _, _ => .nil
  | .mid i rest j rest' => match nth l i, nth l j with
    | some o, some o' => .mid o (planL l rest) o' (planL l rest')
    | _, _ => .nil
  | .or x y => .or (planL l x) (planL l y)
  | .tail q => .tail (tailL l q)
theorem planL_eq (ops : Array Oper) : ∀ p, planL ops.toList p = planOps3 ops p
  | .nil => rfl
  | .step i x rest => by simp only [planL, planOps3, nth_arr, planL_eq ops rest]; cases ops[i]? <;> rfl
  | .two i rest j rest' => by simp only [planL, planOps3, nth_arr, planL_eq ops rest, planL_eq ops rest']; cases ops[i]? <;> cases ops[j]? <;> rfl
  | .mid i rest j rest' => by simp only [planL, planOps3, nth_arr, planL_eq ops rest, planL_eq ops rest']; cases ops[i]? <;> cases ops[j]? <;> rfl
  | .or x y => by simp only [planL, planOps3, planL_eq ops x, planL_eq ops y]
  | .tail q => by simp only [planL, planOps3, tailL_eq]
theorem tc_draw {id : Nat} {ops : Array Oper} (bars : List Nat) (plan : Plan) (hm : E.P.follows .mixedOrders = true) (hs : Region.noSelect ops = true) (hd : noDefer ops = true) (hl : plan.len = ops.size) (hnd : bars.Nodup) (hev : plan.even = true)
    (hB : mixOk3 .any ops bars (Array.replicate ops.size false) plan = true) (hQ : noPanic Q) (h : TR E true ops Q (planL ops.toList plan) S) : TC E (.region id ops true) Q S := fun a w hS => by
  rw [planL_eq] at h
  have hQ' : ∀ c (a : Act) d v w, Qof E.C Q (.panic c) (a.put d v) w → Qof E.C Q (.panic c) a w := fun c a d v w ⟨S', _, h2⟩ => absurd h2 (hQ c S')
  have h1 := h a w hS
  cases hr : E.rd with
  | none => exact wpIn_wide.2 (wp_region_mix3 bars plan hm hs hl hnd hev hB hQ' h1)
  | some r => exact wpIn_region_mix3 bars plan hm hs hd hl hnd hev hB hQ' h1
theorem noPanic_then {K : Sd → Prop} (h : noPanic Q) : noPanic (Exit.thenD K Q) := fun c S => h c S
theorem noPanic_block {id : Nat} (h : noPanic Q) : noPanic (Exit.inBlockD id Q) := fun c S => h c S
variable {ops : Array Oper} {draw : Bool} {rest : Todo} {o : Oper} {way : Way3}
theorem tr_nil (h : Q .normal S) : TR E draw ops Q .nil S := fun a w hS => by
  cases draw with
  | true => exact fun n => ⟨S, hS.later n.grows, h⟩
  | false => exact wpListIn_nil ⟨S, hS, h⟩
theorem tr_two {o o' : Oper} {rest rest' : Todo} (h : TR E true ops Q (.step o .grow rest) S) (h' : TR E true ops Q (.step o' .grow rest') S) : TR E true ops Q (.two o rest o' rest') S := fun a w hS => ⟨h a w hS, h' a w hS⟩
theorem tr_or {x y : Todo} (h : TR E true ops Q x S) (h' : TR E true ops Q y S) : TR E true ops Q (.or x y) S := fun a w hS => ⟨h a w hS, h' a w hS⟩
theorem tr_mid {o o' : Oper} {rest rest' : Todo} (h : TR E true ops Q (.step o .grow rest) S) (h' : TR E true ops Q (.step o' .bar rest') S) : TR E true ops Q (.mid o rest o' rest') S := fun a w hS => ⟨h a w hS, h' a w hS⟩
theorem tr_cut (h : ∀ K : Sd → Prop, (∀ S, TR E draw ops Q rest S → K S) → K S) : TR E draw ops Q rest S := h _ fun _ h => h
def Sd.gd (S : Sd) (ops : Array Oper) (o : Oper) : Option Bool :=
  match o.guard with
  | none => some true
  | some (j, want) => match (nth ops.toList j).bind (·.dst) with
    | some t => match S.ev (.tmp t) with
      | some (.d (.bool b)) => some (b == want)
      | _ => none
    | none => none
theorem Sd.gd_sound {C : Ctx} {a : Act} {w : World} (hS : St C S a w) {b : Bool} (h : S.gd ops o = some b) : Region.wanted o (yielded ops a.tmps) = b := by
  obtain ⟨β, hB⟩ := hS
  unfold Sd.gd at h
  unfold Region.wanted
  cases hg : o.guard with
  | none => rw [hg] at h; simp at h; simp [h]
  | some p =>
    obtain ⟨j, want⟩ := p
    rw [hg] at h
    dsimp only at h ⊢
    rw [nth_arr] at h
    split at h
    · rename_i t ht
      split at h
      · rename_i b' hb'
        cases h
        simp only [Sd.ev] at hb'
        cases hlt : Nat.blt t 100000 with
        | false => rw [hlt] at hb'; cases hb'
        | true =>
          rw [hlt] at hb'
          obtain ⟨x, h1, h2⟩ := hB.env t _ hb'
          simp only [slotV, hlt, cond_true] at h1
          simp only [RepV, RepD] at h2
          subst h2
          unfold yielded
          simp only [ht, Option.bind_some, h1]
          cases b' <;> cases want <;> rfl
      · cases h
    · cases h
theorem ltd {a b : Nat} (h : Nat.blt a b = true) : a < b := by simpa using h
structure Quiet (E : Set) (S : Sd) (o : Oper) (v : V) : Prop where
  out : ∀ β a w, StB E.C β S a w → ∃ x, (∀ w', Grows w w' → (execOp a.eval o).run E.P w' = .ok (.value x) w') ∧ RepV w (Mut E.C.M0 β S.H) β S.H v x
structure Swift (E : Set) (S : Sd) (o : Oper) (v : V) : Prop where
  out : ∀ β a w, StB E.C β S a w → ∃ x, (∀ w', True → (execOp a.eval o).run E.P w' = .ok (.value x) w') ∧ RepV w (Mut E.C.M0 β S.H) β S.H v x
structure Grow (E : Set) (S : Sd) (o : Oper) (S' : Sd) (v : V) : Prop where
  out : ∀ β a w, StB E.C β S a w → ∃ x w' β', (execOp a.eval o).run E.P w = .ok (.value x) w' ∧ Grows w w' ∧ StB E.C β' S' a w' ∧ RepV w' (Mut E.C.M0 β' S'.H) β' S'.H v x
structure Turn (E : Set) (S : Sd) (o : Oper) (S' : Sd) : Prop where
  out : ∀ β a w, StB E.C β S a w → ∃ w', (execOp a.eval o).run E.P w = .ok .skip w' ∧ St E.C S' a w'
structure TurnV (E : Set) (S : Sd) (o : Oper) (S' : Sd) (v : V) : Prop where
  out : ∀ β a w, StB E.C β S a w → ∃ x w' β', (execOp a.eval o).run E.P w = .ok (.value x) w' ∧ StB E.C β' S' a w' ∧ RepV w' (Mut E.C.M0 β' S'.H) β' S'.H v x
theorem wp_value {P : Program} {a : Act} {w w' : World} {x : Value} {K : Act → World → Prop} {R : Exit → Act → World → Prop} (h : (execOp a.eval o).run P w = .ok (.value x) w') (hk : K (a.put o.dst x) w') : o.wp P a w K R := by
  unfold Oper.wp
  rw [h]
  exact hk
theorem wp_skip' {P : Program} {a : Act} {w w' : World} {K : Act → World → Prop} {R : Exit → Act → World → Prop} (h : (execOp a.eval o).run P w = .ok .skip w') (hk : K (a.put o.dst undef) w') : o.wp P a w K R := by
  unfold Oper.wp
  rw [h]
  exact hk
def isDefer (o : Oper) : Bool := match o.op with | .defer _ => true | _ => false
theorem isDefer_spec (h : isDefer o = false) : ∀ c, o.op ≠ .defer c := fun c e => by simp [isDefer, e] at h
theorem listIn_of_wp {C : Ctx} {R : Exit → Act → World → Prop} {l : List Oper} {a : Act} {w : World} (hS : St C S a w) (hg : S.gd ops o = some true) (hd : isDefer o = false) {ρ : Option Nat} {P : Program}
    (h : ∀ K : Act → World → Prop, (∀ a w, wpListIn (WF ρ) 0 P ops R l a w → K a w) → o.wp P a w K R) : wpListIn (WF ρ) 0 P ops R (o :: l) a w :=
  wpListIn_step fun K hK => by
    rw [Sd.gd_sound hS hg, if_pos rfl]
    exact wpIn_of_wp (isDefer_spec hd) (h K hK)
def Way3.known : Way3 → Bool
  | .pure => true
  | _ => false
theorem tr_quiet {d : Nat} {v : V} (hq : Quiet E S o v) (hdst : o.dst = some d) (hd : d < E.C.nt) (hg : S.gd ops o = some true) (hdf : isDefer o = false) (hw : way.known = false) (h : TR E draw ops Q rest (S.put d v)) : TR E draw ops Q (.step o way rest) S := fun a w hS => by
  have hS0 := hS
  obtain ⟨β, hB⟩ := hS
  obtain ⟨x, h1, h2⟩ := hq.out β a w hB
  have hput : ∀ w', Grows w w' → St E.C (S.put d v) (a.put o.dst x) w' := fun w' g => by
    rw [hdst]
    exact St.later ⟨β, hB.put hd h2⟩ g
  cases draw with
  | true =>
    dsimp only
    cases way with
    | pure => cases hw
    | quiet =>
      simp only [wpMix3]
      rw [Sd.gd_sound hS0 hg, if_pos rfl]
      refine ⟨x, fun n => ?_, h _ _ (hput w (Grows.refl w))⟩
      rw [h1 n.w n.grows]
      exact ⟨rfl, rfl⟩
    | grow =>
      simp only [wpMix3]
      intro n
      rw [Sd.gd_sound hS0 hg, if_pos rfl]
      exact wp_value (h1 n.w n.grows) ⟨Grows.refl _, h _ _ (hput n.w n.grows)⟩
    | bar =>
      simp only [wpMix3]
      intro n
      rw [Sd.gd_sound hS0 hg, if_pos rfl]
      exact wp_value (h1 n.w n.grows) (h _ _ (hput n.w n.grows))
  | false => exact listIn_of_wp hS0 hg hdf fun K hK => wp_value (h1 w (Grows.refl w)) (hK _ _ (h _ _ (hput w (Grows.refl w))))
theorem tr_still {d : Nat} {v : V} (hq : Swift E S o v) (hdst : o.dst = some d) (hd : d < E.C.nt) (hg : S.gd ops o = some true) (hdf : isDefer o = false) (h : TR E draw ops Q rest (S.put d v)) : TR E draw ops Q (.step o way rest) S := fun a w hS => by
  have hS0 := hS
  obtain ⟨β, hB⟩ := hS
  obtain ⟨x, h1, h2⟩ := hq.out β a w hB
  have hput : ∀ w', Grows w w' → St E.C (S.put d v) (a.put o.dst x) w' := fun w' g => by
    rw [hdst]
    exact St.later ⟨β, hB.put hd h2⟩ g
  cases draw with
  | true =>
    dsimp only
    cases way with
    | pure =>
      simp only [wpMix3]
      rw [Sd.gd_sound hS0 hg, if_pos rfl]
      exact ⟨x, fun w' => h1 w' trivial, h _ _ (hput w (Grows.refl w))⟩
    | quiet =>
      simp only [wpMix3]
      rw [Sd.gd_sound hS0 hg, if_pos rfl]
      refine ⟨x, fun n => ?_, h _ _ (hput w (Grows.refl w))⟩
      rw [h1 n.w trivial]
      exact ⟨rfl, rfl⟩
    | grow =>
      simp only [wpMix3]
      intro n
      rw [Sd.gd_sound hS0 hg, if_pos rfl]
      exact wp_value (h1 n.w trivial) ⟨Grows.refl _, h _ _ (hput n.w n.grows)⟩
    | bar =>
      simp only [wpMix3]
      intro n
      rw [Sd.gd_sound hS0 hg, if_pos rfl]
      exact wp_value (h1 n.w trivial) (h _ _ (hput n.w n.grows))
  | false => exact listIn_of_wp hS0 hg hdf fun K hK => wp_value (h1 w trivial) (hK _ _ (h _ _ (hput w (Grows.refl w))))
theorem tr_pass {d : Nat} (hdst : o.dst = some d) (hd : d < E.C.nt) (hg : S.gd ops o = some false) (h : TR E draw ops Q rest (S.put d (.tup []))) : TR E draw ops Q (.step o way rest) S := fun a w hS => by
  have hS0 := hS
  have hput : ∀ w', Grows w w' → St E.C (S.put d (.tup [])) (a.put o.dst undef) w' := fun w' g => by
    obtain ⟨β, hB⟩ := hS.later g
    rw [hdst]
    exact ⟨β, hB.put hd ⟨[], rfl, rfl⟩⟩
  cases draw with
  | true =>
    dsimp only
    cases way with
    | pure =>
      simp only [wpMix3]
      rw [Sd.gd_sound hS0 hg, if_neg (by decide)]
      exact h _ _ (hput w (Grows.refl w))
    | quiet =>
      simp only [wpMix3]
      rw [Sd.gd_sound hS0 hg, if_neg (by decide)]
      exact h _ _ (hput w (Grows.refl w))
    | grow =>
      simp only [wpMix3]
      intro n
      rw [Sd.gd_sound hS0 hg, if_neg (by decide)]
      exact h _ _ (hput n.w n.grows)
    | bar =>
      simp only [wpMix3]
      intro n
      rw [Sd.gd_sound hS0 hg, if_neg (by decide)]
      exact h _ _ (hput n.w n.grows)
  | false =>
    refine wpListIn_step fun K hK => ?_
    rw [Sd.gd_sound hS0 hg, if_neg (by decide)]
    exact ⟨fun _ _ => WF_fn _ _, hK _ _ (h _ _ (hput w (Grows.refl w)))⟩
theorem tr_pass0 (hdst : o.dst = none) (hg : S.gd ops o = some false) (h : TR E draw ops Q rest S) : TR E draw ops Q (.step o way rest) S := fun a w hS => by
  have hS0 := hS
  have hput : ∀ w', Grows w w' → St E.C S (a.put o.dst undef) w' := fun w' g => by
    rw [hdst]
    exact hS.later g
  cases draw with
  | true =>
    dsimp only
    cases way with
    | pure =>
      simp only [wpMix3]
      rw [Sd.gd_sound hS0 hg, if_neg (by decide)]
      exact h _ _ (hput w (Grows.refl w))
    | quiet =>
      simp only [wpMix3]
      rw [Sd.gd_sound hS0 hg, if_neg (by decide)]
      exact h _ _ (hput w (Grows.refl w))
    | grow =>
      simp only [wpMix3]
      intro n
      rw [Sd.gd_sound hS0 hg, if_neg (by decide)]
      exact h _ _ (hput n.w n.grows)
    | bar =>
      simp only [wpMix3]
      intro n
      rw [Sd.gd_sound hS0 hg, if_neg (by decide)]
      exact h _ _ (hput n.w n.grows)
  | false =>
    refine wpListIn_step fun K hK => ?_
    rw [Sd.gd_sound hS0 hg, if_neg (by decide)]
    exact ⟨fun _ _ => WF_fn _ _, hK _ _ (h _ _ (hput w (Grows.refl w)))⟩
def Way3.loud : Way3 → Bool
  | .pure => false
  | .quiet => false
  | _ => true
theorem tr_grow {d : Nat} {S' : Sd} {v : V} (hq : Grow E S o S' v) (hdst : o.dst = some d) (hd : d < E.C.nt) (hg : S.gd ops o = some true) (hdf : isDefer o = false) (hw : way.loud = true) (h : TR E draw ops Q rest (S'.put d v)) : TR E draw ops Q (.step o way rest) S := fun a w hS => by
  have hS0 := hS
  have key : ∀ w1, Grows w w1 → ∀ K : Act → World → Prop, (∀ a2 w2, Grows w1 w2 → St E.C (S'.put d v) a2 w2 → K a2 w2) → o.wp E.P a w1 K (Qof E.C Q) := fun w1 g K hK => by
    obtain ⟨β, hB⟩ := hS.later g
    obtain ⟨x, w', β', h1, h2, h3, h4⟩ := hq.out β a w1 hB
    refine wp_value h1 (hK _ _ h2 ?_)
    rw [hdst]
    exact ⟨β', h3.put hd h4⟩
  cases draw with
  | true =>
    dsimp only
    cases way with
    | pure => cases hw
    | quiet => cases hw
    | grow =>
      simp only [wpMix3]
      intro n
      rw [Sd.gd_sound hS0 hg, if_pos rfl]
      exact key n.w n.grows _ fun a2 w2 g2 hs2 => ⟨g2, h _ _ hs2⟩
    | bar =>
      simp only [wpMix3]
      intro n
      rw [Sd.gd_sound hS0 hg, if_pos rfl]
      exact key n.w n.grows _ fun a2 w2 g2 hs2 => h _ _ hs2
  | false => exact listIn_of_wp hS0 hg hdf fun K hK => key w (Grows.refl w) K fun a2 w2 _ hs2 => hK _ _ (h _ _ hs2)
def isBar : Bool → Way3 → Bool
  | false, _ => true
  | true, .bar => true
  | true, _ => false
theorem tr_turn {S' : Sd} (hq : Turn E S o S') (hdst : o.dst = none) (hg : S.gd ops o = some true) (hdf : isDefer o = false) (hw : isBar draw way = true) (h : TR E draw ops Q rest S') : TR E draw ops Q (.step o way rest) S := fun a w hS => by
  have hS0 := hS
  have key : ∀ w1, Grows w w1 → ∀ K : Act → World → Prop, (∀ a2 w2, St E.C S' a2 w2 → K a2 w2) → o.wp E.P a w1 K (Qof E.C Q) := fun w1 g K hK => by
    obtain ⟨β, hB⟩ := hS.later g
    obtain ⟨w', h1, h2⟩ := hq.out β a w1 hB
    refine wp_skip' h1 (hK _ _ ?_)
    rw [hdst]
    exact h2
  cases draw with
  | true =>
    dsimp only
    cases way with
    | pure => cases hw
    | quiet => cases hw
    | grow => cases hw
    | bar =>
      simp only [wpMix3]
      intro n
      rw [Sd.gd_sound hS0 hg, if_pos rfl]
      exact key n.w n.grows _ fun a2 w2 hs2 => h _ _ hs2
  | false => exact listIn_of_wp hS0 hg hdf fun K hK => key w (Grows.refl w) K fun a2 w2 hs2 => hK _ _ (h _ _ hs2)
theorem tr_turnV {d : Nat} {S' : Sd} {v : V} (hq : TurnV E S o S' v) (hdst : o.dst = some d) (hd : d < E.C.nt) (hg : S.gd ops o = some true) (hdf : isDefer o = false) (hw : isBar draw way = true) (h : TR E draw ops Q rest (S'.put d v)) : TR E draw ops Q (.step o way rest) S := fun a w hS => by
  have hS0 := hS
  have key : ∀ w1, Grows w w1 → ∀ K : Act → World → Prop, (∀ a2 w2, St E.C (S'.put d v) a2 w2 → K a2 w2) → o.wp E.P a w1 K (Qof E.C Q) := fun w1 g K hK => by
    obtain ⟨β, hB⟩ := hS.later g
    obtain ⟨x, w', β', h1, h2, h3⟩ := hq.out β a w1 hB
    refine wp_value h1 (hK _ _ ?_)
    rw [hdst]
    exact ⟨β', h2.put hd h3⟩
  cases draw with
  | true =>
    dsimp only
    cases way with
    | pure => cases hw
    | quiet => cases hw
    | grow => cases hw
    | bar =>
      simp only [wpMix3]
      intro n
      rw [Sd.gd_sound hS0 hg, if_pos rfl]
      exact key n.w n.grows _ fun a2 w2 hs2 => h _ _ hs2
  | false => exact listIn_of_wp hS0 hg hdf fun K hK => key w (Grows.refl w) K fun a2 w2 hs2 => hK _ _ (h _ _ hs2)
end
end Go.Proofs.YtcblefmjacofgaaGreatDoor
namespace Go.Proofs.YtcblefmjacofgaaGreatDoor
open Go.RowKit
def cellOk (P : Program) (t : Nat) : Bool := (match P.underlying t with | some (.struct _) | some (.array _ _) => false | some _ => true | none => false) && (match P.info? t with | some i => i.size == 1 | none => false)
def aggOk (P : Program) (t n : Nat) : Bool := (match P.underlying t with | some (.struct _) | some (.array _ _) => true | _ => false) && (match P.info? t with | some i => i.size == n | none => false)
def fieldOk (P : Program) (s f off ft : Nat) : Bool := match P.underlying s with
  | some (.struct fs) => (match fs[f]? with | some fd => fd.offset == off && fd.type == ft && (match P.info? ft with | some i => i.size != 0 | none => false) | none => false)
  | _ => false
def sliceOk (P : Program) (t e sz : Nat) : Bool := match P.underlying t with
  | some (.slice e') => e' == e && (match P.info? e with | some i => i.size == sz && decide (i.bytes ≤ 128) && (match i.zero with | some z => z.cells.size == sz | none => false) | none => false) && decide (0 < sz)
  | _ => false
def arrayOk (P : Program) (t n e sz : Nat) : Bool := match P.underlying t with
  | some (.array n' e') => n' == n && e' == e && (match P.info? e with | some i => i.size == sz | none => false) && decide (0 < sz)
  | _ => false
def intOk (P : Program) (t : Nat) (k : IntKind) : Bool := match P.underlying t with | some (.int k') => k' == k | _ => false
def strOk (P : Program) (t : Nat) : Bool := match P.underlying t with | some .string => true | _ => false
class TCell (P : Program) (t : Nat) : Prop where
  ok : cellOk P t = true
class TAgg (P : Program) (t : Nat) (n : outParam Nat) : Prop where
  ok : aggOk P t n = true
class TField (P : Program) (s f : Nat) (off ft : outParam Nat) : Prop where
  ok : fieldOk P s f off ft = true
class TSlice (P : Program) (t : Nat) (e sz : outParam Nat) : Prop where
  ok : sliceOk P t e sz = true
class TArray (P : Program) (t : Nat) (n e sz : outParam Nat) : Prop where
  ok : arrayOk P t n e sz = true
class TInt (P : Program) (t : Nat) (k : outParam IntKind) : Prop where
  ok : intOk P t k = true
class TStr (P : Program) (t : Nat) : Prop where
  ok : strOk P t = true
section
variable {P : Program}
theorem cell_parts {t : Nat} (h : TCell P t) : ∃ d i, P.underlying t = some d ∧ (∀ fs, d ≠ .struct fs) ∧ (∀ n e, d ≠ .array n e) ∧ P.info? t = some i ∧ i.size = 1 := by
  have := h.ok
  unfold cellOk at this
  simp only [Bool.and_eq_true] at this
  obtain ⟨h1, h2⟩ := this
  cases hi : P.info? t with
  | none => rw [hi] at h2; cases h2
  | some i =>
    cases hu : P.underlying t with
    | none => rw [hu] at h1; cases h1
    | some d =>
      rw [hi] at h2
      rw [hu] at h1
      refine ⟨d, i, rfl, ?_, ?_, rfl, by simpa using h2⟩
      · rintro fs rfl; simp at h1
      · rintro n e rfl; simp at h1
theorem agg_parts {t n : Nat} (h : TAgg P t n) : ∃ d i, P.underlying t = some d ∧ ((∃ fs, d = .struct fs) ∨ (∃ n e, d = .array n e)) ∧ P.info? t = some i ∧ i.size = n := by
  have := h.ok
  unfold aggOk at this
  simp only [Bool.and_eq_true] at this
  obtain ⟨h1, h2⟩ := this
  cases hi : P.info? t with
  | none => rw [hi] at h2; cases h2
  | some i =>
    cases hu : P.underlying t with
    | none => rw [hu] at h1; cases h1
    | some d =>
      rw [hi] at h2
      rw [hu] at h1
      refine ⟨d, i, rfl, ?_, rfl, by simpa using h2⟩
      cases d <;> simp at h1
      · exact .inr ⟨_, _, rfl⟩
      · exact .inl ⟨_, rfl⟩
theorem field_parts {s f off ft : Nat} (h : TField P s f off ft) : ∃ fs fd i, P.underlying s = some (.struct fs) ∧ fs[f]? = some fd ∧ fd.offset = off ∧ fd.type = ft ∧ P.info? ft = some i ∧ i.size ≠ 0 := by
  have := h.ok
  unfold fieldOk at this
  split at this
  · rename_i fs hu
    split at this
    · rename_i fd hf
      simp only [Bool.and_eq_true, beq_iff_eq] at this
      obtain ⟨⟨h1, h2⟩, h3⟩ := this
      cases hi : P.info? ft with
      | none => rw [hi] at h3; cases h3
      | some i => exact ⟨fs, fd, i, hu, hf, h1, h2, rfl, by rw [hi] at h3; simpa using h3⟩
    · cases this
  · cases this
theorem slice_elem {t e sz : Nat} (h : TSlice P t e sz) : ∃ bytes, Elem P t e sz bytes ∧ bytes ≤ 128 := by
  have := h.ok
  unfold sliceOk at this
  split at this
  · rename_i e' hu
    simp only [Bool.and_eq_true, beq_iff_eq, decide_eq_true_eq] at this
    obtain ⟨⟨rfl, h2⟩, h3⟩ := this
    cases hi : P.info? e' with
    | none => rw [hi] at h2; cases h2
    | some i =>
      rw [hi] at h2
      simp only [Bool.and_eq_true, beq_iff_eq, decide_eq_true_eq] at h2
      obtain ⟨⟨h4, h5⟩, h6⟩ := h2
      cases hz : i.zero with
      | none => rw [hz] at h6; cases h6
      | some z => exact ⟨i.bytes, ⟨i, z, hu, hi, hz, h4, rfl, by rw [hz] at h6; simpa using h6, h3⟩, h5⟩
  · cases this
theorem slice_parts {t e sz : Nat} (h : TSlice P t e sz) : ∃ i, P.underlying t = some (.slice e) ∧ P.info? e = some i ∧ i.size = sz ∧ 0 < sz := by
  obtain ⟨b, ⟨i, z, h1, h2, _, h4, _, _, h7⟩, _⟩ := slice_elem h
  exact ⟨i, h1, h2, h4, h7⟩
theorem array_parts {t n e sz : Nat} (h : TArray P t n e sz) : ∃ i, P.underlying t = some (.array n e) ∧ P.info? e = some i ∧ i.size = sz ∧ 0 < sz := by
  have := h.ok
  unfold arrayOk at this
  split at this
  · rename_i n' e' hu
    simp only [Bool.and_eq_true, beq_iff_eq, decide_eq_true_eq] at this
    obtain ⟨⟨⟨rfl, rfl⟩, h2⟩, h3⟩ := this
    cases hi : P.info? e' with
    | none => rw [hi] at h2; cases h2
    | some i => exact ⟨i, hu, rfl, by rw [hi] at h2; simpa using h2, h3⟩
  · cases this
theorem int_parts {t : Nat} {k : IntKind} (h : TInt P t k) : P.underlying t = some (.int k) := by
  have := h.ok
  unfold intOk at this
  split at this
  · rename_i k' hu
    rw [hu]
    simp at this
    rw [this]
  · cases this
theorem str_parts {t : Nat} (h : TStr P t) : P.underlying t = some .string := by
  have := h.ok
  unfold strOk at this
  split at this
  · assumption
  · cases this
theorem add_flat (b o j : Nat) : (⟨b, o, none⟩ : Addr).add j = ⟨b, o + j, none⟩ := by unfold Addr.add; split <;> simp_all
theorem isAgg_no {t : Nat} {d : TypeDesc} (hu : P.underlying t = some d) (h1 : ∀ fs, d ≠ .struct fs) (h2 : ∀ n e, d ≠ .array n e) (w : World) : (isAgg t).run P w = .ok false w := by
  unfold isAgg
  simp only [Sem.run_bind, run_underlying hu, Result.andThen_ok]
  cases d <;> first | rfl | exact absurd rfl (h1 _) | exact absurd rfl (h2 _ _)
theorem isAgg_yes {t : Nat} {d : TypeDesc} (hu : P.underlying t = some d) (h : (∃ fs, d = .struct fs) ∨ (∃ n e, d = .array n e)) (w : World) : (isAgg t).run P w = .ok true w := by
  unfold isAgg
  simp only [Sem.run_bind, run_underlying hu, Result.andThen_ok]
  rcases h with ⟨fs, rfl⟩ | ⟨n, e, rfl⟩ <;> rfl
theorem run_size {t : Nat} {i : TypeInfo} (hi : P.info? t = some i) (w : World) : (sizeOf t).run P w = .ok i.size w := by simp [sizeOf, typeInfo, hi]
theorem loadAt_cell {t : Nat} (h : TCell P t) {w : World} {b o : Nat} {v : Value} (hc : w.cell? ⟨b, o, none⟩ = some v) : (Instr.loadAt t (.pointer (some ⟨b, o, none⟩))).run P w = .ok v w := by
  obtain ⟨d, i, hu, h1, h2, _, _⟩ := cell_parts h
  simp [Instr.loadAt, Instr.sureAddr, loadVar, isAgg_no hu h1 h2, load, Sem.run, hc]
theorem loadAt_agg {t n : Nat} (h : TAgg P t n) {w : World} {b o : Nat} {vs : List Value} (hn : vs.length = n) (hc : ∀ j v, vs[j]? = some v → w.cell? ⟨b, o + j, none⟩ = some v) :
    (Instr.loadAt t (.pointer (some ⟨b, o, none⟩))).run P w = .ok (.agg vs.toArray) w := by
  obtain ⟨d, i, hu, h1, hi, hs⟩ := agg_parts h
  have := run_loadCells_list (P := P) w ⟨b, o, none⟩ vs (fun j v hj => by rw [add_flat]; exact hc j v hj)
  simp [Instr.loadAt, Instr.sureAddr, loadVar, isAgg_yes hu h1, run_size hi, hs, ← hn, this]
end
inductive ToD (H : List (Nat × Ob)) : V → D → Prop
  | d (x : D) : ToD H (.d x) x
  | own {n k e sz : Nat} {xs : List D} (h : look n H = some (.row e sz true xs k)) : ToD H (.own n k) (.list sz xs)
  | nils (sz : Nat) : ToD H (.nils sz) (.list sz [])
inductive ToDs (H : List (Nat × Ob)) : List V → List D → Prop
  | nil : ToDs H [] []
  | cons {v : V} {x : D} {vs : List V} {xs : List D} (h : ToD H v x) (t : ToDs H vs xs) : ToDs H (v :: vs) (x :: xs)
inductive Cut {α : Type} : List α → Nat → Nat → List α → Prop
  | done (l : List α) : Cut l 0 0 []
  | take {x : α} {l : List α} {m : Nat} {r : List α} (h : Cut l 0 m r) : Cut (x :: l) 0 (m + 1) (x :: r)
  | skip {x : α} {l : List α} {o m : Nat} {r : List α} (h : Cut l o m r) : Cut (x :: l) (o + 1) m r
inductive SetAt {α : Type} : List α → Nat → α → List α → Prop
  | here {x y : α} {l : List α} : SetAt (x :: l) 0 y (y :: l)
  | there {x y : α} {l r : List α} {i : Nat} (h : SetAt l i y r) : SetAt (x :: l) (i + 1) y (x :: r)
theorem Cut.eq {α : Type} {l r : List α} {o m : Nat} (h : Cut l o m r) : r = (l.drop o).take m ∧ r.length = m := by
  induction h with
  | done l => simp
  | take h ih => obtain ⟨h1, h2⟩ := ih; simp only [List.drop_zero] at h1; simp [← h1, h2]
  | skip h ih => simpa using ih
theorem SetAt.eq {α : Type} {l r : List α} {i : Nat} {y : α} (h : SetAt l i y r) : r = l.set i y ∧ i < l.length := by
  induction h with
  | here => simp
  | there h ih => simp [ih.1.symm, ih.2]
theorem ToD.rep {C : Ctx} {β : Nat → Value} {S : Sd} {a : Act} {w : World} (h : StB C β S a w) {v : V} {x : D} (hd : ToD S.H v x) {u : Value} (hu : RepV w (Mut C.M0 β S.H) β S.H v u) : RepD w (Mut C.M0 β S.H) x u := by
  cases hd with
  | d => exact hu
  | @own n k e sz xs hl =>
    have he : u = β n := hu e sz true xs hl
    subst he
    obtain ⟨ys, h1, h2⟩ := h.obs n _ hl
    obtain ⟨a', c, hv, h3, h4, h5⟩ := owns_shape h1
    refine ⟨a', c, ys, hv, h3, h4, h5, h2, fun j y hj => ?_⟩
    rw [hv] at h1
    obtain ⟨b, o, e', _, hc⟩ := (Sl.of_owns h1).rd j y hj
    refine ⟨b, o, e', ?_, hc⟩
    have hlt : j < xs.length * sz := by rw [← h1.1]; exact (List.getElem?_eq_some_iff.1 hj).1
    have ho : o = 0 := by
      rcases h1.2 with ⟨hv', _⟩ | ⟨g, cap, cur, hv', _⟩ <;> (simp only [Value.slice.injEq] at hv'; rw [hv'.1] at e'; cases e')
      rfl
    subst ho
    rintro (hm | ⟨m, ob, h6, h7, h8⟩)
    · exact h.out n _ b _ hl (by rw [hv, e']; rfl) hm
    · by_cases hnm : m = n
      · subst hnm
        rw [hl] at h6
        cases h6
        rcases h8 with h8 | h8
        · cases h8
        · omega
      · exact h.apart m n b ob _ hnm h6 hl h7 (by rw [hv, e']; rfl)
  | nils sz =>
    have he : u = .slice none 0 0 := hu
    subst he
    exact ⟨none, 0, [], rfl, Nat.le_refl _, Nat.zero_le _, fun _ => rfl, rfl, Reads.nil _ _ _⟩
end Go.Proofs.YtcblefmjacofgaaGreatDoor
namespace Go.Proofs.YtcblefmjacofgaaGreatDoor
open Go.RowKit
def D.scalar : D → Bool
  | .agg _ => false
  | _ => true
theorem RepD.oneOf {w : World} {M : Nat → Nat → Prop} {x : D} {v : Value} (h : RepD w M x v) (hs : x.scalar = true) : v.oneCell' = true := by
  cases x with
  | agg cs => cases hs
  | int k n => simp only [RepD] at h; subst h; rfl
  | bool b => simp only [RepD] at h; subst h; rfl
  | str s => simp only [RepD] at h; subst h; rfl
  | raw u => exact h.1 ▸ h.2
  | nil k => simp only [RepD] at h; subst h; rfl
  | list sz xs => simp only [RepD] at h; obtain ⟨_, _, _, rfl, _⟩ := h; rfl
  | ref cs off => simp only [RepD] at h; obtain ⟨_, _, _, rfl, _⟩ := h; rfl
  | clo fn f c => simp only [RepD] at h; obtain ⟨_, _, rfl, _⟩ := h; rfl
  | map ks vs => simp only [RepD] at h; obtain ⟨_, _, _, rfl, _⟩ := h; rfl
section
variable {E : Set} {S : Sd} {dst : Option Tmp} {ty : TypeId} {pos : String} {af : Array Edge} {gd : Option (Nat × Bool)}
theorem q_move {x : Operand} {v : V} (hx : S.ev x = some v) (ho : okOp x = true) : Swift E S ⟨dst, .move x, ty, pos, af, gd⟩ v := Swift.mk fun β a w h =>
  ⟨a.eval x, fun w' _ => rfl, h.ev hx ho⟩
theorem q_assign {x : Operand} {v : V} (hx : S.ev x = some v) (ho : okOp x = true) : Swift E S ⟨dst, .assign x, ty, pos, af, gd⟩ v := Swift.mk fun β a w h =>
  ⟨a.eval x, fun w' _ => rfl, h.ev hx ho⟩
theorem q_nil {e sz : Nat} [TSlice E.P ty e sz] : Swift E S ⟨dst, .assign (.const (.slice none 0 0)), ty, pos, af, gd⟩ (.nils sz) := Swift.mk fun β a w h =>
  ⟨.slice none 0 0, fun w' _ => rfl, rfl⟩
theorem q_pick_t {c x y : Operand} {v : V} (hc : S.ev c = some (.d (.bool true))) (hk : okOp c = true) (hx : S.ev x = some v) (ho : okOp x = true) : Swift E S ⟨dst, .pick c x y, ty, pos, af, gd⟩ v := Swift.mk fun β a w h => by
  have h1 : a.eval c = .bool true := h.ev hc hk
  exact ⟨a.eval x, fun w' _ => by simp [execOp, h1, asBool], h.ev hx ho⟩
theorem q_pick_f {c x y : Operand} {v : V} (hc : S.ev c = some (.d (.bool false))) (hk : okOp c = true) (hx : S.ev y = some v) (ho : okOp y = true) : Swift E S ⟨dst, .pick c x y, ty, pos, af, gd⟩ v := Swift.mk fun β a w h => by
  have h1 : a.eval c = .bool false := h.ev hc hk
  exact ⟨a.eval y, fun w' _ => by simp [execOp, h1, asBool], h.ev hx ho⟩
theorem StB.boxAt {C : Ctx} {β : Nat → Value} {a : Act} {w : World} (h : StB C β S a w) {n off : Nat} {cs : List V} {x : Operand} (hx : S.ev x = some (.ptr n off)) (hl : look n S.H = some (.box cs)) :
    ∃ (b : Nat) (vs : List Value) (t : TypeId), β n = .pointer (some ⟨b, 0, none⟩) ∧ a.eval x = .pointer (some ⟨b, off, none⟩) ∧ w.heap[b]? = some (.cells vs.toArray t (0, 0)) ∧ RepL w (Mut C.M0 β S.H) β S.H cs vs := by
  have hok : okOp x = true := by
    cases x <;> first | rfl | skip
    simp only [Sd.ev, Option.some.injEq] at hx
    rename_i v
    unfold constV at hx
    split at hx <;> simp_all
  obtain ⟨b, h1, h2⟩ := h.ev hx hok
  obtain ⟨b', vs, t, h3, h4, h5⟩ := h.obs n _ hl
  rw [h1] at h3
  cases h3
  exact ⟨b, vs, t, h1, h2, h4, h5⟩
theorem box_cell {w : World} {b : Nat} {vs : List Value} {t : TypeId} (h : w.heap[b]? = some (.cells vs.toArray t (0, 0))) {o : Nat} {v : Value} (hv : vs[o]? = some v) : w.cell? ⟨b, o, none⟩ = some v := by
  simp [World.cell?, h, hv]
theorem grows_heap {w w' : World} (g : Grows w w') {b : Nat} {o : Obj} (h : w.heap[b]? = some o) : w'.heap[b]? = some o := (g.block b (Array.getElem?_eq_some_iff.1 h).1).trans h
theorem q_load_box {t : Nat} {x : Operand} {n off : Nat} {cs : List V} {v : V} [ht : TCell E.P t] (hx : S.ev x = some (.ptr n off)) (hl : look n S.H = some (.box cs)) (hc : cs[off]? = some v) : Quiet E S ⟨dst, .load t x, ty, pos, af, gd⟩ v := Quiet.mk fun β a w h => by
  obtain ⟨b, vs, t', h1, h2, h3, h4⟩ := h.boxAt hx hl
  obtain ⟨u, h5, h6⟩ := h4.get hc
  refine ⟨u, fun w' g => ?_, h6⟩
  have := loadAt_cell ht (box_cell (grows_heap g h3) h5)
  simp [execOp, h2, this]
theorem q_load_boxs {t n off m : Nat} {x : Operand} {cs vs' : List V} {ds : List D} [ht : TAgg E.P t m] (hx : S.ev x = some (.ptr n off)) (hl : look n S.H = some (.box cs)) (hc : Cut cs off m vs') (hd : ToDs S.H vs' ds)
    (hn : ds.all D.scalar = true) : Quiet E S ⟨dst, .load t x, ty, pos, af, gd⟩ (.d (.agg ds)) := Quiet.mk fun β a w h => by
  obtain ⟨b, vs, t', h1, h2, h3, h4⟩ := h.boxAt hx hl
  obtain ⟨h5, h6⟩ := hc.eq
  have hlen := h4.length
  have hrep : ∀ (k : Nat) (vs' : List V) (ds : List D), ToDs S.H vs' ds → (ds.all D.scalar = true) → (∀ i v, vs'[i]? = some v → cs[k + i]? = some v) → RepA w (Mut E.C.M0 β S.H) ds ((vs.drop k).take vs'.length) := by
    intro k vs' ds hd
    induction hd generalizing k with
    | nil => intro _ _; simp [RepA]
    | @cons v x vs1 xs1 h7 h8 ih =>
      intro hn hcs
      simp only [List.all_cons, Bool.and_eq_true] at hn
      obtain ⟨u, h9, h10⟩ := h4.get (hcs 0 v rfl)
      have h11 := h7.rep h h10
      have h12 := ih (k + 1) hn.2 (fun i v hv => by rw [show k + 1 + i = k + (i + 1) by omega]; exact hcs (i + 1) v (by simpa using hv))
      have hk : k < vs.length := (List.getElem?_eq_some_iff.1 (by simpa using h9)).1
      refine ⟨u, (vs.drop (k + 1)).take vs1.length, ?_, ?_, h11, h12⟩
      · rw [List.drop_eq_getElem_cons hk, List.length_cons, List.take_succ_cons]
        simp only [Nat.add_zero, List.getElem?_eq_getElem hk, Option.some.injEq] at h9
        rw [h9]
      · exact h11.oneOf hn.1
  have h7 := hrep off vs' ds hd hn (fun i v hv => by
    rw [h5, List.getElem?_take, List.getElem?_drop] at hv
    split at hv
    · exact hv
    · cases hv)
  have hle : off + m ≤ vs.length ∨ m = 0 := by
    rw [h5] at h6
    simp at h6
    omega
  refine ⟨.agg ((vs.drop off).take vs'.length).toArray, fun w' g => ?_, ⟨_, rfl, h7⟩⟩
  have := loadAt_agg (vs := (vs.drop off).take vs'.length) (w := w') (b := b) (o := off) ht (by simp; omega) (fun j v hv => box_cell (grows_heap g h3) (by
    rw [List.getElem?_take, List.getElem?_drop] at hv
    split at hv
    · exact hv
    · cases hv))
  simp [execOp, h2, this]
theorem StB.refAt {C : Ctx} {β : Nat → Value} {a : Act} {w : World} (h : StB C β S a w) {off : Nat} {cs : List D} {x : Operand} (hx : S.ev x = some (.d (.ref cs off))) :
    ∃ (b o : Nat) (vs : List Value), a.eval x = .pointer (some ⟨b, o + off, none⟩) ∧ RepA w (Mut C.M0 β S.H) cs vs ∧ Reads w (Mut C.M0 β S.H) (some ⟨b, o, none⟩) vs := by
  have hok : okOp x = true := by
    cases x <;> first | rfl | skip
    simp only [Sd.ev, Option.some.injEq] at hx
    rename_i v
    unfold constV at hx
    split at hx <;> simp_all
  exact h.ev hx hok
theorem reads_later {w w' : World} {M : Nat → Nat → Prop} {b o : Nat} {vs : List Value} (h : Reads w M (some ⟨b, o, none⟩) vs) (g : Grows w w') {j : Nat} {v : Value} (hj : vs[j]? = some v) : w'.cell? ⟨b, o + j, none⟩ = some v := by
  obtain ⟨b', o', e, _, hc⟩ := h j v hj
  cases e
  exact (g.cell (p := ⟨b, o + j, none⟩) (World.block_lt_of_cell? w ⟨b, o + j, none⟩ hc)).trans hc
theorem q_load_ref {t : Nat} {x : Operand} {off : Nat} {cs : List D} {v : D} [ht : TCell E.P t] (hx : S.ev x = some (.d (.ref cs off))) (hc : cs[off]? = some v) : Quiet E S ⟨dst, .load t x, ty, pos, af, gd⟩ (.d v) := Quiet.mk fun β a w h => by
  obtain ⟨b, o, vs, h1, h2, h3⟩ := h.refAt hx
  obtain ⟨u, h4, _, h5⟩ := h2.get hc
  refine ⟨u, fun w' g => ?_, h5⟩
  have := loadAt_cell ht (reads_later h3 g h4)
  simp [execOp, h1, this]
theorem q_load_refs {t off m : Nat} {x : Operand} {cs ds : List D} [ht : TAgg E.P t m] (hx : S.ev x = some (.d (.ref cs off))) (hc : Cut cs off m ds) : Quiet E S ⟨dst, .load t x, ty, pos, af, gd⟩ (.d (.agg ds)) := Quiet.mk fun β a w h => by
  obtain ⟨b, o, vs, h1, h2, h3⟩ := h.refAt hx
  obtain ⟨h5, h6⟩ := hc.eq
  have h7 : RepA w (Mut E.C.M0 β S.H) ds ((vs.drop off).take m) := by rw [h5]; exact (h2.drop off).take m
  refine ⟨.agg ((vs.drop off).take m).toArray, fun w' g => ?_, ⟨_, rfl, h7⟩⟩
  have := loadAt_agg (vs := (vs.drop off).take m) (w := w') (b := b) (o := o + off) ht (by rw [h7.length]; exact h6) (fun j v hv => by
    rw [List.getElem?_take, List.getElem?_drop] at hv
    split at hv
    · rw [Nat.add_assoc]; exact reads_later h3 g hv
    · cases hv)
  simp [execOp, h1, this]
theorem run_fieldAt {P : Program} {s f off ft : Nat} (h : TField P s f off ft) (w : World) (b o : Nat) : (Instr.fieldAt s (.pointer (some ⟨b, o, none⟩)) f).run P w = .ok (.pointer (some ⟨b, o + off, none⟩)) w := by
  obtain ⟨fs, fd, i, hu, hf, h1, h2, hi, h3⟩ := field_parts h
  simp [Instr.fieldAt, Instr.sureAddr, run_underlying hu, hf, fieldPlace, h2, run_size hi, h3, add_flat, h1]
theorem q_field_box {s f off' ft n off : Nat} {x : Operand} [ht : TField E.P s f off' ft] (hx : S.ev x = some (.ptr n off)) : Swift E S ⟨dst, .fieldAddr s x f, ty, pos, af, gd⟩ (.ptr n (off + off')) := Swift.mk fun β a w h => by
  have hok : okOp x = true := by
    cases x <;> first | rfl | skip
    simp only [Sd.ev, Option.some.injEq] at hx
    rename_i v
    unfold constV at hx
    split at hx <;> simp_all
  obtain ⟨b, h1, h2⟩ := h.ev hx hok
  exact ⟨.pointer (some ⟨b, off + off', none⟩), fun w' _ => by simp [execOp, h2, run_fieldAt ht], b, h1, rfl⟩
theorem q_field_ref {s f off' ft off : Nat} {cs : List D} {x : Operand} [ht : TField E.P s f off' ft] (hx : S.ev x = some (.d (.ref cs off))) : Swift E S ⟨dst, .fieldAddr s x f, ty, pos, af, gd⟩ (.d (.ref cs (off + off'))) := Swift.mk fun β a w h => by
  obtain ⟨b, o, vs, h1, h2, h3⟩ := h.refAt hx
  exact ⟨.pointer (some ⟨b, o + (off + off'), none⟩), fun w' _ => by simp [execOp, h1, run_fieldAt ht, Nat.add_assoc], b, o, vs, rfl, h2, h3⟩
theorem q_nil_box {n off : Nat} {x : Operand} (hx : S.ev x = some (.ptr n off)) : Swift E S ⟨dst, .nilCheck x, ty, pos, af, gd⟩ (.ptr n off) := Swift.mk fun β a w h => by
  have hok : okOp x = true := by
    cases x <;> first | rfl | skip
    simp only [Sd.ev, Option.some.injEq] at hx
    rename_i v
    unfold constV at hx
    split at hx <;> simp_all
  obtain ⟨b, h1, h2⟩ := h.ev hx hok
  exact ⟨a.eval x, fun w' _ => by simp [execOp, h2], b, h1, h2⟩
theorem q_nil_ref {off : Nat} {cs : List D} {x : Operand} (hx : S.ev x = some (.d (.ref cs off))) : Swift E S ⟨dst, .nilCheck x, ty, pos, af, gd⟩ (.d (.ref cs off)) := Swift.mk fun β a w h => by
  obtain ⟨b, o, vs, h1, h2, h3⟩ := h.refAt hx
  exact ⟨a.eval x, fun w' _ => by simp [execOp, h1], b, o, vs, h1, h2, h3⟩
def inK : IntKind → Int → Prop
  | .i8, n => -128 ≤ n ∧ n ≤ 127
  | .i16, n => -32768 ≤ n ∧ n ≤ 32767
  | .i32, n => -2147483648 ≤ n ∧ n ≤ 2147483647
  | .i64, n => -9223372036854775808 ≤ n ∧ n ≤ 9223372036854775807
  | .u8, n => 0 ≤ n ∧ n ≤ 255
  | .u16, n => 0 ≤ n ∧ n ≤ 65535
  | .u32, n => 0 ≤ n ∧ n ≤ 4294967295
  | .u64, n => 0 ≤ n ∧ n ≤ 18446744073709551615
theorem wrap_in {k : IntKind} {n : Int} (h : inK k n) : k.wrap n = n := by
  cases k
  · exact IntWalk.i8_in n h
  · exact IntWalk.i16_in n h
  · exact IntWalk.i32_in n h
  · exact IntWalk.i64_in n h
  · exact IntWalk.u8_in n h
  · exact IntWalk.u16_in n h
  · exact IntWalk.u32_in n h
  · exact IntWalk.u64_in n h
variable {xt yt : TypeId} {x y : Operand} {k : IntKind} {p q r : Int}
theorem bin_int {op : BinOp} {v : Value} {D : V} (hx : S.ev x = some (.d (.int k p))) (hy : S.ev y = some (.d (.int k q))) (hox : okOp x = true) (hoy : okOp y = true) (hne : op ≠ .shl ∧ op ≠ .shr)
    (hr : ∀ w, (binOp op xt (.int k p) (.int k q)).run E.P w = .ok v w) (hv : ∀ w M β H, RepV w M β H D v) : Swift E S ⟨dst, .binOp op xt x y yt, ty, pos, af, gd⟩ D := Swift.mk fun β a w h => by
  have h1 : a.eval x = .int k p := h.ev hx hox
  have h2 : a.eval y = .int k q := h.ev hy hoy
  refine ⟨v, fun w' _ => ?_, hv _ _ _ _⟩
  have hg : (eqGuard op xt x y (.int k p) (.int k q)).run E.P w' = .ok () w' := by
    unfold eqGuard
    cases op <;> rfl
  simp [execOp, h1, h2, hg, hr]
theorem run_arith {P : Program} {op : BinOp} (hop : op = .add ∨ op = .sub ∨ op = .mul) (w : World) : (binOp op xt (.int k p) (.int k q)).run P w = (Op.intArith op k p q).run P w := by
  rcases hop with rfl | rfl | rfl <;> simp [binOp]
theorem q_add (hx : S.ev x = some (.d (.int k p))) (hy : S.ev y = some (.d (.int k q))) (hox : okOp x = true) (hoy : okOp y = true) (hin : inK k (p + q)) : Swift E S ⟨dst, .binOp .add xt x y yt, ty, pos, af, gd⟩ (.d (.int k (p + q))) :=
  bin_int hx hy hox hoy (by simp) (v := .int k (p + q)) (fun w => by rw [run_arith (by simp)]; simp [Op.intArith, wrap_in hin]) (fun _ _ _ _ => rfl)
theorem q_add_w (hx : S.ev x = some (.d (.int k p))) (hy : S.ev y = some (.d (.int k q))) (hox : okOp x = true) (hoy : okOp y = true) : Swift E S ⟨dst, .binOp .add xt x y yt, ty, pos, af, gd⟩ (.d (.int k (k.wrap (p + q)))) :=
  bin_int hx hy hox hoy (by simp) (v := .int k (k.wrap (p + q))) (fun w => by rw [run_arith (by simp)]; simp [Op.intArith]) (fun _ _ _ _ => rfl)
theorem q_sub (hx : S.ev x = some (.d (.int k p))) (hy : S.ev y = some (.d (.int k q))) (hox : okOp x = true) (hoy : okOp y = true) (hin : inK k (p - q)) : Swift E S ⟨dst, .binOp .sub xt x y yt, ty, pos, af, gd⟩ (.d (.int k (p - q))) :=
  bin_int hx hy hox hoy (by simp) (v := .int k (p - q)) (fun w => by rw [run_arith (by simp)]; simp [Op.intArith, wrap_in hin]) (fun _ _ _ _ => rfl)
theorem q_sub_w (hx : S.ev x = some (.d (.int k p))) (hy : S.ev y = some (.d (.int k q))) (hox : okOp x = true) (hoy : okOp y = true) : Swift E S ⟨dst, .binOp .sub xt x y yt, ty, pos, af, gd⟩ (.d (.int k (k.wrap (p - q)))) :=
  bin_int hx hy hox hoy (by simp) (v := .int k (k.wrap (p - q))) (fun w => by rw [run_arith (by simp)]; simp [Op.intArith]) (fun _ _ _ _ => rfl)
theorem q_mul (hx : S.ev x = some (.d (.int k p))) (hy : S.ev y = some (.d (.int k q))) (hox : okOp x = true) (hoy : okOp y = true) (hin : inK k (p * q)) : Swift E S ⟨dst, .binOp .mul xt x y yt, ty, pos, af, gd⟩ (.d (.int k (p * q))) :=
  bin_int hx hy hox hoy (by simp) (v := .int k (p * q)) (fun w => by rw [run_arith (by simp)]; simp [Op.intArith, wrap_in hin]) (fun _ _ _ _ => rfl)
theorem q_mul_w (hx : S.ev x = some (.d (.int k p))) (hy : S.ev y = some (.d (.int k q))) (hox : okOp x = true) (hoy : okOp y = true) : Swift E S ⟨dst, .binOp .mul xt x y yt, ty, pos, af, gd⟩ (.d (.int k (k.wrap (p * q)))) :=
  bin_int hx hy hox hoy (by simp) (v := .int k (k.wrap (p * q))) (fun w => by rw [run_arith (by simp)]; simp [Op.intArith]) (fun _ _ _ _ => rfl)
theorem q_quo (hx : S.ev x = some (.d (.int k p))) (hy : S.ev y = some (.d (.int k q))) (hox : okOp x = true) (hoy : okOp y = true) (h0 : 0 ≤ p) (h1 : 1 ≤ q) (hin : inK k (p / q)) : Swift E S ⟨dst, .binOp .quo xt x y yt, ty, pos, af, gd⟩ (.d (.int k (p / q))) :=
  bin_int hx hy hox hoy (by simp) (v := .int k (p / q)) (fun w => by
    have h2 : ¬ q = 0 := by omega
    have h3 : p.tdiv q = p / q := Int.tdiv_eq_ediv_of_nonneg h0
    simp [binOp, Op.intDiv, h2, h3, wrap_in hin]) (fun _ _ _ _ => rfl)
theorem q_quo_w (hx : S.ev x = some (.d (.int k p))) (hy : S.ev y = some (.d (.int k q))) (hox : okOp x = true) (hoy : okOp y = true) (h1 : ¬ q = 0) : Swift E S ⟨dst, .binOp .quo xt x y yt, ty, pos, af, gd⟩ (.d (.int k (k.wrap (p.tdiv q)))) :=
  bin_int hx hy hox hoy (by simp) (v := .int k (k.wrap (p.tdiv q))) (fun w => by simp [binOp, Op.intDiv, h1]) (fun _ _ _ _ => rfl)
theorem q_rem (hx : S.ev x = some (.d (.int k p))) (hy : S.ev y = some (.d (.int k q))) (hox : okOp x = true) (hoy : okOp y = true) (h0 : 0 ≤ p) (h1 : 1 ≤ q) : Swift E S ⟨dst, .binOp .rem xt x y yt, ty, pos, af, gd⟩ (.d (.int k (p % q))) :=
  bin_int hx hy hox hoy (by simp) (v := .int k (p % q)) (fun w => by
    have h2 : ¬ q = 0 := by omega
    have h3 : p.tmod q = p % q := Int.tmod_eq_emod_of_nonneg h0
    simp [binOp, Op.intDiv, h2, h3]) (fun _ _ _ _ => rfl)
theorem q_rem_w (hx : S.ev x = some (.d (.int k p))) (hy : S.ev y = some (.d (.int k q))) (hox : okOp x = true) (hoy : okOp y = true) (h1 : ¬ q = 0) : Swift E S ⟨dst, .binOp .rem xt x y yt, ty, pos, af, gd⟩ (.d (.int k (p.tmod q))) :=
  bin_int hx hy hox hoy (by simp) (v := .int k (p.tmod q)) (fun w => by simp [binOp, Op.intDiv, h1]) (fun _ _ _ _ => rfl)
def cmp : BinOp → Int → Int → Prop
  | .lss, p, q => p < q
  | .leq, p, q => p ≤ q
  | .gtr, p, q => q < p
  | .geq, p, q => q ≤ p
  | .eql, p, q => p = q
  | .neq, p, q => ¬ p = q
  | _, _, _ => False
def isCmp : BinOp → Bool
  | .lss | .leq | .gtr | .geq | .eql | .neq => true
  | _ => false
theorem q_cmp {op : BinOp} (hop : isCmp op = true) (hx : S.ev x = some (.d (.int k p))) (hy : S.ev y = some (.d (.int k q))) (hox : okOp x = true) (hoy : okOp y = true) {b : Bool} (hb : (b = true) = cmp op p q) :
    Swift E S ⟨dst, .binOp op xt x y yt, ty, pos, af, gd⟩ (.d (.bool b)) :=
  bin_int hx hy hox hoy (by cases op <;> simp_all [isCmp]) (v := .bool b) (fun w => by
    have hd : ∀ (c : Prop) [Decidable c], (b = true) = c → decide c = b := fun c _ h => by cases b <;> simp_all
    cases op <;> simp [isCmp] at hop <;> simp only [cmp] at hb <;> simp [binOp, Op.intCmp]
    · exact (Bool.beq_eq_decide_eq p q).trans (hd _ hb)
    · rw [bne, Bool.beq_eq_decide_eq]
      have := hd _ hb
      rw [← this]
      by_cases h : p = q <;> simp [h]
    all_goals exact hd _ hb) (fun _ _ _ _ => rfl)
theorem q_cmp_t {op : BinOp} (hop : isCmp op = true) (hx : S.ev x = some (.d (.int k p))) (hy : S.ev y = some (.d (.int k q))) (hox : okOp x = true) (hoy : okOp y = true) (h : cmp op p q) : Swift E S ⟨dst, .binOp op xt x y yt, ty, pos, af, gd⟩ (.d (.bool true)) :=
  q_cmp hop hx hy hox hoy (propext ⟨fun _ => h, fun _ => rfl⟩)
theorem q_cmp_f {op : BinOp} (hop : isCmp op = true) (hx : S.ev x = some (.d (.int k p))) (hy : S.ev y = some (.d (.int k q))) (hox : okOp x = true) (hoy : okOp y = true) (h : ¬ cmp op p q) : Swift E S ⟨dst, .binOp op xt x y yt, ty, pos, af, gd⟩ (.d (.bool false)) :=
  q_cmp hop hx hy hox hoy (propext ⟨(fun h' => by cases h'), fun h' => absurd h' h⟩)
theorem tr_cmp {Q : Exit → Sd → Prop} {ops : Array Oper} {draw : Bool} {rest : Todo} {way : Way3} {op : BinOp} {d : Nat} (hop : isCmp op = true) (hx : S.ev x = some (.d (.int k p))) (hy : S.ev y = some (.d (.int k q))) (hox : okOp x = true) (hoy : okOp y = true) (hd : d < E.C.nt) {o : Oper}
    (ho : o = ⟨some d, .binOp op xt x y yt, ty, pos, af, gd⟩) (hg : S.gd ops o = some true) (h1 : cmp op p q → TR E draw ops Q rest (S.put d (.d (.bool true)))) (h2 : ¬ cmp op p q → TR E draw ops Q rest (S.put d (.d (.bool false)))) : TR E draw ops Q (.step o way rest) S := by
  subst ho
  by_cases h : cmp op p q
  · exact tr_still (q_cmp_t hop hx hy hox hoy h) rfl hd hg rfl (h1 h)
  · exact tr_still (q_cmp_f hop hx hy hox hoy h) rfl hd hg rfl (h2 h)
end
end Go.Proofs.YtcblefmjacofgaaGreatDoor
namespace Go.Proofs.YtcblefmjacofgaaGreatDoor
open Go.RowKit
inductive Evs (S : Sd) : List Operand → List V → Prop
  | nil : Evs S [] []
  | cons {x : Operand} {v : V} {xs : List Operand} {vs : List V} (h : S.ev x = some v) (ho : okOp x = true) (t : Evs S xs vs) : Evs S (x :: xs) (v :: vs)
inductive CellsD : D → List D → Prop
  | agg (cs : List D) : CellsD (.agg cs) cs
  | int (k : IntKind) (n : Int) : CellsD (.int k n) [.int k n]
  | bool (b : Bool) : CellsD (.bool b) [.bool b]
  | str (s : ByteArray) : CellsD (.str s) [.str s]
  | list (sz : Nat) (xs : List D) : CellsD (.list sz xs) [.list sz xs]
  | ref (cs : List D) (o : Nat) : CellsD (.ref cs o) [.ref cs o]
  | clo (fn : Fn) (f c : List D) : CellsD (.clo fn f c) [.clo fn f c]
  | raw (v : Value) : CellsD (.raw v) [.raw v]
  | nil (sz : Nat) : CellsD (.nil sz) [.nil sz]
  | map (ks vs : List D) : CellsD (.map ks vs) [.map ks vs]
inductive Repl {α : Type} : List α → Nat → List α → List α → Prop
  | done (l : List α) : Repl l 0 [] l
  | here {x y : α} {l ys r : List α} (h : Repl l 0 ys r) : Repl (x :: l) 0 (y :: ys) (y :: r)
  | there {x : α} {l ys r : List α} {i : Nat} (h : Repl l i ys r) : Repl (x :: l) (i + 1) ys (x :: r)
theorem Repl.eq {α : Type} {l ys r : List α} {i : Nat} (h : Repl l i ys r) : r = l.take i ++ ys ++ l.drop (i + ys.length) ∧ i + ys.length ≤ l.length := by
  induction h with
  | done l => simp
  | here h ih =>
    obtain ⟨h1, h2⟩ := ih
    simp only [List.take_zero, List.nil_append, Nat.zero_add] at h1 h2 ⊢
    refine ⟨?_, by simpa using h2⟩
    rw [h1]
    simp
  | @there x l ys r i h ih =>
    obtain ⟨h1, h2⟩ := ih
    refine ⟨?_, by simp; omega⟩
    rw [h1, show i + 1 + ys.length = (i + ys.length) + 1 by omega]
    simp
theorem Evs.rep {C : Ctx} {β : Nat → Value} {S : Sd} {a : Act} {w : World} (h : StB C β S a w) {xs : List Operand} {vs : List V} (he : Evs S xs vs) : RepL w (Mut C.M0 β S.H) β S.H vs (xs.map a.eval) := by
  induction he with
  | nil => rfl
  | cons h1 ho _ ih => exact ⟨_, _, rfl, h.ev h1 ho, ih⟩
theorem CellsD.rep {w : World} {M : Nat → Nat → Prop} {x : D} {cs : List D} (h : CellsD x cs) {v : Value} (hv : RepD w M x v) : RepA w M cs v.cells.toList := by
  cases h with
  | agg cs => obtain ⟨vs, rfl, h2⟩ := hv; simpa [Value.cells] using h2
  | raw u => exact ⟨v, [], by obtain ⟨rfl, h1⟩ := hv; cases v <;> simp_all [Value.cells, Value.oneCell'], hv.1 ▸ hv.2, hv, rfl⟩
  | list sz xs => have h0 := hv; obtain ⟨_, _, _, rfl, _⟩ := hv; exact ⟨_, [], rfl, rfl, h0, rfl⟩
  | ref sz xs => have h0 := hv; obtain ⟨_, _, _, rfl, _⟩ := hv; exact ⟨_, [], rfl, rfl, h0, rfl⟩
  | clo sz f xs => have h0 := hv; obtain ⟨_, _, rfl, _⟩ := hv; exact ⟨_, [], rfl, rfl, h0, rfl⟩
  | map ks vs => have h0 := hv; obtain ⟨_, _, _, rfl, _⟩ := hv; exact ⟨_, [], rfl, rfl, h0, rfl⟩
  | int k n => have h0 := hv; simp only [RepD] at hv; subst hv; exact ⟨_, [], rfl, rfl, h0, rfl⟩
  | bool b => have h0 := hv; simp only [RepD] at hv; subst hv; exact ⟨_, [], rfl, rfl, h0, rfl⟩
  | nil b => have h0 := hv; simp only [RepD] at hv; subst hv; exact ⟨_, [], rfl, rfl, h0, rfl⟩
  | str s => have h0 := hv; simp only [RepD] at hv; subst hv; exact ⟨_, [], rfl, rfl, h0, rfl⟩
section
variable {E : Set} {S : Sd} {dst : Option Tmp} {ty : TypeId} {pos : String} {af : Array Edge} {gd : Option (Nat × Bool)}
theorem bytes_beq (s t : ByteArray) {b : Bool} (hb : (b = true) = (s = t)) : (s.toList == t.toList) = b := by
  rw [ByteArray.toList_eq, ByteArray.toList_eq]
  have : (s.data.toList = t.data.toList) = (s = t) := by
    apply propext
    constructor
    · intro h
      cases s; cases t
      simp only [ByteArray.mk.injEq]
      exact Array.toList_inj.1 h
    · rintro rfl; rfl
  rw [← this] at hb
  cases b
  · simp only [Bool.false_eq_true, eq_iff_iff, false_iff] at hb
    simpa using hb
  · simp only [eq_self_iff_true, eq_iff_iff, true_iff] at hb
    simp [hb]
theorem q_str_eql {xt yt : TypeId} {x y : Operand} {s t : ByteArray} (hx : S.ev x = some (.d (.str s))) (hy : S.ev y = some (.d (.str t))) (hox : okOp x = true) (hoy : okOp y = true) {b : Bool} (hb : (b = true) = (s = t)) :
    Swift E S ⟨dst, .binOp .eql xt x y yt, ty, pos, af, gd⟩ (.d (.bool b)) := Swift.mk fun β a w h => by
  have h1 : a.eval x = .string s := h.ev hx hox
  have h2 : a.eval y = .string t := h.ev hy hoy
  refine ⟨.bool b, fun w' _ => ?_, rfl⟩
  simp [execOp, h1, h2, eqGuard, binOp, Op.stringOp, bytes_beq s t hb]
theorem q_str_neq {xt yt : TypeId} {x y : Operand} {s t : ByteArray} (hx : S.ev x = some (.d (.str s))) (hy : S.ev y = some (.d (.str t))) (hox : okOp x = true) (hoy : okOp y = true) {b : Bool} (hb : (b = true) = ¬ (s = t)) :
    Swift E S ⟨dst, .binOp .neq xt x y yt, ty, pos, af, gd⟩ (.d (.bool b)) := Swift.mk fun β a w h => by
  have h1 : a.eval x = .string s := h.ev hx hox
  have h2 : a.eval y = .string t := h.ev hy hoy
  refine ⟨.bool b, fun w' _ => ?_, rfl⟩
  have h3 : ((!b) = true) = (s = t) := by cases b <;> simp_all
  have h4 := bytes_beq s t h3
  simp [execOp, h1, h2, eqGuard, binOp, Op.stringOp, h4]
theorem q_str_add {xt yt : TypeId} {x y : Operand} {s t : ByteArray} (hx : S.ev x = some (.d (.str s))) (hy : S.ev y = some (.d (.str t))) (hox : okOp x = true) (hoy : okOp y = true) (hl : s.size + t.size ≤ 9223372036854775807) :
    Swift E S ⟨dst, .binOp .add xt x y yt, ty, pos, af, gd⟩ (.d (.str (s ++ t))) := Swift.mk fun β a w h => by
  have h1 : a.eval x = .string s := h.ev hx hox
  have h2 : a.eval y = .string t := h.ev hy hoy
  refine ⟨.string (s ++ t), fun w' _ => ?_, rfl⟩
  have h3 : ¬ (((s.size + t.size : Nat) : Int) > IntKind.i64.max) := by
    have : IntKind.i64.max = 9223372036854775807 := by decide
    omega
  have h4 : (s.size : Int) + (t.size : Int) ≤ 9223372036854775807 := by omega
  simp only [Int.natCast_add, gt_iff_lt] at h3
  simp [execOp, h1, h2, eqGuard, binOp, Op.stringOp, h3]
  exact h4
theorem q_bool_eql {xt yt : TypeId} {x y : Operand} {s t : Bool} [ht : TCell E.P xt] (hu : E.P.underlying xt = some .bool) (hx : S.ev x = some (.d (.bool s))) (hy : S.ev y = some (.d (.bool t))) (hox : okOp x = true) (hoy : okOp y = true) :
    Swift E S ⟨dst, .binOp .eql xt x y yt, ty, pos, af, gd⟩ (.d (.bool (s == t))) := Swift.mk fun β a w h => by
  have h1 : a.eval x = .bool s := h.ev hx hox
  have h2 : a.eval y = .bool t := h.ev hy hoy
  refine ⟨.bool (s == t), fun w' _ => ?_, rfl⟩
  have he : (Op.equal xt (.bool s) (.bool t)).run E.P w' = .ok (s == t) w' := by
    unfold Op.equal
    rw [show Op.maxDepth = 9999 + 1 from rfl, Op.equalIn]
    simp only [Sem.run_bind, run_underlying hu, Result.andThen_ok, Sem.run_pure]
  have hb : (binOp .eql xt (.bool s) (.bool t)).run E.P w' = .ok (.bool (s == t)) w' := by
    show (do pure (Value.bool (← Op.equal xt (.bool s) (.bool t))) : Sem Value).run E.P w' = _
    simp only [Sem.run_bind, he, Result.andThen_ok, Sem.run_pure]
  simp [execOp, h1, h2, eqGuard, hb]
theorem q_not {xt : TypeId} {x : Operand} {b : Bool} (hx : S.ev x = some (.d (.bool b))) (hox : okOp x = true) : Swift E S ⟨dst, .unOp .not xt x, ty, pos, af, gd⟩ (.d (.bool !b)) := Swift.mk fun β a w h => by
  have h1 : a.eval x = .bool b := h.ev hx hox
  exact ⟨.bool !b, fun w' _ => by simp [execOp, h1, Op.unary], rfl⟩
theorem q_neg {xt : TypeId} {x : Operand} {k : IntKind} {n : Int} (hx : S.ev x = some (.d (.int k n))) (hox : okOp x = true) : Swift E S ⟨dst, .unOp .neg xt x, ty, pos, af, gd⟩ (.d (.int k (k.wrap (0 - n)))) := Swift.mk fun β a w h => by
  have h1 : a.eval x = .int k n := h.ev hx hox
  exact ⟨.int k (k.wrap (0 - n)), fun w' _ => by simp [execOp, h1, Op.unary, Op.intArith], rfl⟩
def bitsI (op : BinOp) (k : IntKind) (p q : Int) : Option Int :=
  match op with
  | .and => some (k.wrap (BitVec.ofInt k.bits p &&& BitVec.ofInt k.bits q).toNat)
  | .or => some (k.wrap (BitVec.ofInt k.bits p ||| BitVec.ofInt k.bits q).toNat)
  | .xor => some (k.wrap (BitVec.ofInt k.bits p ^^^ BitVec.ofInt k.bits q).toNat)
  | .andNot => some (k.wrap (BitVec.ofInt k.bits p &&& ~~~BitVec.ofInt k.bits q).toNat)
  | _ => none
theorem q_bits {op : BinOp} {xt yt : TypeId} {x y : Operand} {k : IntKind} {p q r : Int} (hx : S.ev x = some (.d (.int k p))) (hy : S.ev y = some (.d (.int k q))) (hox : okOp x = true) (hoy : okOp y = true) (hr : bitsI op k p q = some r) :
    Swift E S ⟨dst, .binOp op xt x y yt, ty, pos, af, gd⟩ (.d (.int k r)) :=
  bin_int hx hy hox hoy (by cases op <;> simp_all [bitsI]) (v := .int k r) (fun w => by
    cases op <;> simp only [bitsI, reduceCtorEq, Option.some.injEq] at hr <;> subst hr <;> simp [binOp, Op.intBits]) (fun _ _ _ _ => rfl)
theorem q_shr {xt yt : TypeId} {x y : Operand} {k k' : IntKind} {p q : Int} (hx : S.ev x = some (.d (.int k p))) (hy : S.ev y = some (.d (.int k' q))) (hox : okOp x = true) (hoy : okOp y = true) (h0 : 0 ≤ q) :
    Swift E S ⟨dst, .binOp .shr xt x y yt, ty, pos, af, gd⟩ (.d (.int k (p.fdiv (2 ^ min q.toNat k.bits)))) := Swift.mk fun β a w h => by
  have h1 : a.eval x = .int k p := h.ev hx hox
  have h2 : a.eval y = .int k' q := h.ev hy hoy
  have h3 : ¬ q < 0 := by omega
  exact ⟨_, fun w' _ => by simp [execOp, h1, h2, eqGuard, binOp, Op.shift, h3], rfl⟩
theorem q_shl {xt yt : TypeId} {x y : Operand} {k k' : IntKind} {p q : Int} (hx : S.ev x = some (.d (.int k p))) (hy : S.ev y = some (.d (.int k' q))) (hox : okOp x = true) (hoy : okOp y = true) (h0 : 0 ≤ q) :
    Swift E S ⟨dst, .binOp .shl xt x y yt, ty, pos, af, gd⟩ (.d (.int k (k.wrap (p * 2 ^ min q.toNat k.bits)))) := Swift.mk fun β a w h => by
  have h1 : a.eval x = .int k p := h.ev hx hox
  have h2 : a.eval y = .int k' q := h.ev hy hoy
  have h3 : ¬ q < 0 := by omega
  exact ⟨_, fun w' _ => by simp [execOp, h1, h2, eqGuard, binOp, Op.shift, h3], rfl⟩
theorem q_conv {st dt : TypeId} {x : Operand} {k k' : IntKind} {n : Int} [hs : TInt E.P st k] [hd : TInt E.P dt k'] (hx : S.ev x = some (.d (.int k n))) (hox : okOp x = true) (hin : inK k' n) : Swift E S ⟨dst, .convert st dt x, ty, pos, af, gd⟩ (.d (.int k' n)) := Swift.mk fun β a w h => by
  have h1 : a.eval x = .int k n := h.ev hx hox
  exact ⟨.int k' n, fun w' _ => by simp [execOp, h1, convert, run_underlying (int_parts hs), run_underlying (int_parts hd), Conv.intToInt, wrap_in hin], rfl⟩
theorem q_conv_w {st dt : TypeId} {x : Operand} {k k' : IntKind} {n : Int} [hs : TInt E.P st k] [hd : TInt E.P dt k'] (hx : S.ev x = some (.d (.int k n))) (hox : okOp x = true) : Swift E S ⟨dst, .convert st dt x, ty, pos, af, gd⟩ (.d (.int k' (k'.wrap n))) := Swift.mk fun β a w h => by
  have h1 : a.eval x = .int k n := h.ev hx hox
  exact ⟨.int k' (k'.wrap n), fun w' _ => by simp [execOp, h1, convert, run_underlying (int_parts hs), run_underlying (int_parts hd), Conv.intToInt], rfl⟩
theorem q_extract {x : Operand} {vs : List V} {i : Nat} {v : V} (hx : S.ev x = some (.tup vs)) (hox : okOp x = true) (hv : vs[i]? = some v) : Swift E S ⟨dst, .extract x i, ty, pos, af, gd⟩ v := Swift.mk fun β a w h => by
  obtain ⟨us, h1, h2⟩ := h.ev hx hox
  obtain ⟨u, h3, h4⟩ := RepL.get h2 hv
  exact ⟨u, fun w' _ => by simp [execOp, h1, Instr.extract, h3], h4⟩
theorem q_makeFunc {fn : Fn} {f c : List Operand} {fs cs : List V} (hf : Evs S f fs) (hc : Evs S c cs) : Swift E S ⟨dst, .makeFunc fn f.toArray c.toArray, ty, pos, af, gd⟩ (.clo fn fs cs) := Swift.mk fun β a w h =>
  ⟨.func fn (f.map a.eval).toArray (c.map a.eval).toArray, fun w' _ => by simp [execOp, Instr.makeFunc], _, _, rfl, hf.rep h, hc.rep h⟩
theorem q_field {s f off ft : Nat} {x : Operand} {cs : List D} {v : D} [ht : TField E.P s f off ft] [hc : TCell E.P ft] (hx : S.ev x = some (.d (.agg cs))) (hox : okOp x = true) (hv : cs[off]? = some v) : Swift E S ⟨dst, .field s x f, ty, pos, af, gd⟩ (.d v) := Swift.mk fun β a w h => by
  obtain ⟨vs, h1, h2⟩ := h.ev hx hox
  obtain ⟨u, h3, _, h4⟩ := h2.get hv
  obtain ⟨fs, fd, i, hu, hf, e1, e2, hi, _⟩ := field_parts ht
  obtain ⟨d, i', hu', n1, n2, _, _⟩ := cell_parts hc
  exact ⟨u, fun w' _ => by simp [execOp, h1, Instr.field, run_underlying hu, hf, asAgg, part, e2, isAgg_no hu' n1 n2, e1, h3], h4⟩
theorem q_fields {s f off ft m : Nat} {x : Operand} {cs ds : List D} [ht : TField E.P s f off ft] [hc : TAgg E.P ft m] (hx : S.ev x = some (.d (.agg cs))) (hox : okOp x = true) (hv : Cut cs off m ds) : Swift E S ⟨dst, .field s x f, ty, pos, af, gd⟩ (.d (.agg ds)) := Swift.mk fun β a w h => by
  obtain ⟨vs, h1, h2⟩ := h.ev hx hox
  obtain ⟨h3, h4⟩ := hv.eq
  obtain ⟨fs, fd, i, hu, hf, e1, e2, hi, _⟩ := field_parts ht
  obtain ⟨d, i', hu', n1, hi', hs'⟩ := agg_parts hc
  have h5 : RepA w (Mut E.C.M0 β S.H) ds ((vs.drop off).take m) := by rw [h3]; exact (h2.drop off).take m
  refine ⟨.agg ((vs.drop off).take m).toArray, fun w' _ => ?_, _, rfl, h5⟩
  have he : (vs.toArray.extract off (off + m)) = ((vs.drop off).take m).toArray := by simp [List.extract_eq_take_drop]
  simp [execOp, h1, Instr.field, run_underlying hu, hf, asAgg, part, e2, isAgg_yes hu' n1, run_size hi', hs', e1, he]
theorem q_len {t : TypeId} {e sz : Nat} {x : Operand} {sz' n : Nat} {xs : List D} [ht : TSlice E.P t e sz] (hx : S.ev x = some (.d (.list sz' xs))) (hox : okOp x = true) (hn : xs.length = n) : Swift E S ⟨dst, .call { callee := .builtin .len, args := #[x], argTypes := #[t] }, ty, pos, af, gd⟩ (.d (.int .i64 (n : Nat))) := Swift.mk fun β a w h => by
  subst hn
  obtain ⟨ad, c, ys, h1, _⟩ := h.ev hx hox
  obtain ⟨i, hu, _⟩ := slice_parts ht
  exact ⟨.int .i64 (xs.length : Nat), fun w' _ => by simp [execOp, resolve, invoke, builtin, h1, Builtin.len_, run_underlying hu, goInt], rfl⟩
theorem q_len_own {t : TypeId} {e sz : Nat} {x : Operand} {n k e' sz' m : Nat} {sh : Bool} {xs : List D} [ht : TSlice E.P t e sz] (hx : S.ev x = some (.own n k)) (hox : okOp x = true) (hl : look n S.H = some (.row e' sz' sh xs k)) (hm : xs.length = m) :
    Swift E S ⟨dst, .call { callee := .builtin .len, args := #[x], argTypes := #[t] }, ty, pos, af, gd⟩ (.d (.int .i64 (m : Nat))) := Swift.mk fun β a w h => by
  subst hm
  have h1 : a.eval x = β n := h.ev hx hox e' sz' sh xs hl
  obtain ⟨ys, h2, _⟩ := h.obs n _ hl
  obtain ⟨ad, c, h3, _⟩ := owns_shape h2
  obtain ⟨i, hu, _⟩ := slice_parts ht
  exact ⟨.int .i64 (xs.length : Nat), fun w' _ => by simp [execOp, resolve, invoke, builtin, h1, h3, Builtin.len_, run_underlying hu, goInt], rfl⟩
theorem q_len_nils {t : TypeId} {e sz : Nat} {x : Operand} {sz' : Nat} [ht : TSlice E.P t e sz] (hx : S.ev x = some (.nils sz')) (hox : okOp x = true) : Swift E S ⟨dst, .call { callee := .builtin .len, args := #[x], argTypes := #[t] }, ty, pos, af, gd⟩ (.d (.int .i64 (0 : Nat))) := Swift.mk fun β a w h => by
  have h1 : a.eval x = .slice none 0 0 := h.ev hx hox
  obtain ⟨i, hu, _⟩ := slice_parts ht
  exact ⟨.int .i64 (0 : Nat), fun w' _ => by simp [execOp, resolve, invoke, builtin, h1, Builtin.len_, run_underlying hu, goInt], rfl⟩
theorem q_len_str {t : TypeId} {x : Operand} {s : ByteArray} [ht : TStr E.P t] (hx : S.ev x = some (.d (.str s))) (hox : okOp x = true) : Swift E S ⟨dst, .call { callee := .builtin .len, args := #[x], argTypes := #[t] }, ty, pos, af, gd⟩ (.d (.int .i64 (s.size : Nat))) := Swift.mk fun β a w h => by
  have h1 : a.eval x = .string s := h.ev hx hox
  exact ⟨.int .i64 (s.size : Nat), fun w' _ => by simp [execOp, resolve, invoke, builtin, h1, Builtin.len_, run_underlying (str_parts ht), goInt], rfl⟩
theorem list_elem {w : World} {M : Nat → Nat → Prop} {sz : Nat} {xs : List D} {v : Value} (h : RepD w M (.list sz xs) v) (hsz : 0 < sz) {i : Nat} {x : D} (hx : xs[i]? = some x) {cs : List D} (hc : CellsD x cs) :
    ∃ b o c, v = .slice (some ⟨b, o, none⟩) xs.length c ∧ RepD w M (.ref cs 0) (.pointer (some ⟨b, o + i * sz, none⟩)) := by
  obtain ⟨a, c, ys, rfl, h1, h2, h3, h4, h5⟩ := h
  obtain ⟨u, h6, h7, h8⟩ := h4.get hx
  have hpos : 0 < u.cells.toList.length := by simp; omega
  obtain ⟨b, o, e, _, _⟩ := h5 _ _ (h8 0 u.cells.toList[0] (by simp [hpos]))
  subst e
  refine ⟨b, o, c, rfl, b, o + i * sz, u.cells.toList, rfl, hc.rep h6, fun j y hj => ?_⟩
  obtain ⟨b', o', e', h9, h10⟩ := h5 _ _ (h8 j y hj)
  cases e'
  exact ⟨b, o + i * sz, rfl, by rwa [Nat.add_assoc], by rwa [Nat.add_assoc]⟩
theorem run_indexAt {P : Program} {t e sz : Nat} (ht : TSlice P t e sz) {b o n c i : Nat} {k : IntKind} (hi : i < n) (w : World) : (Instr.indexAt t (.slice (some ⟨b, o, none⟩) n c) (.int k (i : Nat))).run P w = .ok (.pointer (some ⟨b, o + i * sz, none⟩)) w := by
  obtain ⟨ie, hu, hie, hs, _⟩ := slice_parts ht
  have h1 : (i : Int) < (n : Int) := by omega
  have h2 : ¬ n ≤ i := by omega
  simp [Instr.indexAt, asIntOf, run_underlying hu, h1, h2, run_size hie, hs, add_flat]
theorem q_index {t e sz i : Nat} {x y : Operand} {xs cs : List D} {z : D} {k : IntKind} {n : Int} [ht : TSlice E.P t e sz] (hx : S.ev x = some (.d (.list sz xs))) (hy : S.ev y = some (.d (.int k n))) (hox : okOp x = true) (hoy : okOp y = true) (hi : n = (i : Nat)) (hz : xs[i]? = some z) (hc : CellsD z cs) :
    Swift E S ⟨dst, .indexAddr t x y, ty, pos, af, gd⟩ (.d (.ref cs 0)) := Swift.mk fun β a w h => by
  subst hi
  obtain ⟨_, _, _, _, hsz⟩ := slice_parts ht
  obtain ⟨b, o, c, h1, h2⟩ := list_elem (h.ev hx hox) hsz hz hc
  have h3 : a.eval y = .int k (i : Nat) := h.ev hy hoy
  refine ⟨.pointer (some ⟨b, o + i * sz, none⟩), fun w' _ => ?_, h2⟩
  simp [execOp, h1, h3, run_indexAt ht (List.getElem?_eq_some_iff.1 hz).1]
theorem q_index_own {t e sz i n k' e' : Nat} {sh : Bool} {x y : Operand} {xs : List D} {k : IntKind} {m : Int} [ht : TSlice E.P t e sz] (hx : S.ev x = some (.own n k')) (hl : look n S.H = some (.row e' sz sh xs k')) (hy : S.ev y = some (.d (.int k m))) (hox : okOp x = true) (hoy : okOp y = true) (hi : m = (i : Nat)) (hz : i < xs.length) :
    Swift E S ⟨dst, .indexAddr t x y, ty, pos, af, gd⟩ (.el n k' i 0) := Swift.mk fun β a w h => by
  subst hi
  have h1 : a.eval x = β n := h.ev hx hox e' sz sh xs hl
  have h3 : a.eval y = .int k (i : Nat) := h.ev hy hoy
  obtain ⟨ys, h2, _⟩ := h.obs n _ hl
  obtain ⟨ie, hu, hie, hs, hpos⟩ := slice_parts ht
  rcases h2.2 with ⟨h4, h5⟩ | ⟨g, cap, cur, h4, _, _, _⟩
  · omega
  · refine ⟨.pointer (some ⟨g, i * sz, none⟩), fun w' _ => ?_, fun e2 sz2 sh2 xs2 hl2 => ?_⟩
    · have := run_indexAt (P := E.P) (b := g) (o := 0) (c := cap) (k := k) ht hz w'
      rw [Nat.zero_add] at this
      simp [execOp, h1, h3, h4, this]
    · rw [hl] at hl2
      cases hl2
      exact ⟨g, _, cap, h4, rfl⟩
theorem row_at {C : Ctx} {β : Nat → Value} {a : Act} {w : World} (h : StB C β S a w) {n e sz k i : Nat} {sh : Bool} {xs : List D} (hl : look n S.H = some (.row e sz sh xs k)) {z : D} (hz : xs[i]? = some z) {b l c : Nat} (hb' : β n = .slice (some ⟨b, 0, none⟩) l c) :
    ∃ u, RepD w (Mut C.M0 β S.H) z u ∧ ∀ w', Grows w w' → ∀ j v, u.cells.toList[j]? = some v → w'.cell? ⟨b, i * sz + j, none⟩ = some v := by
  obtain ⟨ys, h2, h3⟩ := h.obs n _ hl
  obtain ⟨u, h4, _, h5⟩ := h3.get hz
  refine ⟨u, h4, fun w' g j v hj => ?_⟩
  have := h2.cells (g := b) (by rw [hb']; rfl) _ v (h5 j v hj)
  rw [add_flat, Nat.zero_add] at this
  exact (g.cell (p := ⟨b, i * sz + j, none⟩) (World.block_lt_of_cell? w ⟨b, i * sz + j, none⟩ this)).trans this
theorem q_load_el {t n k i off e sz : Nat} {sh : Bool} {x : Operand} {xs cs : List D} {z v : D} [ht : TCell E.P t] (hx : S.ev x = some (.el n k i off)) (hox : okOp x = true) (hl : look n S.H = some (.row e sz sh xs k)) (hz : xs[i]? = some z) (hc : CellsD z cs) (hv : cs[off]? = some v) :
    Quiet E S ⟨dst, .load t x, ty, pos, af, gd⟩ (.d v) := Quiet.mk fun β a w h => by
  obtain ⟨b, l, c, h1, h2⟩ := h.ev hx hox e sz sh xs hl
  obtain ⟨u, h3, h4⟩ := row_at h hl hz h1
  obtain ⟨u', h5, _, h6⟩ := (hc.rep h3).get hv
  refine ⟨u', fun w' g => ?_, h6⟩
  have := loadAt_cell ht (h4 w' g off u' h5)
  simp [execOp, h2, this]
theorem q_load_els {t n k i off m e sz : Nat} {sh : Bool} {x : Operand} {xs cs ds : List D} {z : D} [ht : TAgg E.P t m] (hx : S.ev x = some (.el n k i off)) (hox : okOp x = true) (hl : look n S.H = some (.row e sz sh xs k)) (hz : xs[i]? = some z) (hc : CellsD z cs) (hv : Cut cs off m ds) :
    Quiet E S ⟨dst, .load t x, ty, pos, af, gd⟩ (.d (.agg ds)) := Quiet.mk fun β a w h => by
  obtain ⟨b, l, c, h1, h2⟩ := h.ev hx hox e sz sh xs hl
  obtain ⟨u, h3, h4⟩ := row_at h hl hz h1
  obtain ⟨h5, h6⟩ := hv.eq
  have h7 : RepA w (Mut E.C.M0 β S.H) ds ((u.cells.toList.drop off).take m) := by rw [h5]; exact ((hc.rep h3).drop off).take m
  refine ⟨.agg ((u.cells.toList.drop off).take m).toArray, fun w' g => ?_, _, rfl, h7⟩
  have := loadAt_agg (vs := (u.cells.toList.drop off).take m) (w := w') (b := b) (o := i * sz + off) ht (by rw [h7.length]; exact h6) (fun j v hj => by
    rw [List.getElem?_take, List.getElem?_drop] at hj
    split at hj
    · rw [Nat.add_assoc]; exact h4 w' g _ v hj
    · cases hj)
  simp [execOp, h2, this]
theorem q_field_el {s f off' ft n k i off : Nat} {x : Operand} [ht : TField E.P s f off' ft] (hx : S.ev x = some (.el n k i off)) (hox : okOp x = true) {e sz : Nat} {sh : Bool} {xs : List D} (hl : look n S.H = some (.row e sz sh xs k)) : Swift E S ⟨dst, .fieldAddr s x f, ty, pos, af, gd⟩ (.el n k i (off + off')) := Swift.mk fun β a w h => by
  obtain ⟨b, l, c, h1, h2⟩ := h.ev hx hox e sz sh xs hl
  refine ⟨.pointer (some ⟨b, i * sz + (off + off'), none⟩), fun w' _ => by simp [execOp, h2, run_fieldAt ht, Nat.add_assoc], fun e2 sz2 sh2 xs2 hl2 => ?_⟩
  rw [hl] at hl2
  cases hl2
  exact ⟨b, l, c, h1, rfl⟩
theorem list_sliced {w : World} {M : Nat → Nat → Prop} {sz : Nat} {xs : List D} {a : Option Addr} {c : Nat} (h : RepD w M (.list sz xs) (.slice a xs.length c)) {l m : Nat} (hlm : l ≤ m) (hm : m ≤ xs.length) :
    RepD w M (.list sz ((xs.drop l).take (m - l))) (sliced a l m c sz) := by
  obtain ⟨a', c', ys, e, h1, h2, h3, h4, h5⟩ := h
  cases e
  have hlen : ((xs.drop l).take (m - l)).length = m - l := by simp; omega
  have h6 := (h4.drop l (by omega)).take (m - l) (by simp; omega)
  unfold sliced
  by_cases hc : c = l
  · have : m - l = 0 := by omega
    rw [if_pos hc]
    refine ⟨a, c - l, [], by rw [hlen], by omega, by omega, fun hn => by have := h3 hn; omega, by rw [this, List.take_zero]; rfl, Reads.nil _ _ _⟩
  · rw [if_neg hc]
    refine ⟨a.map (·.add (l * sz)), c - l, _, by rw [hlen], by omega, by omega, fun hn => ?_, h6, ?_⟩
    · cases a with
      | none => have := h3 rfl; omega
      | some ad => cases hn
    · cases a with
      | none =>
        intro j y hj
        have hl0 := h6.length
        have hc0 := h3 rfl
        have : ((xs.drop l).take (m - l)).length = 0 := by omega
        rw [this, Nat.zero_mul] at hl0
        rw [List.length_eq_zero_iff.1 hl0] at hj
        simp at hj
      | some ad =>
        have hr : Reads w M (some ad) ys := h5
        intro j y hj
        rw [List.getElem?_take] at hj
        split at hj
        · rw [List.getElem?_drop] at hj
          obtain ⟨b, o, e, h7, h8⟩ := hr _ _ hj
          cases e
          refine ⟨b, o + l * sz, by simp [add_flat], by rwa [Nat.add_assoc], by rwa [Nat.add_assoc]⟩
        · cases hj
def bnd (S : Sd) (o : Option Operand) (d : Int) : Option Int := match o with
  | none => some d
  | some x => match S.ev x with
    | some (.d (.int _ n)) => if okOp x then some n else none
    | _ => none
theorem q_slice {t e sz l m : Nat} {x : Operand} {lo hi : Option Operand} {xs : List D} {li hi' : Int} [ht : TSlice E.P t e sz] (hx : S.ev x = some (.d (.list sz xs))) (hox : okOp x = true) (hl : bnd S lo 0 = some li) (hh : bnd S hi (xs.length : Nat) = some hi') (el : li = (l : Nat)) (eh : hi' = (m : Nat)) (hlm : l ≤ m) (hm : m ≤ xs.length) :
    Swift E S ⟨dst, .slice t x lo hi none, ty, pos, af, gd⟩ (.d (.list sz ((xs.drop l).take (m - l)))) := Swift.mk fun β a w h => by
  subst el; subst eh
  have h0 := h.ev hx hox
  obtain ⟨ad, c, ys, h1, h2, _⟩ := h0
  obtain ⟨ie, hu, hie, hs, hpos⟩ := slice_parts ht
  have hr := h.ev hx hox
  rw [h1] at hr
  refine ⟨sliced ad l m c sz, fun w' _ => ?_, list_sliced hr hlm hm⟩
  have hm' : (m : Int) ≤ (c : Int) := by omega
  have hlo : lo = none ∧ l = 0 ∨ ∃ y k, lo = some y ∧ a.eval y = .int k (l : Nat) := by
    cases lo with
    | none => simp only [bnd, Option.some.injEq] at hl; exact .inl ⟨rfl, by omega⟩
    | some y =>
      simp only [bnd] at hl
      split at hl
      · rename_i k n hy
        split at hl
        · rename_i hok
          cases hl
          exact .inr ⟨y, k, rfl, h.ev hy hok⟩
        · cases hl
      · cases hl
  have hhi : hi = none ∧ m = xs.length ∨ ∃ y k, hi = some y ∧ a.eval y = .int k (m : Nat) := by
    cases hi with
    | none => simp only [bnd, Option.some.injEq] at hh; exact .inl ⟨rfl, by omega⟩
    | some y =>
      simp only [bnd] at hh
      split at hh
      · rename_i k n hy
        split at hh
        · rename_i hok
          cases hh
          exact .inr ⟨y, k, rfl, h.ev hy hok⟩
        · cases hh
      · cases hh
  have hb : (Instr.sliceBounds true xs.length c (lo.map a.eval) (hi.map a.eval) none).run E.P w' = .ok (l, m, c) w' := by
    rcases hlo with ⟨rfl, rfl⟩ | ⟨y, k, rfl, hy⟩ <;> rcases hhi with ⟨rfl, rfl⟩ | ⟨y', k', rfl, hy'⟩
    · simp [Instr.sliceBounds]
    · simp [Instr.sliceBounds, hy', Instr.sliceBound, asIntOf, hm', show ¬ c < m by omega]
    · have : (l : Int) ≤ (xs.length : Int) := by omega
      simp [Instr.sliceBounds, hy, Instr.sliceBound, asIntOf, this, show ¬ xs.length < l by omega]
    · have : (l : Int) ≤ (m : Int) := by omega
      simp [Instr.sliceBounds, hy, hy', Instr.sliceBound, asIntOf, hm', this, show m ≤ c by omega, hlm]
  simp [execOp, h1, Instr.sliceAt, run_underlying hu, Instr.slice, hb, run_size hie, hs, sliced]
theorem q_index_str {t i : Nat} {x y : Operand} {s : ByteArray} {k : IntKind} {n : Int} {c : UInt8} [ht : TStr E.P t] (hx : S.ev x = some (.d (.str s))) (hy : S.ev y = some (.d (.int k n))) (hox : okOp x = true) (hoy : okOp y = true) (hi : n = (i : Nat)) (hc : s.data.toList[i]? = some c) :
    Swift E S ⟨dst, .index t x y, ty, pos, af, gd⟩ (.d (.int .u8 c.toNat)) := Swift.mk fun β a w h => by
  subst hi
  have h1 : a.eval x = .string s := h.ev hx hox
  have h2 : a.eval y = .int k (i : Nat) := h.ev hy hoy
  refine ⟨.int .u8 c.toNat, fun w' _ => ?_, rfl⟩
  have h3 : s[i]? = some c := by
    obtain ⟨h4, h5⟩ := List.getElem?_eq_some_iff.1 hc
    rw [getElem?_pos s i (by simpa using h4)]
    rw [← h5]
    rfl
  simp [execOp, h1, h2, Instr.index, asIntOf, run_underlying (str_parts ht), h3]
end
end Go.Proofs.YtcblefmjacofgaaGreatDoor
